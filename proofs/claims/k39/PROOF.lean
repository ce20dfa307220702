import PyProof.Rows.All
import Wide.All
import OpenK.AllK
import Wide.FinOn
import HandS.ForMost
import HandS.ForExc
import HandS.Wide
import HandS.IsInst
import HandS.Evl
import HandS.HeadEnd
import HandS.HeadHook2
import HandS.Head2
import HandS.Lambda
import HandS.HeadHook4
import HandS.Text
import HandS.StrMore
import HandS.Style
import HandS.Codes
import HandS.Walk
import KE.KRevSl
import HandS.ExcInit
import HandS.ExcOwn
import HandS.TryOnly
import HandS.ExcField
import KE.KExcIs
import HandS.ExcIs
import HandS.Zip0
import HandS.DictComp
import HandS.HeadNt
import HandS.More
import HandS.Star
import PySem.Challenge.RW_shortheld_k39_whole_fewest_phrases
set_option Elab.async false
set_option linter.all false
set_option maxRecDepth 100000
set_option maxHeartbeats 4000000
/-! # The base: what is frozen, what is owned; steps of readings -/
namespace Sh
open PySem PySem.Spec PyProof.Rows L2

/-! ### heaps: F frozen for good, M owned (may still change), H as it is -/
abbrev Ow := List (Addr × HO)
/-- the name of the one lambda of the program -/
def lamQ : Str := "Rounds.pairs.<locals>.<lambda>"
def NTb : HO → Prop
  | .tbl _ => False
  | _ => True
/-- what is owned at p: just that; of a table of code objects, that it is one, and its codes are known -/
def Hat (F H : Hp) (p : Addr) : HO → Prop
  | .tbl _ => ∃ ps : Array Value, H p = some (.tbl ps) ∧ TriplesOk ps.toList ∧ ∀ (pos : Pos) (cv : Value), codeAmong pos ps.toList = some cv → ∃ c, cv = .ref c ∧ F c = some (LamX.CodeO c lamQ)
  | o => H p = some o
theorem Hat.of {F H : Hp} {p : Addr} {o : HO} (h : Hat F H p o) (hn : NTb o) : H p = some o := by cases o <;> first | exact h | exact hn.elim
theorem Hat.mk {F H : Hp} {p : Addr} {o : HO} (h : H p = some o) (hn : NTb o) : Hat F H p o := by cases o <;> first | exact h | exact hn.elim
theorem Hat.ex {F H : Hp} {p : Addr} {o : HO} (h : Hat F H p o) : ∃ u, H p = some u := by
  cases o <;> first | exact ⟨_, h⟩ | exact ⟨_, h.choose_spec.1⟩
theorem Hat.mono {F F' H H' : Hp} {p : Addr} {o : HO} (h : Hat F H p o) (e : Same F F') (k : ∀ u, H p = some u → H' p = some u) : Hat F' H' p o := by
  cases o <;> first
    | exact k _ h
    | (obtain ⟨ps, h1, h2, h3⟩ := h
       exact ⟨ps, k _ h1, h2, fun pos cv hc => let ⟨c, e1, e2⟩ := h3 pos cv hc; ⟨c, e1, e _ _ e2⟩⟩)
class Hs (F : outParam Hp) (M : outParam Ow) (H : Hp) : Prop where
  fz : Same F H
  ow : ∀ (i : Nat) p o, M[i]? = some (p, o) → Hat F H p o
  fr : ∀ (i : Nat) p o, M[i]? = some (p, o) → F p = none
  nd : ∀ (i j : Nat) p o o', M[i]? = some (p, o) → M[j]? = some (p, o') → i = j
theorem same_upd {H : Hp} {p : Addr} {o : HO} (h : H p = none) : Same H (upd H p o) := fun b x e => by
  rw [upd_ne (ne_of_none e h)]
  exact e
section
variable {F F' H : Hp} {M : Ow} {p a : Addr} {o o' u : HO} {j : Nat}
theorem Hs.start : Hs H [] H := ⟨Same.refl H, fun i p o e => by simp at e, fun i p o e => by simp at e, fun i j p o o' e => by simp at e⟩
theorem Hs.f (h : Hs F M H) (e : F a = some u) : H a = some u := h.fz _ _ e
theorem Hs.at (h : Hs F M H) (e : M[j]? = some (a, u)) (hn : NTb u := by trivial) : H a = some u := (h.ow _ _ _ e).of hn
theorem Hs.free (h : Hs F M H) (e : H p = none) : F p = none := h.fz.free e
theorem Hs.new (h : Hs F M H) (hp : H p = none) (hn : NTb o := by trivial) : Hs F ((p, o) :: M) (upd H p o) := by
  refine ⟨h.fz.trans (same_upd hp), fun i q u e => ?_, fun i q u e => ?_, fun i j q u u' e e' => ?_⟩
  · cases i with
    | zero => simp at e; obtain ⟨rfl, rfl⟩ := e; exact .mk upd_same hn
    | succ i =>
      have e1 := h.ow i q u (by simpa using e)
      exact e1.mono (Same.refl F) fun v hv => by rw [upd_ne (ne_of_none hv hp)]; exact hv
  · cases i with
    | zero => simp at e; obtain ⟨rfl, rfl⟩ := e; exact h.free hp
    | succ i => exact h.fr i q u (by simpa using e)
  · cases i with
    | zero =>
      simp at e; obtain ⟨rfl, rfl⟩ := e
      cases j with
      | zero => rfl
      | succ j =>
        obtain ⟨_, e1⟩ := (h.ow j p u' (by simpa using e')).ex
        rw [hp] at e1; cases e1
    | succ i =>
      cases j with
      | zero =>
        simp at e'; obtain ⟨rfl, rfl⟩ := e'
        obtain ⟨_, e1⟩ := (h.ow i p u (by simpa using e)).ex
        rw [hp] at e1; cases e1
      | succ j => exact congrArg (· + 1) (h.nd i j q u u' (by simpa using e) (by simpa using e'))
theorem Hs.newF (h : Hs F M H) (hp : H p = none) : Hs (upd F p o) M (upd H p o) := by
  refine ⟨fun b u e => ?_, fun i q u e => ?_, fun i q u e => ?_, h.nd⟩
  · by_cases hb : b = p
    · subst hb; rw [upd_same] at e ⊢; exact e
    · rw [upd_ne hb] at e ⊢; exact h.fz _ _ e
  · exact (h.ow i q u e).mono (same_upd (h.free hp)) fun v hv => by rw [upd_ne (ne_of_none hv hp)]; exact hv
  · obtain ⟨_, e1⟩ := (h.ow i q u e).ex
    rw [upd_ne (ne_of_none e1 hp)]; exact h.fr i q u e
theorem Hs.set (h : Hs F M H) (hm : M[j]? = some (p, o)) (hn : NTb o' := by trivial) : Hs F (M.set j (p, o')) (upd H p o') := by
  have hj : j < M.length := (List.getElem?_eq_some_iff.mp hm).1
  have key : ∀ (i : Nat) q u, (M.set j (p, o'))[i]? = some (q, u) → (i = j ∧ q = p ∧ u = o') ∨ (i ≠ j ∧ M[i]? = some (q, u)) := fun i q u e => by
    by_cases hi : i = j
    · subst hi
      rw [List.getElem?_set_self hj] at e
      cases e; exact .inl ⟨rfl, rfl, rfl⟩
    · rw [List.getElem?_set_ne (Ne.symm hi)] at e
      exact .inr ⟨hi, e⟩
  refine ⟨fun b u e => ?_, fun i q u e => ?_, fun i q u e => ?_, fun i k q u u' e e' => ?_⟩
  · have hb : b ≠ p := fun z => by rw [z, h.fr j p o hm] at e; cases e
    rw [upd_ne hb]; exact h.fz _ _ e
  · rcases key i q u e with ⟨_, z1, z2⟩ | ⟨hi, e1⟩
    · rw [z1, z2]; exact .mk upd_same hn
    · have hq : q ≠ p := fun z => hi (h.nd i j q u o e1 (by rw [z]; exact hm))
      exact (h.ow i q u e1).mono (Same.refl F) fun v hv => by rw [upd_ne hq]; exact hv
  · rcases key i q u e with ⟨_, z1, z2⟩ | ⟨hi, e1⟩
    · rw [z1]; exact h.fr j _ o hm
    · exact h.fr i q u e1
  · rcases key i q u e with ⟨z1, z2, _⟩ | ⟨_, e1⟩
    · rcases key k q u' e' with ⟨z3, _, _⟩ | ⟨_, e2⟩
      · rw [z1, z3]
      · rw [z1]; rw [z2] at e2; exact h.nd _ _ _ _ _ hm e2
    · rcases key k q u' e' with ⟨z3, z4, _⟩ | ⟨_, e2⟩
      · rw [z3]; rw [z4] at e1; exact h.nd _ _ _ _ _ e1 hm
      · exact h.nd _ _ _ _ _ e1 e2
theorem get_erase {α : Type} {l : List α} {i j : Nat} {x : α} (e : (l.eraseIdx j)[i]? = some x) : ∃ i', i' ≠ j ∧ l[i']? = some x ∧ i = (if i' < j then i' else i' - 1) := by
  rw [List.getElem?_eraseIdx] at e
  split at e
  · exact ⟨i, by omega, e, by rw [if_pos (by assumption)]⟩
  · exact ⟨i + 1, by omega, e, by rw [if_neg (by omega)]; omega⟩
theorem Hs.drop (h : Hs F M H) (j : Nat) : Hs F (M.eraseIdx j) H := by
  refine ⟨h.fz, fun i q u e => ?_, fun i q u e => ?_, fun i k q u u' e e' => ?_⟩
  · obtain ⟨i', _, e, _⟩ := get_erase e; exact h.ow _ _ _ e
  · obtain ⟨i', _, e, _⟩ := get_erase e; exact h.fr _ _ _ e
  · obtain ⟨i', _, e, z⟩ := get_erase e
    obtain ⟨k', _, e', z'⟩ := get_erase e'
    have := h.nd _ _ _ _ _ e e'
    subst this; rw [z, z']
theorem Hs.freeze (h : Hs F M H) (hm : M[j]? = some (p, o)) (hn : NTb o := by trivial) : Hs (upd F p o) (M.eraseIdx j) H := by
  have h2 := h.drop j
  refine ⟨fun b u e => ?_, fun i q u e => (h2.ow i q u e).mono (same_upd (h.fr _ _ _ hm)) fun _ hv => hv, fun i q u e => ?_, h2.nd⟩
  · by_cases hb : b = p
    · subst hb; rw [upd_same] at e; cases e; exact h.at hm hn
    · rw [upd_ne hb] at e; exact h.fz _ _ e
  · obtain ⟨i', hi, e, _⟩ := get_erase e
    have hq : q ≠ p := fun z => by subst z; exact hi (h.nd i' j q u o e hm)
    rw [upd_ne hq]; exact h.fr _ _ _ e
theorem Hs.same_freeze (h : Hs F M H) (hm : M[j]? = some (p, o)) : Same F (upd F p o) := same_upd (h.fr _ _ _ hm)
end
section
variable {K : PySem.W.Frag} {F F' H H' : Hp} {M : Ow} {a : Addr} {xs : List V}
theorem same_l (e : Same H H') (h : SqL K H a xs) : SqL K H' a xs := e.seq h
theorem same_t (e : Same H H') (h : SqT K H a xs) : SqT K H' a xs := by
  rcases h with (h | ⟨o, h⟩) | h
  · exact .inl (.inl (e _ _ h))
  · exact .inl (.inr ⟨o, e _ _ h⟩)
  · exact .inr h
theorem sz {n : Nat} (h : n ≤ 16777216) : n ≤ sizeLine := by rw [sizeLine_eq]; exact h
theorem szl {n : Nat} (h : n < 16777216) : n < sizeLine := by rw [sizeLine_eq]; exact h
end

/-! ### attributes: the names in order, the values in order -/
theorem fld_get : ∀ {ns : List Str} {vs : List V} {i : Nat} {f : Str} {v : V}, ns.Nodup → ns[i]? = some f → vs[i]? = some v → (ns.zip vs).lookup f = some v
  | [], _, _, _, _, _, h, _ => by simp at h
  | _ :: _, [], _, _, _, _, _, h => by simp at h
  | n :: ns, v :: vs, 0, f, w, _, h, h2 => by
    simp at h h2; subst h h2
    simp [List.zip_cons_cons, List.lookup]
  | n :: ns, v :: vs, i + 1, f, w, hd, h, h2 => by
    have hd' := List.nodup_cons.mp hd
    have hm : f ∈ ns := List.mem_of_getElem? (by simpa using h)
    have hne : (f == n) = false := beq_eq_false_iff_ne.mpr fun z => hd'.1 (z ▸ hm)
    rw [List.zip_cons_cons, List.lookup, hne]
    exact fld_get hd'.2 (by simpa using h) (by simpa using h2)
theorem fld_put : ∀ {ns : List Str} {vs : List V} {i : Nat} {f : Str} {v : V}, ns.Nodup → ns[i]? = some f → i < vs.length → putF f v (ns.zip vs) = ns.zip (vs.set i v)
  | [], _, _, _, _, _, h, _ => by simp at h
  | _ :: _, [], _, _, _, _, _, h => by simp at h
  | n :: ns, w :: vs, 0, f, v, _, h, _ => by
    simp at h; subst h
    show (if n = n then _ else _) = _
    rw [if_pos rfl]; rfl
  | n :: ns, w :: vs, i + 1, f, v, hd, h, h2 => by
    have hd' := List.nodup_cons.mp hd
    have hm : f ∈ ns := List.mem_of_getElem? (by simpa using h)
    have hne : ¬ n = f := fun z => hd'.1 (z ▸ hm)
    show (if n = f then _ else (n, w) :: putF f v (ns.zip vs)) = (n, w) :: ns.zip (vs.set i v)
    rw [if_neg hne, fld_put hd'.2 (by simpa using h) (by simpa using h2)]
theorem fld_new : ∀ {ns : List Str} {vs : List V} {f : Str} {v : V}, ns.Nodup → ns[vs.length]? = some f → putF f v (ns.zip vs) = ns.zip (vs ++ [v])
  | [], _, _, _, _, h => by simp at h
  | n :: ns, [], f, v, _, h => by
    simp at h; subst h; simp [putF]
  | n :: ns, w :: vs, f, v, hd, h => by
    have hd' := List.nodup_cons.mp hd
    have h' : ns[vs.length]? = some f := by simpa using h
    have hm : f ∈ ns := List.mem_of_getElem? h'
    have hne : ¬ n = f := fun z => hd'.1 (z ▸ hm)
    show (if n = f then _ else (n, w) :: putF f v (ns.zip vs)) = (n, w) :: ns.zip (vs ++ [v])
    rw [if_neg hne, fld_new hd'.2 h']
theorem fld_none : ∀ {ns : List Str} {vs : List V} {f : Str}, f ∉ ns → (ns.zip vs).lookup f = none
  | [], _, _, _ => by simp
  | _ :: _, [], _, _ => by simp
  | n :: ns, w :: vs, f, h => by
    have hne : (f == n) = false := beq_eq_false_iff_ne.mpr fun z => h (by rw [z]; exact List.mem_cons_self)
    rw [List.zip_cons_cons, List.lookup, hne]
    exact fld_none fun z => h (List.mem_cons_of_mem _ z)
theorem zip_len {ns : List Str} {vs : List V} (h : ns.length < 1000) : (ns.zip vs).length < 1000 := by
  rw [List.length_zip]; omega
/-- an instance: class, own dict, the names, the values -/
abbrev Ob (C dx : Addr) (ns : List Str) (vs : List V) : HO := .ins C dx (ns.zip vs)
/-- a class whose instances have these attributes -/
class ClsF (K : PySem.W.Frag) (C : Addr) (ns : outParam (List Str)) : Prop where
  cl : Cls K C
  nd : ns.Nodup
  no : ∀ f ∈ ns, NoAttr K C f
  ln : ns.length < 1000

/-! ### what is found by itself: by classes -/
/-- the slot i holds v; the slots behind a store -/
class Lk (σ : L2.St) (i : Nat) (v : outParam V) : Prop where
  h : σ[i]? = some (some v)
instance {v : V} {σ : L2.St} : Lk (some v :: σ) 0 v := ⟨rfl⟩
instance {x : Option V} {σ : L2.St} {i : Nat} {v : V} [l : Lk σ i v] : Lk (x :: σ) (i + 1) v := ⟨by rw [List.getElem?_cons_succ]; exact l.h⟩
class Ss (σ : L2.St) (i : Nat) (x : Option V) (σ' : outParam L2.St) : Prop where
  h : σ.set i x = σ'
instance {x y : Option V} {σ : L2.St} : Ss (y :: σ) 0 x (x :: σ) := ⟨rfl⟩
instance {x y : Option V} {σ σ' : L2.St} {i : Nat} [l : Ss σ i x σ'] : Ss (y :: σ) (i + 1) x (y :: σ') := ⟨by rw [List.set_cons_succ, l.h]⟩
class Nt {α : Type} (xs : List α) (i : Nat) (v : outParam α) : Prop where
  h : xs[i]? = some v
instance {α : Type} {v : α} {xs : List α} : Nt (v :: xs) 0 v := ⟨rfl⟩
instance {α : Type} {x v : α} {xs : List α} {i : Nat} [l : Nt xs i v] : Nt (x :: xs) (i + 1) v := ⟨by rw [List.getElem?_cons_succ]; exact l.h⟩
class Sl {α : Type} (xs : List α) (i : Nat) (x : α) (ys : outParam (List α)) : Prop where
  lt : i < xs.length
  h : xs.set i x = ys
instance {α : Type} {x y : α} {xs : List α} : Sl (y :: xs) 0 x (x :: xs) := ⟨by simp, rfl⟩
instance {α : Type} {x y : α} {xs ys : List α} {i : Nat} [l : Sl xs i x ys] : Sl (y :: xs) (i + 1) x (y :: ys) := ⟨by have := l.lt; simp; omega, by rw [List.set_cons_succ, l.h]⟩
/-- an item by a Python index -/
class At (xs : List V) (i : Int) (v : outParam V) : Prop where
  h : atI xs i = some v
theorem atN {xs : List V} {n : Nat} {v : V} (h : xs[n]? = some v) : At xs (n : Int) v := ⟨atI_nat h⟩
instance {xs : List V} {v : V} [l : Nt xs 0 v] : At xs 0 v := atN (n := 0) l.h
instance {xs : List V} {v : V} [l : Nt xs 1 v] : At xs 1 v := atN (n := 1) l.h
instance {xs : List V} {v : V} [l : Nt xs 2 v] : At xs 2 v := atN (n := 2) l.h
instance {xs : List V} {v : V} [l : Nt xs 3 v] : At xs 3 v := atN (n := 3) l.h
instance {xs : List V} {v : V} [l : Nt xs 4 v] : At xs 4 v := atN (n := 4) l.h
instance {xs : List V} {v : V} [l : Nt xs 5 v] : At xs 5 v := atN (n := 5) l.h
instance {xs : List V} {v : V} : At (xs ++ [v]) (-1) v := ⟨atI_last xs v⟩
/-- among what is owned: the object at p; what is owned behind a change -/
class Im (M : Ow) (p : Addr) (o : outParam HO) : Prop where
  h : ∃ j : Nat, M[j]? = some (p, o)
instance im0 {p : Addr} {o : HO} {M : Ow} : Im ((p, o) :: M) p o := ⟨0, rfl⟩
instance im1 {p : Addr} {o : HO} {x : Addr × HO} {M : Ow} [l : Im M p o] : Im (x :: M) p o := let ⟨j, h⟩ := l.h; ⟨j + 1, by rw [List.getElem?_cons_succ]; exact h⟩
class Sw (M : Ow) (p : Addr) (o' : HO) (M' : outParam Ow) : Prop where
  h : ∃ (j : Nat) (o : HO), M[j]? = some (p, o) ∧ M' = M.set j (p, o')
instance sw0 {p : Addr} {o o' : HO} {M : Ow} : Sw ((p, o) :: M) p o' ((p, o') :: M) := ⟨0, o, rfl, rfl⟩
instance sw1 {p : Addr} {o' : HO} {x : Addr × HO} {M M' : Ow} [l : Sw M p o' M'] : Sw (x :: M) p o' (x :: M') := let ⟨j, o, h, e⟩ := l.h; ⟨j + 1, o, by rw [List.getElem?_cons_succ]; exact h, by rw [List.set_cons_succ, e]⟩
/-- .. without the object at p -/
class Dr (M : Ow) (p : Addr) (o : outParam HO) (M' : outParam Ow) : Prop where
  h : ∃ j : Nat, M[j]? = some (p, o) ∧ M' = M.eraseIdx j
instance dr0 {p : Addr} {o : HO} {M : Ow} : Dr ((p, o) :: M) p o M := ⟨0, rfl, rfl⟩
instance dr1 {p : Addr} {o : HO} {x : Addr × HO} {M M' : Ow} [l : Dr M p o M'] : Dr (x :: M) p o (x :: M') := let ⟨j, h, e⟩ := l.h; ⟨j + 1, by rw [List.getElem?_cons_succ]; exact h, by rw [List.eraseIdx_cons_succ, e]⟩
theorem Hs.im {F H : Hp} {M : Ow} {p : Addr} {o : HO} (hs : Hs F M H) (l : Im M p o) (hn : NTb o := by trivial) : H p = some o := let ⟨_, h⟩ := l.h; hs.at h hn
theorem Hs.sw {F H : Hp} {M M' : Ow} {p : Addr} {o' : HO} (hs : Hs F M H) (l : Sw M p o' M') (hn : NTb o' := by trivial) : Hs F M' (upd H p o') := by
  obtain ⟨j, o, h, rfl⟩ := l.h
  exact hs.set h hn
theorem Hs.dr {F H : Hp} {M M' : Ow} {p : Addr} {o : HO} (hs : Hs F M H) (l : Dr M p o M') (hn : NTb o := by trivial) : Hs (upd F p o) M' H ∧ Same F (upd F p o) := by
  obtain ⟨j, h, rfl⟩ := l.h
  exact ⟨hs.freeze h hn, hs.same_freeze h⟩
/-- the place of the object at p: what is owned when it holds this or that -/
class Cell (M : Ow) (p : Addr) (m : outParam (HO → Ow)) : Prop where
  h : ∃ (j : Nat) (o : HO), M[j]? = some (p, o) ∧ ∀ o', m o' = M.set j (p, o')
instance cell0 {p : Addr} {o : HO} {M : Ow} : Cell ((p, o) :: M) p (fun o' => (p, o') :: M) := ⟨0, o, rfl, fun _ => rfl⟩
instance cell1 {p : Addr} {x : Addr × HO} {M : Ow} {m : HO → Ow} [l : Cell M p m] : Cell (x :: M) p (fun o' => x :: m o') :=
  let ⟨j, o, h, e⟩ := l.h; ⟨j + 1, o, by rw [List.getElem?_cons_succ]; exact h, fun o' => by rw [List.set_cons_succ, e]⟩
theorem cell_sw {M : Ow} {p : Addr} {m : HO → Ow} (c : Cell M p m) (o' : HO) : Sw M p o' (m o') := let ⟨j, o, h, e⟩ := c.h; ⟨j, o, h, e o'⟩
theorem cell_im {M : Ow} {p : Addr} {m : HO → Ow} (c : Cell M p m) (o' : HO) : Im (m o') p o' := by
  obtain ⟨j, o, h, e⟩ := c.h
  rw [e o']
  exact ⟨j, List.getElem?_set_self (List.getElem?_eq_some_iff.mp h).1⟩
theorem cell_sw2 {M : Ow} {p : Addr} {m : HO → Ow} (c : Cell M p m) (o o' : HO) : Sw (m o) p o' (m o') := by
  obtain ⟨j, u, h, e⟩ := c.h
  rw [e o, e o']
  exact ⟨j, o, List.getElem?_set_self (List.getElem?_eq_some_iff.mp h).1, by rw [List.set_set]⟩
theorem cell_cell {M : Ow} {p : Addr} {m : HO → Ow} (c : Cell M p m) (o : HO) : Cell (m o) p m := by
  obtain ⟨j, u, h, e⟩ := c.h
  refine ⟨j, o, ?_, fun o' => ?_⟩
  · rw [e o]; exact List.getElem?_set_self (List.getElem?_eq_some_iff.mp h).1
  · rw [e o, e o', List.set_set]
/-- F' goes on from F -/
class Sm (F : outParam Hp) (F' : Hp) : Prop where
  h : Same F F'
/-- frozen: a tuple, a list, an object -/
class FzT (K : PySem.W.Frag) (F : Hp) (a : Addr) (xs : outParam (List V)) : Prop where
  h : SqT K F a xs
class FzL (K : PySem.W.Frag) (F : Hp) (a : Addr) (xs : outParam (List V)) : Prop where
  h : SqL K F a xs
class Fz (F : Hp) (a : Addr) (o : outParam HO) : Prop where
  h : F a = some o
section
variable {K : PySem.W.Frag} {F F' : Hp} {a : Addr} {xs : List V} {o : HO}
instance (priority := 900) [e : Sm F F'] [l : FzT K F a xs] : FzT K F' a xs := ⟨same_t e.h l.h⟩
instance (priority := 900) [e : Sm F F'] [l : FzL K F a xs] : FzL K F' a xs := ⟨same_l e.h l.h⟩
instance (priority := 900) [e : Sm F F'] [l : Fz F a o] : Fz F' a o := ⟨e.h _ _ l.h⟩
theorem FzT.of (h : F a = some (.tup xs)) : FzT K F a xs := ⟨.inl (.inl h)⟩
theorem FzL.of (h : F a = some (.lst xs)) : FzL K F a xs := ⟨.inl (.inl h)⟩
end
/-- the place of an attribute among the names; no attribute -/
class Fx (ns : List Str) (f : Str) (i : outParam Nat) : Prop where
  h : ns[i]? = some f
class Nf (ns : List Str) (f : Str) : Prop where
  h : f ∉ ns
/-! ### one step; steps -/
class St1 (P : Prop) (P' : outParam Prop) : Prop where
  imp : P' → P
class Rn (P : Prop) (P' : outParam Prop) : Prop where
  imp : P' → P
instance (priority := 10) {P : Prop} : Rn P P := ⟨id⟩
instance {P P' P'' : Prop} [a : St1 P P'] [b : Rn P' P''] : Rn P P'' := ⟨fun h => a.imp (b.imp h)⟩
theorem go {P P' P'' : Prop} [a : St1 P P'] [b : Rn P' P''] (h : P'') : P := a.imp (b.imp h)
/-! ### rules by names -/
def rAddI : R2 := rI0 fun i j => .int (i + j)
def rSubI : R2 := rI0 fun i j => .int (i - j)
def rMulI : R2 := rI CMul fun i j => .int (i * j)
def rDivI : R2 := rI CDivW fun i j => .int (i / j)
def rModI : R2 := rI (fun _ j => 0 < j) fun i j => .int (i % j)
def rPowI : R2 := rI CPow fun i j => .int (i ^ j.toNat)
def rLtI : R2 := rI0 fun i j => .bl (decide (i < j))
def rLeI : R2 := rI0 fun i j => .bl (decide (i ≤ j))
def rGtI : R2 := rI0 fun i j => .bl (decide (j < i))
def rGeI : R2 := rI0 fun i j => .bl (decide (j ≤ i))
def rNegI : V → Hp → VK → Prop := rU fun i => .int (-i)
def rIsNone : R2 := fun x y H Q => y = .non ∧ Q (.bl (decide (x = .non))) H
def rNotNone : R2 := fun x y H Q => y = .non ∧ Q (.bl (!decide (x = .non))) H
def rInt1 : List V → Hp → VK → Prop := fun xs H Q => (∃ i, xs = [.int i] ∧ Q (.int i) H) ∨ ∃ k, xs = [.bl k] ∧ Q (.int (if k then 1 else 0)) H
def rMax2 : List V → Hp → VK → Prop := fun xs H Q => ∃ i j, xs = [.int i, .int j] ∧ Q (.int (if j > i then j else i)) H
def rMin2 : List V → Hp → VK → Prop := fun xs H Q => ∃ i j, xs = [.int i, .int j] ∧ Q (.int (if j < i then j else i)) H
def rListOf (K : PySem.W.Frag) : List V → Hp → VK → Prop := fun xs H Q => ∃ p ys, xs = [.ref p] ∧ (SqL K H p ys ∨ SqT K H p ys) ∧ ∀ l, H l = none → Q (.ref l) (upd H l (.lst ys))
def rTupleOf (K : PySem.W.Frag) : List V → Hp → VK → Prop := fun xs H Q => ∃ p ys, xs = [.ref p] ∧ ((SqL K H p ys ∧ ∀ l, H l = none → Q (.ref l) (upd H l (.tup ys))) ∨ (SqT K H p ys ∧ Q (.ref p) H))
def tTru (K : PySem.W.Frag) (ta : TE) : TT := fun σ H Q => ta σ H fun x H' => ∃ k, TruV K x H' k ∧ Q k H'
def rLn (K : PySem.W.Frag) : List V → Hp → VK → Prop := fun xs H Q => ∃ x n, xs = [x] ∧ LenV K x H n ∧ Q (.int n) H
/-- ends by their parts -/
abbrev En (N : L2.St → Hp → Prop) (R : VK) (B C : L2.St → Hp → Prop) : Ends := Ends.mk N R B C
section
variable {K : PySem.W.Frag} {σ σ' : L2.St} {H : Hp} {F : Hp} {M M' : Ow} {Q : VK} {QB : Bool → Hp → Prop} {QA : List V → Hp → Prop} {ta tb te tv : TE} {tt tu : TT} {tr : TA} {t u t1 t2 : TS} {x y v : V} {i j : Int} {n k : Nat} {r : R2}
  {N B C : L2.St → Hp → Prop} {R : VK} {g : TG} {gs : TGs} {p : Addr} {xs ys : List V} {o : HO} {a b : Str} {c d : Bool} {q : Bool → Prop}
-- expressions
instance [l : Lk σ n v] : St1 (tVar n σ H Q) (Q v H) := ⟨fun h => ⟨v, l.h, h⟩⟩
instance : St1 (tC v σ H Q) (Q v H) := ⟨id⟩
instance : St1 (tOp r ta tb σ H Q) (ta σ H fun x H1 => tb σ H1 fun y H2 => r x y H2 Q) := ⟨id⟩
instance {r : V → Hp → VK → Prop} : St1 (tUn r ta σ H Q) (ta σ H fun x H1 => r x H1 Q) := ⟨id⟩
def nBl (x : V) (q : Bool → Prop) : Prop := ∃ k, x = .bl k ∧ q k
instance : St1 (nBl (.bl c) q) (q c) := ⟨fun h => ⟨c, rfl, h⟩⟩
instance : St1 (tTest te σ H QB) (te σ H fun x H' => nBl x fun k => QB k H') := ⟨id⟩
instance : St1 (tB te σ H QB) (te σ H fun x H' => nBl x fun k => QB k H') := ⟨id⟩
instance : St1 (tAnd tt tu σ H QB) (tt σ H fun c H1 => if c = true then tu σ H1 QB else QB false H1) := ⟨id⟩
instance : St1 (tOr tt tu σ H QB) (tt σ H fun c H1 => if c = true then QB true H1 else tu σ H1 QB) := ⟨id⟩
instance : St1 (tNot tt σ H QB) (tt σ H fun c H1 => QB (!c) H1) := ⟨id⟩
instance : St1 (tAndV ta tb σ H Q) (ta σ H fun x H1 => nBl x fun c => if c = true then tb σ H1 Q else Q (.bl false) H1) := ⟨id⟩
instance : St1 (tOrV ta tb σ H Q) (ta σ H fun x H1 => nBl x fun c => if c = true then Q (.bl true) H1 else tb σ H1 Q) := ⟨id⟩
instance : St1 (tNotV ta σ H Q) (ta σ H fun x H1 => nBl x fun c => Q (.bl (!c)) H1) := ⟨id⟩
instance : St1 (tIf tt ta tb σ H Q) (tt σ H fun c H1 => if c = true then ta σ H1 Q else tb σ H1 Q) := ⟨id⟩
instance {A B : Prop} : St1 (if true = true then A else B) A := ⟨fun h => by rw [if_pos rfl]; exact h⟩
instance {A B : Prop} : St1 (if false = true then A else B) B := ⟨fun h => by rw [if_neg Bool.false_ne_true]; exact h⟩
instance {A B : Prop} : St1 (if (!true) = true then A else B) B := ⟨fun h => by rw [if_neg (by decide)]; exact h⟩
instance {A B : Prop} : St1 (if (!false) = true then A else B) A := ⟨fun h => by rw [if_pos (by decide)]; exact h⟩
instance : St1 (nBl (.bl (!true)) q) (q false) := ⟨fun h => ⟨_, rfl, h⟩⟩
instance : St1 (nBl (.bl (!false)) q) (q true) := ⟨fun h => ⟨_, rfl, h⟩⟩
instance : St1 (tYes σ H QB) (QB true H) := ⟨id⟩
instance : St1 (tNil σ H QA) (QA [] H) := ⟨id⟩
instance : St1 (tCons ta tr σ H QA) (ta σ H fun x H1 => tr σ H1 fun xs H2 => QA (x :: xs) H2) := ⟨id⟩
def nTup (xs : List V) (H : Hp) (Q : VK) : Prop := xs.length ≤ sizeLine ∧ ∀ p, H p = none → Q (.ref p) (upd H p (.tup xs))
def nLst (xs : List V) (H : Hp) (Q : VK) : Prop := xs.length ≤ sizeLine ∧ ∀ p, H p = none → Q (.ref p) (upd H p (.lst xs))
instance : St1 (tTup tr σ H Q) (tr σ H fun xs H1 => nTup xs H1 Q) := ⟨id⟩
instance : St1 (tLst tr σ H Q) (tr σ H fun xs H1 => nLst xs H1 Q) := ⟨id⟩
instance {sp : Sp} {dvs : List V} {E : XK} : St1 (tCall sp dvs E tr σ H Q) (tr σ H fun vs H1 => sp (vs ++ dvs) H1 Q E) := ⟨id⟩
instance {r : List V → Hp → VK → Prop} : St1 (tCB r tr σ H Q) (tr σ H fun vs H1 => r vs H1 Q) := ⟨id⟩
-- numbers, texts, truth
instance : St1 (rAddI (.int i) (.int j) H Q) (Q (.int (i + j)) H) := ⟨fun h => ⟨i, j, rfl, rfl, h⟩⟩
instance : St1 (rSubI (.int i) (.int j) H Q) (Q (.int (i - j)) H) := ⟨fun h => ⟨i, j, rfl, rfl, h⟩⟩
instance : St1 (rLtI (.int i) (.int j) H Q) (Q (.bl (decide (i < j))) H) := ⟨fun h => ⟨i, j, rfl, rfl, h⟩⟩
instance : St1 (rLeI (.int i) (.int j) H Q) (Q (.bl (decide (i ≤ j))) H) := ⟨fun h => ⟨i, j, rfl, rfl, h⟩⟩
instance : St1 (rGtI (.int i) (.int j) H Q) (Q (.bl (decide (j < i))) H) := ⟨fun h => ⟨i, j, rfl, rfl, h⟩⟩
instance : St1 (rGeI (.int i) (.int j) H Q) (Q (.bl (decide (j ≤ i))) H) := ⟨fun h => ⟨i, j, rfl, rfl, h⟩⟩
instance : St1 (rNegI (.int i) H Q) (Q (.int (-i)) H) := ⟨fun h => ⟨i, rfl, h⟩⟩
theorem dI : decide (V.int i = V.int j) = decide (i = j) := decide_eq_decide.mpr ⟨V.int.inj, fun e => by rw [e]⟩
theorem dS : decide (V.str a = V.str b) = decide (a = b) := decide_eq_decide.mpr ⟨V.str.inj, fun e => by rw [e]⟩
theorem dB : decide (V.bl c = V.bl d) = decide (c = d) := decide_eq_decide.mpr ⟨V.bl.inj, fun e => by rw [e]⟩
instance : St1 (rEq (.int i) (.int j) H Q) (Q (.bl (decide (i = j))) H) := ⟨fun h => ⟨rfl, by rw [dI]; exact h⟩⟩
instance : St1 (rNe (.int i) (.int j) H Q) (Q (.bl (!decide (i = j))) H) := ⟨fun h => ⟨rfl, by rw [dI]; exact h⟩⟩
instance : St1 (rEq (.str a) (.str b) H Q) (Q (.bl (decide (a = b))) H) := ⟨fun h => ⟨rfl, by rw [dS]; exact h⟩⟩
instance : St1 (rNe (.str a) (.str b) H Q) (Q (.bl (!decide (a = b))) H) := ⟨fun h => ⟨rfl, by rw [dS]; exact h⟩⟩
instance : St1 (rEq (.bl c) (.bl d) H Q) (Q (.bl (decide (c = d))) H) := ⟨fun h => ⟨rfl, by rw [dB]; exact h⟩⟩
instance : St1 (rNe (.bl c) (.bl d) H Q) (Q (.bl (!decide (c = d))) H) := ⟨fun h => ⟨rfl, by rw [dB]; exact h⟩⟩
instance : St1 (rIsNone .non .non H Q) (Q (.bl true) H) := ⟨fun h => ⟨rfl, h⟩⟩
instance : St1 (rIsNone (.ref p) .non H Q) (Q (.bl false) H) := ⟨fun h => ⟨rfl, h⟩⟩
instance : St1 (rIsNone (.int i) .non H Q) (Q (.bl false) H) := ⟨fun h => ⟨rfl, h⟩⟩
instance : St1 (rIsNone (.str a) .non H Q) (Q (.bl false) H) := ⟨fun h => ⟨rfl, h⟩⟩
instance : St1 (rIsNone (.bl c) .non H Q) (Q (.bl false) H) := ⟨fun h => ⟨rfl, h⟩⟩
instance : St1 (rNotNone .non .non H Q) (Q (.bl false) H) := ⟨fun h => ⟨rfl, h⟩⟩
instance : St1 (rNotNone (.ref p) .non H Q) (Q (.bl true) H) := ⟨fun h => ⟨rfl, h⟩⟩
instance : St1 (rNotNone (.int i) .non H Q) (Q (.bl true) H) := ⟨fun h => ⟨rfl, h⟩⟩
instance : St1 (rNotNone (.str a) .non H Q) (Q (.bl true) H) := ⟨fun h => ⟨rfl, h⟩⟩
instance : St1 (rNotNone (.bl c) .non H Q) (Q (.bl true) H) := ⟨fun h => ⟨rfl, h⟩⟩
instance : St1 (rInt1 [.int i] H Q) (Q (.int i) H) := ⟨fun h => .inl ⟨i, rfl, h⟩⟩
instance : St1 (rInt1 [.bl c] H Q) (Q (.int (if c then 1 else 0)) H) := ⟨fun h => .inr ⟨c, rfl, h⟩⟩
-- by words of one's own: bounds
theorem py_mulL (h1 : -18446744073709551616 < i) (h2 : i < 18446744073709551616) (h : Q (.int (i * j)) H) : rMulI (.int i) (.int j) H Q := ⟨i, j, rfl, rfl, .inl ⟨h1, h2⟩, h⟩
theorem py_mulR (h1 : -18446744073709551616 < j) (h2 : j < 18446744073709551616) (h : Q (.int (i * j)) H) : rMulI (.int i) (.int j) H Q := ⟨i, j, rfl, rfl, .inr ⟨h1, h2⟩, h⟩
theorem divW {i j : Int} (h1 : 0 < j) (h2 : j < 18446744073709551616) : CDivW i j := wide_div (b := 64) h1 (by omega) (by decide) (by decide)
theorem py_divI (h1 : 0 < j) (h2 : j < 18446744073709551616) (h : Q (.int (i / j)) H) : rDivI (.int i) (.int j) H Q := ⟨i, j, rfl, rfl, divW h1 h2, h⟩
theorem py_modI (h1 : 0 < j) (h : Q (.int (i % j)) H) : rModI (.int i) (.int j) H Q := ⟨i, j, rfl, rfl, h1, h⟩
theorem py_powI {b : Int} (h1 : 0 ≤ j ∧ j ≤ 1000000 ∧ i.natAbs < 2 ^ 64) (e : i ^ j.toNat = b) (h : Q (.int b) H) : rPowI (.int i) (.int j) H Q := ⟨i, j, rfl, rfl, h1, by show Q (.int (i ^ j.toNat)) H; rw [e]; exact h⟩
instance : St1 (rPowI (.int 10) (.int 18) H Q) (Q (.int 1000000000000000000) H) := ⟨py_powI (by decide) (by decide +kernel)⟩
instance : St1 (rPowI (.int 10) (.int 9) H Q) (Q (.int 1000000000) H) := ⟨py_powI (by decide) (by decide +kernel)⟩
instance : St1 (rPowI (.int 10) (.int 12) H Q) (Q (.int 1000000000000) H) := ⟨py_powI (by decide) (by decide +kernel)⟩
instance : St1 (rPowI (.int 10) (.int 5) H Q) (Q (.int 100000) H) := ⟨py_powI (by decide) (by decide +kernel)⟩
instance : St1 (rPowI (.int 10) (.int 6) H Q) (Q (.int 1000000) H) := ⟨py_powI (by decide) (by decide +kernel)⟩
instance : St1 (rPowI (.int 10) (.int 10) H Q) (Q (.int 10000000000) H) := ⟨py_powI (by decide) (by decide +kernel)⟩
theorem py_max2 {m : Int} (e : (if j > i then j else i) = m) (h : Q (.int m) H) : rMax2 [.int i, .int j] H Q := ⟨i, j, rfl, by rw [e]; exact h⟩
theorem py_min2 {m : Int} (e : (if j < i then j else i) = m) (h : Q (.int m) H) : rMin2 [.int i, .int j] H Q := ⟨i, j, rfl, by rw [e]; exact h⟩
-- new tuples, new lists
theorem nTupF [hs : Hs F M H] (hl : xs.length ≤ 16777216) (h : ∀ p F' H', F p = none → Sm F F' → Hs F' M H' → (∀ K, FzT K F' p xs) → Fz F' p (.tup xs) → Q (.ref p) H') : nTup xs H Q :=
  ⟨sz hl, fun p hp => h p _ _ (hs.free hp) ⟨same_upd (hs.free hp)⟩ (hs.newF hp) (fun _ => .of upd_same) ⟨upd_same⟩⟩
theorem nLstO [hs : Hs F M H] (hl : xs.length ≤ 16777216) (h : ∀ p H', F p = none → Hs F ((p, .lst xs) :: M) H' → Q (.ref p) H') : nLst xs H Q :=
  ⟨sz hl, fun p hp => h p _ (hs.free hp) (hs.new hp)⟩
theorem nLstF [hs : Hs F M H] (hl : xs.length ≤ 16777216) (h : ∀ p F' H', F p = none → Sm F F' → Hs F' M H' → (∀ K, FzL K F' p xs) → Fz F' p (.lst xs) → Q (.ref p) H') : nLst xs H Q :=
  ⟨sz hl, fun p hp => h p _ _ (hs.free hp) ⟨same_upd (hs.free hp)⟩ (hs.newF hp) (fun _ => .of upd_same) ⟨upd_same⟩⟩
-- attributes
def nFld (K : PySem.W.Frag) (f : Str) (x : V) (H : Hp) (Q : VK) : Prop := ∃ a C dx fs v, x = .ref a ∧ H a = some (.ins C dx fs) ∧ Cls K C ∧ NoAttr K C f ∧ fs.lookup f = some v ∧ Q v H
instance {f : Str} : St1 (tFld K ta f σ H Q) (ta σ H fun x H1 => nFld K f x H1 Q) := ⟨id⟩
instance {f : Str} {C dx : Addr} {ns : List Str} {vs : List V} [hs : Hs F M H] [hm : Im M p (Ob C dx ns vs)] [cc : ClsF K C ns] [hi : Fx ns f n] [hv : Nt vs n v] : St1 (nFld K f (.ref p) H Q) (Q v H) :=
  ⟨fun h => ⟨p, C, dx, _, v, rfl, hs.im hm, cc.cl, cc.no f (List.mem_of_getElem? hi.h), fld_get cc.nd hi.h hv.h, h⟩⟩
instance (priority := 900) {f : Str} {C dx : Addr} {ns : List Str} {vs : List V} [hs : Hs F M H] [hm : Fz F p (Ob C dx ns vs)] [cc : ClsF K C ns] [hi : Fx ns f n] [hv : Nt vs n v] : St1 (nFld K f (.ref p) H Q) (Q v H) :=
  ⟨fun h => ⟨p, C, dx, _, v, rfl, hs.f hm.h, cc.cl, cc.no f (List.mem_of_getElem? hi.h), fld_get cc.nd hi.h hv.h, h⟩⟩
def nSet (K : PySem.W.Frag) (f : Str) (y : V) (x : V) (H : Hp) (q : Hp → Prop) : Prop := ∃ a C dx fs, x = .ref a ∧ H a = some (.ins C dx fs) ∧ Cls K C ∧ NoAttr K C f ∧ fs.length < 1000 ∧ q (upd H a (.ins C dx (putF f y fs)))
instance {f : Str} : St1 (sFld K ta tv f (En N R B C) σ H) (tv σ H fun y H1 => ta σ H1 fun x H2 => nSet K f y x H2 (N σ)) := ⟨id⟩
theorem nSet_mk {f : Str} {C dx : Addr} {ns : List Str} {vs vs' : List V} {q : Hp → Prop} [hs : Hs F M H] [hm : Im M p (Ob C dx ns vs)] [cc : ClsF K C ns] [hi : Fx ns f n] [hv : Sl vs n y vs'] [hw : Sw M p (Ob C dx ns vs') M']
    (h : ∀ H', Hs F M' H' → q H') : nSet K f y (.ref p) H q :=
  ⟨p, C, dx, _, rfl, hs.im hm, cc.cl, cc.no f (List.mem_of_getElem? hi.h), zip_len cc.ln, by rw [fld_put cc.nd hi.h hv.lt, hv.h]; exact h _ (hs.sw hw)⟩
theorem nSet_new {f : Str} {C dx : Addr} {ns : List Str} {vs : List V} {q : Hp → Prop} [hs : Hs F M H] [hm : Im M p (Ob C dx ns vs)] [cc : ClsF K C ns] (hi : ns[vs.length]? = some f) [hw : Sw M p (Ob C dx ns (vs ++ [y])) M']
    (h : ∀ H', Hs F M' H' → q H') : nSet K f y (.ref p) H q :=
  ⟨p, C, dx, _, rfl, hs.im hm, cc.cl, cc.no f (List.mem_of_getElem? hi), zip_len cc.ln, by rw [fld_new cc.nd hi]; exact h _ (hs.sw hw)⟩
def nAugF (K : PySem.W.Frag) (f : Str) (x : V) (H : Hp) (tv : (V → Hp → Prop) → Prop) (rd : V → V → Hp → VK → Prop) (q : Hp → Prop) : Prop := ∃ a C dx fs v, x = .ref a ∧ H a = some (.ins C dx fs) ∧ Cls K C ∧ NoAttr K C f ∧ fs.lookup f = some v ∧
  tv fun y H2 => rd v y H2 fun z H3 => ∃ dx fs, H3 a = some (.ins C dx fs) ∧ fs.length < 1000 ∧ q (upd H3 a (.ins C dx (putF f z fs)))
-- a method's call
def nMeth (C : Addr) (m : Str) (x : V) (H : Hp) (q : Prop) : Prop := ∃ a dx fs, x = .ref a ∧ H a = some (.ins C dx fs) ∧ fs.lookup m = none ∧ q
instance {C : Addr} {m : Str} {sp : Sp} {dvs : List V} {E : XK} : St1 (tMeth C m sp dvs E ta tr σ H Q) (ta σ H fun x H1 => nMeth C m x H1 (tr σ H1 fun vs H2 => sp (x :: (vs ++ dvs)) H2 Q E)) := ⟨id⟩
instance {C dx : Addr} {m : Str} {ns : List Str} {vs : List V} {q : Prop} [hs : Hs F M H] [hm : Im M p (Ob C dx ns vs)] [hn : Nf ns m] : St1 (nMeth C m (.ref p) H q) q := ⟨fun h => ⟨p, dx, _, rfl, hs.im hm, fld_none hn.h, h⟩⟩
instance (priority := 900) {C dx : Addr} {m : Str} {ns : List Str} {vs : List V} {q : Prop} [hs : Hs F M H] [hm : Fz F p (Ob C dx ns vs)] [hn : Nf ns m] : St1 (nMeth C m (.ref p) H q) q := ⟨fun h => ⟨p, dx, _, rfl, hs.f hm.h, fld_none hn.h, h⟩⟩
-- items, lengths, truth
instance [hs : Hs F M H] [hm : Im M p (.lst xs)] [ha : At xs i v] : St1 (rIx K (.ref p) (.int i) H Q) (Q v H) := ⟨fun h => .inl ⟨p, xs, i, v, rfl, rfl, SqL.of (hs.im hm), ha.h, h⟩⟩
instance (priority := 900) [hs : Hs F M H] [hm : FzT K F p xs] [ha : At xs i v] : St1 (rIx K (.ref p) (.int i) H Q) (Q v H) := ⟨fun h => .inr (.inl ⟨p, xs, i, v, rfl, rfl, same_t hs.fz hm.h, ha.h, h⟩)⟩
instance (priority := 800) [hs : Hs F M H] [hm : FzL K F p xs] [ha : At xs i v] : St1 (rIx K (.ref p) (.int i) H Q) (Q v H) := ⟨fun h => .inl ⟨p, xs, i, v, rfl, rfl, same_l hs.fz hm.h, ha.h, h⟩⟩
instance {x : V} : St1 (rIx K x (.int (if true = true then i else j)) H Q) (rIx K x (.int i) H Q) := ⟨fun h => by rw [if_pos rfl]; exact h⟩
instance {x : V} : St1 (rIx K x (.int (if false = true then i else j)) H Q) (rIx K x (.int j) H Q) := ⟨fun h => by rw [if_neg Bool.false_ne_true]; exact h⟩
theorem nIxO [hs : Hs F M H] [hm : Im M p (.lst xs)] (ha : atI xs i = some v) (h : Q v H) : rIx K (.ref p) (.int i) H Q := .inl ⟨p, xs, i, v, rfl, rfl, SqL.of (hs.im hm), ha, h⟩
theorem nIxL [hs : Hs F M H] [hm : FzL K F p xs] (ha : atI xs i = some v) (h : Q v H) : rIx K (.ref p) (.int i) H Q := .inl ⟨p, xs, i, v, rfl, rfl, same_l hs.fz hm.h, ha, h⟩
theorem nIxT [hs : Hs F M H] [hm : FzT K F p xs] (ha : atI xs i = some v) (h : Q v H) : rIx K (.ref p) (.int i) H Q := .inr (.inl ⟨p, xs, i, v, rfl, rfl, same_t hs.fz hm.h, ha, h⟩)
theorem nIxS {z : Str} {c : Nat} (hl : z.length ≤ 16777216) (ha : atI z.cps.toList i = some c) (h : Q (.str ⟨#[c]⟩) H) : rIx K (.str z) (.int i) H Q := .inr (.inr ⟨z, i, c, rfl, rfl, sz hl, ha, h⟩)
instance [hs : Hs F M H] [hm : Im M p (.lst xs)] : St1 (rLn K [.ref p] H Q) (Q (.int (xs.length : Int)) H) := ⟨fun h => ⟨.ref p, _, rfl, .inl ⟨xs, SqL.of (hs.im hm), rfl⟩, h⟩⟩
instance (priority := 900) [hs : Hs F M H] [hm : FzT K F p xs] : St1 (rLn K [.ref p] H Q) (Q (.int (xs.length : Int)) H) := ⟨fun h => ⟨.ref p, _, rfl, .inr ⟨xs, same_t hs.fz hm.h, rfl⟩, h⟩⟩
instance (priority := 800) [hs : Hs F M H] [hm : FzL K F p xs] : St1 (rLn K [.ref p] H Q) (Q (.int (xs.length : Int)) H) := ⟨fun h => ⟨.ref p, _, rfl, .inl ⟨xs, same_l hs.fz hm.h, rfl⟩, h⟩⟩
theorem nLnS {z : Str} (hl : z.length ≤ 16777216) (h : Q (.int (z.length : Int)) H) : rLn K [.str z] H Q := ⟨.str z, _, rfl, ⟨sz hl, rfl⟩, h⟩
def nTru (K : PySem.W.Frag) (x : V) (H : Hp) (q : Bool → Prop) : Prop := ∃ k, TruV K x H k ∧ q k
instance : St1 (tTru K ta σ H QB) (ta σ H fun x H' => nTru K x H' fun k => QB k H') := ⟨id⟩
class Ie (xs : List V) (b : outParam Bool) : Prop where
  h : (!xs.isEmpty) = b
instance : Ie [] false := ⟨rfl⟩
instance {v : V} : Ie (v :: xs) true := ⟨rfl⟩
instance {v : V} : Ie (xs ++ [v]) true := ⟨by cases xs <;> rfl⟩
instance (priority := 10) : Ie xs (!xs.isEmpty) := ⟨rfl⟩
instance [hs : Hs F M H] [hm : Im M p (.lst xs)] [e : Ie xs c] : St1 (nTru K (.ref p) H q) (q c) := ⟨fun h => ⟨_, .inl ⟨xs, SqL.of (hs.im hm), rfl⟩, by rw [e.h]; exact h⟩⟩
instance (priority := 900) [hs : Hs F M H] [hm : FzT K F p xs] [e : Ie xs c] : St1 (nTru K (.ref p) H q) (q c) := ⟨fun h => ⟨_, .inr (.inl ⟨xs, same_t hs.fz hm.h, rfl⟩), by rw [e.h]; exact h⟩⟩
instance (priority := 800) [hs : Hs F M H] [hm : FzL K F p xs] [e : Ie xs c] : St1 (nTru K (.ref p) H q) (q c) := ⟨fun h => ⟨_, .inl ⟨xs, same_l hs.fz hm.h, rfl⟩, by rw [e.h]; exact h⟩⟩
instance : St1 (nTru K (.int i) H q) (q (i != 0)) := ⟨fun h => ⟨_, rfl, h⟩⟩
instance : St1 (nTru K (.bl c) H q) (q c) := ⟨fun h => ⟨_, rfl, h⟩⟩
instance : St1 (nTru K .non H q) (q false) := ⟨fun h => ⟨_, rfl, h⟩⟩
-- list(..), tuple(..)
theorem nTupleOfO [hs : Hs F M H] [hm : Im M p (.lst xs)] (h : ∀ q F' H', F q = none → Sm F F' → Hs F' M H' → FzT K F' q xs → Fz F' q (.tup xs) → Q (.ref q) H') : rTupleOf K [.ref p] H Q :=
  ⟨p, xs, rfl, .inl ⟨SqL.of (hs.im hm), fun q hq => h q _ _ (hs.free hq) ⟨same_upd (hs.free hq)⟩ (hs.newF hq) (.of upd_same) ⟨upd_same⟩⟩⟩
theorem nTupleOfL [hs : Hs F M H] [hm : FzL K F p xs] (h : ∀ q F' H', F q = none → Sm F F' → Hs F' M H' → FzT K F' q xs → Fz F' q (.tup xs) → Q (.ref q) H') : rTupleOf K [.ref p] H Q :=
  ⟨p, xs, rfl, .inl ⟨same_l hs.fz hm.h, fun q hq => h q _ _ (hs.free hq) ⟨same_upd (hs.free hq)⟩ (hs.newF hq) (.of upd_same) ⟨upd_same⟩⟩⟩
theorem nTupleOfT [hs : Hs F M H] [hm : FzT K F p xs] (h : Q (.ref p) H) : rTupleOf K [.ref p] H Q := ⟨p, xs, rfl, .inr ⟨same_t hs.fz hm.h, h⟩⟩
theorem nListOfO [hs : Hs F M H] [hm : Im M p (.lst xs)] (h : ∀ q H', F q = none → Hs F ((q, .lst xs) :: M) H' → Q (.ref q) H') : rListOf K [.ref p] H Q := ⟨p, xs, rfl, .inl (SqL.of (hs.im hm)), fun q hq => h q _ (hs.free hq) (hs.new hq)⟩
theorem nListOfL [hs : Hs F M H] [hm : FzL K F p xs] (h : ∀ q H', F q = none → Hs F ((q, .lst xs) :: M) H' → Q (.ref q) H') : rListOf K [.ref p] H Q := ⟨p, xs, rfl, .inl (same_l hs.fz hm.h), fun q hq => h q _ (hs.free hq) (hs.new hq)⟩
theorem nListOfT [hs : Hs F M H] [hm : FzT K F p xs] (h : ∀ q H', F q = none → Hs F ((q, .lst xs) :: M) H' → Q (.ref q) H') : rListOf K [.ref p] H Q := ⟨p, xs, rfl, .inr (same_t hs.fz hm.h), fun q hq => h q _ (hs.free hq) (hs.new hq)⟩
-- list methods
def nTy (K : PySem.W.Frag) (T : String) (x : V) (H : Hp) (q : Prop) : Prop := tyV K T x H ∧ q
instance {T : String} {r : V → List V → Hp → VK → Prop} : St1 (tBM K T r ta tr σ H Q) (ta σ H fun x H1 => nTy K T x H1 (tr σ H1 fun xs H2 => r x xs H2 Q)) := ⟨id⟩
instance {T : String} {r : V → List V → Hp → VK → Prop} : St1 (tBM0 K T r ta σ H Q) (ta σ H fun x H1 => nTy K T x H1 (r x [] H1 Q)) := ⟨id⟩
instance {q : Prop} [hs : Hs F M H] [hm : Im M p (.lst xs)] : St1 (nTy K "list" (.ref p) H q) q := ⟨fun h => ⟨.inl ⟨rfl, _, SqL.of (hs.im hm)⟩, h⟩⟩
theorem nAppend [hs : Hs F M H] [hm : Im M p (.lst xs)] [hw : Sw M p (.lst (xs ++ [y])) M'] (hl : xs.length < 16777216) (h : ∀ H', Hs F M' H' → Q .non H') : rAppend (.ref p) [y] H Q :=
  ⟨p, xs, y, rfl, rfl, hs.im hm, szl hl, h _ (hs.sw hw)⟩
theorem nExtend {b : Addr} {zs : List V} [hs : Hs F M H] [hm : Im M p (.lst xs)] [hb : Im M b (.lst zs)] [hw : Sw M p (.lst (xs ++ zs)) M'] (hl : xs.length + zs.length ≤ 16777216) (h : ∀ H', Hs F M' H' → Q .non H') : rExtend (.ref p) [.ref b] H Q :=
  ⟨p, b, xs, zs, rfl, rfl, hs.im hm, hs.im hb, sz hl, h _ (hs.sw hw)⟩
theorem nExtendF {b : Addr} {zs : List V} [hs : Hs F M H] [hm : Im M p (.lst xs)] [hb : Fz F b (.lst zs)] [hw : Sw M p (.lst (xs ++ zs)) M'] (hl : xs.length + zs.length ≤ 16777216) (h : ∀ H', Hs F M' H' → Q .non H') : rExtend (.ref p) [.ref b] H Q :=
  ⟨p, b, xs, zs, rfl, rfl, hs.im hm, hs.f hb.h, sz hl, h _ (hs.sw hw)⟩
theorem nPop [hs : Hs F M H] [hm : Im M p (.lst (xs ++ [y]))] [hw : Sw M p (.lst xs) M'] (h : ∀ H', Hs F M' H' → Q y H') : rPop (.ref p) [] H Q :=
  ⟨p, _, y, rfl, rfl, hs.im hm, by simp, by rw [List.dropLast_concat]; exact h _ (hs.sw hw)⟩
theorem nReverse [hs : Hs F M H] [hm : Im M p (.lst xs)] [hw : Sw M p (.lst xs.reverse) M'] (h : ∀ H', Hs F M' H' → Q .non H') : rReverse (.ref p) [] H Q := ⟨p, _, rfl, rfl, hs.im hm, h _ (hs.sw hw)⟩
/-- xs[i] = y, i written -/
class Sa (xs : List V) (i : Int) (y : V) (ys : outParam (List V)) : Prop where
  h : ∃ j, ixN xs.length i = some j ∧ xs.set j y = ys
theorem saN {xs ys : List V} {n : Nat} {y : V} (l : Sl xs n y ys) : Sa xs (n : Int) y ys := ⟨n, by unfold ixN; rw [if_pos (by omega), if_pos (by have := l.lt; omega)]; simp, l.h⟩
instance [l : Sl xs 0 y ys] : Sa xs 0 y ys := saN l
instance [l : Sl xs 1 y ys] : Sa xs 1 y ys := saN l
instance [l : Sl xs 2 y ys] : Sa xs 2 y ys := saN l
instance [l : Sl xs 3 y ys] : Sa xs 3 y ys := saN l
instance {z : V} : Sa (xs ++ [z]) (-1) y (xs ++ [y]) := ⟨xs.length, by unfold ixN; rw [if_neg (by omega), if_pos (by simp; omega)]; simp; omega, by rw [List.set_append_right _ _ (Nat.le_refl _), Nat.sub_self]; rfl⟩
theorem nSetL {q : Hp → Prop} [hs : Hs F M H] [hm : Im M p (.lst xs)] [hj : Sa xs i y ys] [hw : Sw M p (.lst ys) M'] (h : ∀ H', Hs F M' H' → q H') : rSetL (.ref p) (.int i) y H q := by
  obtain ⟨j, h1, h2⟩ := hj.h
  exact ⟨p, xs, i, j, rfl, rfl, hs.im hm, h1, by rw [h2]; exact h _ (hs.sw hw)⟩
theorem nSetI {j : Nat} {q : Hp → Prop} [hs : Hs F M H] [hm : Im M p (.lst xs)] (hi : i = (j : Int)) (hj : j < xs.length) [hw : Sw M p (.lst (xs.set j y)) M'] (h : ∀ H', Hs F M' H' → q H') : rSetL (.ref p) (.int i) y H q :=
  ⟨p, xs, i, j, rfl, rfl, hs.im hm, by rw [hi]; unfold ixN; rw [if_pos (by omega), if_pos (by omega)]; simp, h _ (hs.sw hw)⟩
-- slices
instance {r : V → Option Int → Option Int → Hp → VK → Prop} {tl th : TO} : St1 (tSl r te tl th σ H Q) (te σ H fun x H1 => tl σ H1 fun l H2 => th σ H2 fun u H3 => r x l u H3 Q) := ⟨id⟩
instance {QO : Option Int → Hp → Prop} : St1 (tNoPart σ H QO) (QO none H) := ⟨id⟩
def nInt (x : V) (q : Int → Prop) : Prop := ∃ i, x = .int i ∧ q i
instance {q : Int → Prop} : St1 (nInt (.int i) q) (q i) := ⟨fun h => ⟨i, rfl, h⟩⟩
instance {QO : Option Int → Hp → Prop} : St1 (tPart te σ H QO) (te σ H fun x H1 => nInt x fun i => QO (some i) H1) := ⟨id⟩
-- statements
instance : St1 (tSeq t1 t2 (En N R B C) σ H) (t1 (En (t2 (En N R B C)) R B C) σ H) := ⟨id⟩
instance : St1 (tNext (En N R B C) σ H) (N σ H) := ⟨id⟩
instance : St1 (tBreak (En N R B C) σ H) (B σ H) := ⟨id⟩
instance : St1 (tCont (En N R B C) σ H) (C σ H) := ⟨id⟩
instance : St1 (tDrop te (En N R B C) σ H) (te σ H fun _ H1 => N σ H1) := ⟨id⟩
instance : St1 (tRet te (En N R B C) σ H) (te σ H R) := ⟨id⟩
instance : St1 (tRetN (En N R B C) σ H) (R .non H) := ⟨id⟩
instance : St1 (tIfS tt t1 t2 (En N R B C) σ H) (tt σ H fun b H1 => if b = true then t1 (En N R B C) σ H1 else t2 (En N R B C) σ H1) := ⟨id⟩
instance : St1 (tAsg te g (En N R B C) σ H) (te σ H fun x H1 => g x σ H1 N) := ⟨id⟩
instance [e : Ss σ n (some x) σ'] : St1 (gName n x σ H N) (N σ' H) := ⟨fun h => by show N (σ.set n (some x)) H; rw [e.h]; exact h⟩
instance {to ti : TE} {tset : TSet} : St1 (gSub to ti tset x σ H N) (to σ H fun o H1 => ti σ H1 fun i H2 => tset o i x H2 fun H3 => N σ H3) := ⟨id⟩
theorem gT [hs : Hs F M H] [hm : FzT K F p xs] (hl : xs.length = n) (h : gs xs σ H N) : gTup K n gs (.ref p) σ H N := ⟨p, xs, rfl, same_t hs.fz hm.h, hl, h⟩
class Ln {α : Type} (xs : List α) (n : Nat) : Prop where
  h : xs.length = n
instance {α : Type} : Ln ([] : List α) 0 := ⟨rfl⟩
instance {α : Type} {x : α} {xs : List α} {n : Nat} [l : Ln xs n] : Ln (x :: xs) (n + 1) := ⟨by rw [List.length_cons, l.h]⟩
instance [hs : Hs F M H] [hm : FzT K F p xs] [hl : Ln xs n] : St1 (gTup K n gs (.ref p) σ H N) (gs xs σ H N) := ⟨gT hl.h⟩
instance : St1 (gCons g gs (x :: xs) σ H N) (g x σ H fun σ' H' => gs xs σ' H' N) := ⟨fun h => ⟨x, xs, rfl, h⟩⟩
instance : St1 (gNil [] σ H N) (N σ H) := ⟨fun h => ⟨rfl, h⟩⟩
instance {f : Int → Int → Int} [l : Lk σ n (.int i)] : St1 (tAug n te (ipI f) (En N R B C) σ H) (te σ H fun y H1 => nInt y fun k => gName n (.int (f i k)) σ H1 N) :=
  ⟨fun h => ⟨.int i, l.h, by
    have e : (fun y H1 => nInt y fun k => gName n (V.int (f i k)) σ H1 N) = fun y H1 => ipI f (V.int i) y H1 fun z H2 => N (σ.set n (some z)) H2 := by
      funext y H1
      apply propext
      constructor
      · rintro ⟨k, rfl, h⟩; exact ⟨i, k, rfl, rfl, h⟩
      · rintro ⟨i', k, e1, rfl, h⟩; cases e1; exact ⟨k, rfl, h⟩
    rw [e] at h; exact h⟩⟩
def nPar (n k : Nat) (vs : List V) (σ : L2.St) (H : Hp) (N : L2.St → Hp → Prop) : Prop := ∃ v w, vs = [v, w] ∧ N ((σ.set n (some v)).set k (some w)) H
instance : St1 (tPar n k tr (En N R B C) σ H) (tr σ H fun vs H1 => nPar n k vs σ H1 N) := ⟨id⟩
instance {σ'' : L2.St} [e : Ss σ n (some x) σ'] [e2 : Ss σ' k (some y) σ''] : St1 (nPar n k [x, y] σ H N) (N σ'' H) := ⟨fun h => ⟨x, y, rfl, by rw [e.h, e2.h]; exact h⟩⟩
-- a cut: what follows is shown once, from Mid
theorem cutI {I : L2.St → Hp → Ow → Prop} [hs : Hs F M H] (h1 : t1 (En (fun σ' H' => ∃ F' M', Same F F' ∧ Hs F' M' H' ∧ I σ' F' M') R B C) σ H) (h2 : ∀ σ' F' M' H', Sm F F' → Hs F' M' H' → I σ' F' M' → t2 (En N R B C) σ' H') : Evl.tCut t1 t2 (En N R B C) σ H :=
  ⟨_, h1, fun σ' H' ⟨F', M', e, hs', p⟩ => h2 σ' F' M' H' ⟨e⟩ hs' p⟩
-- ifs
theorem ifP {p A B : Prop} [Decidable p] (h1 : p → A) (h2 : ¬ p → B) : if decide p = true then A else B := by
  by_cases hp : p
  · rw [if_pos (decide_eq_true hp)]; exact h1 hp
  · rw [if_neg (by rw [decide_eq_false hp]; decide)]; exact h2 hp
theorem ifN {p A B : Prop} [Decidable p] (h1 : ¬ p → A) (h2 : p → B) : if (!decide p) = true then A else B := by
  by_cases hp : p
  · rw [if_neg (by rw [decide_eq_true hp]; decide)]; exact h2 hp
  · rw [if_pos (by rw [decide_eq_false hp]; decide)]; exact h1 hp
theorem ifPT {p A B : Prop} [Decidable p] (hp : p) (h : A) : if decide p = true then A else B := by rw [if_pos (decide_eq_true hp)]; exact h
theorem ifPF {p A B : Prop} [Decidable p] (hp : ¬ p) (h : B) : if decide p = true then A else B := by rw [if_neg (by rw [decide_eq_false hp]; decide)]; exact h
theorem ifNT {p A B : Prop} [Decidable p] (hp : ¬ p) (h : A) : if (!decide p) = true then A else B := by rw [if_pos (by rw [decide_eq_false hp]; decide)]; exact h
theorem ifNF {p A B : Prop} [Decidable p] (hp : p) (h : B) : if (!decide p) = true then A else B := by rw [if_neg (by rw [decide_eq_true hp]; decide)]; exact h
theorem ifB {b : Bool} {A B : Prop} (h1 : b = true → A) (h2 : b = false → B) : if b = true then A else B := by
  cases b with
  | true => rw [if_pos rfl]; exact h1 rfl
  | false => rw [if_neg Bool.false_ne_true]; exact h2 rfl
end

/-! ### loops -/
section
variable {K : PySem.W.Frag} {σ : L2.St} {H F : Hp} {M : Ow} {g : TG} {tb : TS} {a : Addr} {xs : List V} {N B C : L2.St → Hp → Prop} {R : VK} {te : TE} {tr : TA} {tt : TT}
/-- what holds between two turns, over what is frozen and owned then -/
abbrev Iv := L2.St → Hp → Ow → Prop
def IvH (F : Hp) (I : Iv) : L2.St → Hp → Prop := fun σ H => ∃ F' M', Same F F' ∧ Hs F' M' H ∧ I σ F' M'
theorem IvH.mk {F F' : Hp} {M' : Ow} {I : Iv} (e : Same F F') (hs : Hs F' M' H) (h : I σ F' M') : IvH F I σ H := ⟨F', M', e, hs, h⟩
def nLoop (g : TG) (tb : TS) (N : L2.St → Hp → Prop) (R : VK) (σ : L2.St) (J : It) (H1 : Hp) : Prop := ∃ W : Nat → Nat → L2.St → Hp → Prop, (∃ m, W 0 m σ H1) ∧ ∀ i m σ H, W i m σ H →
  (J.stop i H ∧ N σ H) ∨ (J.go i H ∧ ∃ Nx : L2.St → Hp → Prop, (∀ σ' H', Nx σ' H' → ∃ m', m' < m ∧ W (i + 1) m' σ' H') ∧ ∀ x H', J.yld i H x H' → g x σ H' fun σ2 H2 => tb (En Nx R N Nx) σ2 H2)
def nRng1 (vs : List V) (H : Hp) (q : It → Hp → Prop) : Prop := ∃ j : Int, vs = [.int j] ∧ -(2 ^ 62) ≤ j ∧ j < 2 ^ 62 ∧ q (Itr 0 j.toNat) H
def nRng2 (vs : List V) (H : Hp) (q : It → Hp → Prop) : Prop := ∃ i j : Int, vs = [.int i, .int j] ∧ (-(2 ^ 62) ≤ i ∧ i < 2 ^ 62 ∧ -(2 ^ 62) ≤ j ∧ j < 2 ^ 62) ∧ q (Itr i (j - i).toNat) H
theorem nRng1_mk {j : Int} {q : It → Hp → Prop} (h1 : -4611686018427387904 ≤ j) (h2 : j < 4611686018427387904) (h : q (Itr 0 j.toNat) H) : nRng1 [.int j] H q := ⟨j, rfl, h1, h2, h⟩
theorem nRng2_mk {i j : Int} {q : It → Hp → Prop} (h1 : -4611686018427387904 ≤ i) (h2 : i < 4611686018427387904) (h3 : -4611686018427387904 ≤ j) (h4 : j < 4611686018427387904) (h : q (Itr i (j - i).toNat) H) : nRng2 [.int i, .int j] H q := ⟨i, j, rfl, ⟨h1, h2, h3, h4⟩, h⟩
def nSeqL (K : PySem.W.Frag) (x : V) (H1 : Hp) (q : It → Hp → Prop) : Prop := ∃ a, x = .ref a ∧ (∃ xs, SqL K H1 a xs) ∧ q (Itl K a) H1
def nSeqT (K : PySem.W.Frag) (x : V) (H1 : Hp) (q : It → Hp → Prop) : Prop := ∃ a, x = .ref a ∧ (∃ xs, SqT K H1 a xs) ∧ q (Itt K a) H1
instance : St1 (tFor (iRng1 tr) g tb (En N R B C) σ H) (tr σ H fun vs H1 => nRng1 vs H1 fun J H1 => nLoop g tb N R σ J H1) := ⟨id⟩
instance : St1 (tFor (iRng2 tr) g tb (En N R B C) σ H) (tr σ H fun vs H1 => nRng2 vs H1 fun J H1 => nLoop g tb N R σ J H1) := ⟨id⟩
instance : St1 (tFor (iList K te) g tb (En N R B C) σ H) (te σ H fun x H1 => nSeqL K x H1 fun J H1 => nLoop g tb N R σ J H1) := ⟨id⟩
instance : St1 (tFor (iTup K te) g tb (En N R B C) σ H) (te σ H fun x H1 => nSeqT K x H1 fun J H1 => nLoop g tb N R σ J H1) := ⟨id⟩
theorem nLoopR {lo : Int} {n : Nat} (I : Nat → Iv) [hs : Hs F M H] (h0 : I 0 σ F M)
    (step : ∀ (i : Nat) σ' F' M' H', i < n → Sm F F' → Hs F' M' H' → I i σ' F' M' → g (.int (lo + i)) σ' H' fun σ2 H2 => tb (En (IvH F (I (i + 1))) R N (IvH F (I (i + 1)))) σ2 H2)
    (done : ∀ σ' F' M' H', Sm F F' → Hs F' M' H' → I n σ' F' M' → N σ' H') : nLoop g tb N R σ (Itr lo n) H :=
  for_range (D := En N R N N) (lo := lo) (n := n) (fun i => IvH F (I i)) ⟨F, M, Same.refl F, hs, h0⟩ (fun i σ' H' hi ⟨F', M', e, hs', p⟩ => step i σ' F' M' H' hi ⟨e⟩ hs' p) (fun σ' H' ⟨F', M', e, hs', p⟩ => done σ' F' M' H' ⟨e⟩ hs' p)
theorem nLoopL (I : Nat → Iv) [hs : Hs F M H] [hx : FzL K F a xs] (h0 : I 0 σ F M)
    (step : ∀ i x σ' F' M' H', xs[i]? = some x → Sm F F' → Hs F' M' H' → I i σ' F' M' → g x σ' H' fun σ2 H2 => tb (En (IvH F (I (i + 1))) R N (IvH F (I (i + 1)))) σ2 H2)
    (done : ∀ σ' F' M' H', Sm F F' → Hs F' M' H' → I xs.length σ' F' M' → N σ' H') : nSeqL K (.ref a) H fun J H1 => nLoop g tb N R σ J H1 :=
  ⟨a, rfl, ⟨xs, same_l hs.fz hx.h⟩, for_list (D := En N R N N) (K := K) (a := a) (xs := xs) (fun i => IvH F (I i)) ⟨F, M, Same.refl F, hs, h0⟩ (fun i σ' H' _ ⟨F', M', e, hs', _⟩ => same_l hs'.fz (same_l e hx.h))
    (fun i x σ' H' hi ⟨F', M', e, hs', p⟩ => step i x σ' F' M' H' hi ⟨e⟩ hs' p) (fun σ' H' ⟨F', M', e, hs', p⟩ => done σ' F' M' H' ⟨e⟩ hs' p)⟩
theorem nLoopT (I : Nat → Iv) [hs : Hs F M H] [hx : FzT K F a xs] (h0 : I 0 σ F M)
    (step : ∀ i x σ' F' M' H', xs[i]? = some x → Sm F F' → Hs F' M' H' → I i σ' F' M' → g x σ' H' fun σ2 H2 => tb (En (IvH F (I (i + 1))) R N (IvH F (I (i + 1)))) σ2 H2)
    (done : ∀ σ' F' M' H', Sm F F' → Hs F' M' H' → I xs.length σ' F' M' → N σ' H') : nSeqT K (.ref a) H fun J H1 => nLoop g tb N R σ J H1 :=
  ⟨a, rfl, ⟨xs, same_t hs.fz hx.h⟩, for_tup (D := En N R N N) (K := K) (a := a) (xs := xs) (fun i => IvH F (I i)) ⟨F, M, Same.refl F, hs, h0⟩ (fun i σ' H' _ ⟨F', M', e, hs', _⟩ => same_t hs'.fz (same_t e hx.h))
    (fun i x σ' H' hi ⟨F', M', e, hs', p⟩ => step i x σ' F' M' H' hi ⟨e⟩ hs' p) (fun σ' H' ⟨F', M', e, hs', p⟩ => done σ' F' M' H' ⟨e⟩ hs' p)⟩
/-- over an owned list that no turn changes -/
theorem nLoopO (I : Nat → Iv) [hs : Hs F M H] [hx : Im M a (.lst xs)] (h0 : I 0 σ F M) (hk : ∀ i σ' F' M', I i σ' F' M' → Im M' a (.lst xs))
    (step : ∀ i x σ' F' M' H', xs[i]? = some x → Sm F F' → Hs F' M' H' → I i σ' F' M' → g x σ' H' fun σ2 H2 => tb (En (IvH F (I (i + 1))) R N (IvH F (I (i + 1)))) σ2 H2)
    (done : ∀ σ' F' M' H', Sm F F' → Hs F' M' H' → I xs.length σ' F' M' → N σ' H') : nSeqL K (.ref a) H fun J H1 => nLoop g tb N R σ J H1 :=
  ⟨a, rfl, ⟨xs, SqL.of (hs.im hx)⟩, for_list (D := En N R N N) (K := K) (a := a) (xs := xs) (fun i => IvH F (I i)) ⟨F, M, Same.refl F, hs, h0⟩ (fun i σ' H' _ ⟨F', M', e, hs', p⟩ => SqL.of (hs'.im (hk i σ' F' M' p)))
    (fun i x σ' H' hi ⟨F', M', e, hs', p⟩ => step i x σ' F' M' H' hi ⟨e⟩ hs' p) (fun σ' H' ⟨F', M', e, hs', p⟩ => done σ' F' M' H' ⟨e⟩ hs' p)⟩
/-- while: the word, what falls; the test's reading goes on with whatever is wanted of its answer -/
def WvH (F : Hp) (I : Nat → Iv) (m : Nat) : L2.St → Hp → Prop := fun σ H => ∃ m' F' M', m' < m ∧ Same F F' ∧ Hs F' M' H ∧ I m' σ F' M'
theorem WvH.mk {F F' : Hp} {M' : Ow} {I : Nat → Iv} {m m' : Nat} (l : m' < m) (e : Same F F') (hs : Hs F' M' H) (h : I m' σ F' M') : WvH F I m σ H := ⟨m', F', M', l, e, hs, h⟩
/-- the two ways of a while's test -/
structure WhB (tb : TS) (N : L2.St → Hp → Prop) (R : VK) (Nx : L2.St → Hp → Prop) (σ : L2.St) (b : Bool) (H1 : Hp) : Prop where
  yes : b = true → tb (En Nx R N Nx) σ H1
  no : b = false → N σ H1
def nWh (tb : TS) (N : L2.St → Hp → Prop) (R : VK) (q : (L2.St → Hp → Prop) → Prop) (σ : L2.St) (b : Bool) (H1 : Hp) : Prop := if b = true then ∃ Nx : L2.St → Hp → Prop, q Nx ∧ tb (En Nx R N Nx) σ H1 else N σ H1
theorem whileI (I : Nat → Iv) (m : Nat) [hs : Hs F M H] (h0 : I m σ F M)
    (step : ∀ m σ' F' M' H', Sm F F' → Hs F' M' H' → I m σ' F' M' → tt σ' H' fun b H1 => nWh tb N R (fun Nx => ∀ σ2 H2, Nx σ2 H2 → ∃ m', m' < m ∧ ∃ F' M', Same F F' ∧ Hs F' M' H2 ∧ I m' σ2 F' M') σ' b H1) : tWhile tt tb (En N R B C) σ H :=
  ⟨fun m σ H => ∃ F' M', Same F F' ∧ Hs F' M' H ∧ I m σ F' M', ⟨m, F, M, Same.refl F, hs, h0⟩, fun m σ H ⟨F', M', e, hs', p⟩ => step m σ F' M' H ⟨e⟩ hs' p⟩
theorem whY {I : Nat → Iv} {m : Nat} (h : tb (En (WvH F I m) R N (WvH F I m)) σ H) : nWh tb N R (fun Nx => ∀ σ2 H2, Nx σ2 H2 → ∃ m', m' < m ∧ ∃ F' M', Same F F' ∧ Hs F' M' H2 ∧ I m' σ2 F' M') σ true H := by
  unfold nWh
  rw [if_pos rfl]
  exact ⟨WvH F I m, fun σ2 H2 ⟨m', F', M', l, r⟩ => ⟨m', l, F', M', r⟩, h⟩
theorem whN {q : (L2.St → Hp → Prop) → Prop} (h : N σ H) : nWh tb N R q σ false H := by
  unfold nWh
  rw [if_neg Bool.false_ne_true]
  exact h
theorem whP {I : Nat → Iv} {m : Nat} {p : Prop} [Decidable p] (h1 : p → tb (En (WvH F I m) R N (WvH F I m)) σ H) (h2 : ¬ p → N σ H) :
    nWh tb N R (fun Nx => ∀ σ2 H2, Nx σ2 H2 → ∃ m', m' < m ∧ ∃ F' M', Same F F' ∧ Hs F' M' H2 ∧ I m' σ2 F' M') σ (decide p) H := by
  by_cases hp : p
  · rw [decide_eq_true hp]; exact whY (h1 hp)
  · rw [decide_eq_false hp]; exact whN (h2 hp)
end
/-! ### list comprehensions -/
section
variable {K : PySem.W.Frag} {σ : L2.St} {H F : Hp} {M : Ow} {Q : VK} {g : TG} {tt : TT} {te tl : TE} {tr : TA} {vs : List Nat} {a D : Addr} {xs acc : List V} {y : V}
def nComp (g : TG) (tt : TT) (te : TE) (vs : List Nat) (σ : L2.St) (Q : VK) (J : It) (H1 : Hp) : Prop := ∀ D, H1 D = none → ∃ W : Nat → Nat → Hp → Prop, (∃ m, W 0 m (upd H1 D (.lst []))) ∧ ∀ i m H, W i m H →
  (J.stop i H ∧ Q (.ref D) H) ∨ (J.go i H ∧ ∃ Nx : Hp → Prop, (∀ H', Nx H' → ∃ m', m' < m ∧ W (i + 1) m' H') ∧ ∀ x H', J.yld i H x H' → g x (wipe σ vs) H' fun σ2 H2 => wipe σ2 vs = wipe σ vs ∧ tt σ2 H2 fun b H3 =>
    if b = true then te σ2 H3 fun y H4 => ∃ acc, H4 D = some (.lst acc) ∧ acc.length < sizeLine ∧ Nx (upd H4 D (.lst (acc ++ [y]))) else Nx H3)
instance : St1 (tLc (iList K tl) g tt te vs σ H Q) (tl σ H fun x H1 => nSeqL K x H1 fun J H1 => nComp g tt te vs σ Q J H1) := ⟨id⟩
instance : St1 (tLc (iTup K tl) g tt te vs σ H Q) (tl σ H fun x H1 => nSeqT K x H1 fun J H1 => nComp g tt te vs σ Q J H1) := ⟨id⟩
instance : St1 (tLc (iRng1 tr) g tt te vs σ H Q) (tr σ H fun ws H1 => nRng1 ws H1 fun J H1 => nComp g tt te vs σ Q J H1) := ⟨id⟩
instance : St1 (tLc (iRng2 tr) g tt te vs σ H Q) (tr σ H fun ws H1 => nRng2 ws H1 fun J H1 => nComp g tt te vs σ Q J H1) := ⟨id⟩
/-- between two turns: the list so far at D -/
abbrev Cv := List V → Hp → Ow → Prop
def CvH (F : Hp) (D : Addr) (I : Cv) : Hp → Prop := fun H => ∃ F' M' acc, Same F F' ∧ Hs F' ((D, HO.lst acc) :: M') H ∧ I acc F' M'
def CvP (F : Hp) (D : Addr) (I : Cv) (y : V) : Hp → Prop := fun H => ∃ acc, H D = some (.lst acc) ∧ acc.length < sizeLine ∧ CvH F D I (upd H D (.lst (acc ++ [y])))
theorem CvH.mk {F F' : Hp} {M' : Ow} {I : Cv} (e : Same F F') (hs : Hs F' ((D, HO.lst acc) :: M') H) (h : I acc F' M') : CvH F D I H := ⟨F', M', acc, e, hs, h⟩
theorem CvP.mk {F F' : Hp} {M' : Ow} {I : Cv} (e : Same F F') (hs : Hs F' ((D, HO.lst acc) :: M') H) (hl : acc.length < 16777216) (h : I (acc ++ [y]) F' M') : CvP F D I y H :=
  ⟨acc, hs.at (j := 0) rfl, szl hl, F', M', _, e, hs.set (j := 0) rfl, h⟩
/-- the slots wiped -/
class Wp (σ : L2.St) (vs : List Nat) (σw : outParam L2.St) : Prop where
  h : wipe σ vs = σw
instance {σ : L2.St} : Wp σ [] σ := ⟨rfl⟩
instance {σ σ1 σ2 : L2.St} {v : Nat} {vs : List Nat} [a : Wp σ vs σ1] [b : Ss σ1 v none σ2] : Wp σ (v :: vs) σ2 := ⟨by unfold wipe; rw [a.h, b.h]⟩
def nWp (vs : List Nat) (σ2 σw : L2.St) (q : Prop) : Prop := wipe σ2 vs = σw ∧ q
instance {σ2 σw : L2.St} {q : Prop} [a : Wp σ2 vs σw] : St1 (nWp vs σ2 σw q) q := ⟨fun h => ⟨a.h, h⟩⟩
/-- a turn of a comprehension: the target, the test, the element -/
abbrev CvT (g : TG) (tt : TT) (te : TE) (vs : List Nat) (σw : L2.St) (F : Hp) (D : Addr) (I : Cv) (x : V) (H' : Hp) : Prop :=
  g x σw H' fun σ2 H2 => nWp vs σ2 σw (tt σ2 H2 fun b H3 => if b = true then te σ2 H3 fun y H4 => CvP F D I y H4 else CvH F D I H3)
theorem nCompL {σw : L2.St} (I : Nat → Cv) [hs : Hs F M H] [hw : Wp σ vs σw] [hx : FzL K F a xs] (h0 : I 0 [] F M)
    (step : ∀ i x acc D F' M' H', xs[i]? = some x → Sm F F' → Hs F' ((D, HO.lst acc) :: M') H' → I i acc F' M' → CvT g tt te vs σw F D (I (i + 1)) x H')
    (done : ∀ D acc F' M' H', F D = none → Sm F F' → Hs F' ((D, HO.lst acc) :: M') H' → I xs.length acc F' M' → Q (.ref D) H') : nSeqL K (.ref a) H fun J H1 => nComp g tt te vs σ Q J H1 :=
  ⟨a, rfl, ⟨xs, same_l hs.fz hx.h⟩, fun D hD => lc_list (K := K) (a := a) (xs := xs) (fun i => CvH F D (I i)) ⟨F, M, [], Same.refl F, hs.new hD, h0⟩ (fun i H' _ ⟨F', M', acc, e, hs', p⟩ => same_l hs'.fz (same_l e hx.h))
    (fun i x H' hi ⟨F', M', acc, e, hs', p⟩ => by have := step i x acc D F' M' H' hi ⟨e⟩ hs' p; rw [← hw.h] at this; exact this) (fun H' ⟨F', M', acc, e, hs', p⟩ => done D acc F' M' H' (hs.free hD) ⟨e⟩ hs' p)⟩
theorem nCompT {σw : L2.St} (I : Nat → Cv) [hs : Hs F M H] [hw : Wp σ vs σw] [hx : FzT K F a xs] (h0 : I 0 [] F M)
    (step : ∀ i x acc D F' M' H', xs[i]? = some x → Sm F F' → Hs F' ((D, HO.lst acc) :: M') H' → I i acc F' M' → CvT g tt te vs σw F D (I (i + 1)) x H')
    (done : ∀ D acc F' M' H', F D = none → Sm F F' → Hs F' ((D, HO.lst acc) :: M') H' → I xs.length acc F' M' → Q (.ref D) H') : nSeqT K (.ref a) H fun J H1 => nComp g tt te vs σ Q J H1 :=
  ⟨a, rfl, ⟨xs, same_t hs.fz hx.h⟩, fun D hD => lc_tup (K := K) (a := a) (xs := xs) (fun i => CvH F D (I i)) ⟨F, M, [], Same.refl F, hs.new hD, h0⟩ (fun i H' _ ⟨F', M', acc, e, hs', p⟩ => same_t hs'.fz (same_t e hx.h))
    (fun i x H' hi ⟨F', M', acc, e, hs', p⟩ => by have := step i x acc D F' M' H' hi ⟨e⟩ hs' p; rw [← hw.h] at this; exact this) (fun H' ⟨F', M', acc, e, hs', p⟩ => done D acc F' M' H' (hs.free hD) ⟨e⟩ hs' p)⟩
theorem nCompO {σw : L2.St} (I : Nat → Cv) [hs : Hs F M H] [hw : Wp σ vs σw] [hx : Im M a (.lst xs)] (h0 : I 0 [] F M) (hk : ∀ i acc F' M', I i acc F' M' → Im M' a (.lst xs))
    (step : ∀ i x acc D F' M' H', xs[i]? = some x → Sm F F' → Hs F' ((D, HO.lst acc) :: M') H' → I i acc F' M' → CvT g tt te vs σw F D (I (i + 1)) x H')
    (done : ∀ D acc F' M' H', F D = none → Sm F F' → Hs F' ((D, HO.lst acc) :: M') H' → I xs.length acc F' M' → Q (.ref D) H') : nSeqL K (.ref a) H fun J H1 => nComp g tt te vs σ Q J H1 :=
  ⟨a, rfl, ⟨xs, SqL.of (hs.im hx)⟩, fun D hD => lc_list (K := K) (a := a) (xs := xs) (fun i => CvH F D (I i)) ⟨F, M, [], Same.refl F, hs.new hD, h0⟩
    (fun i H' _ ⟨F', M', acc, e, hs', p⟩ => SqL.of (hs'.im (@im1 _ _ _ _ (hk i acc F' M' p))))
    (fun i x H' hi ⟨F', M', acc, e, hs', p⟩ => by have := step i x acc D F' M' H' hi ⟨e⟩ hs' p; rw [← hw.h] at this; exact this) (fun H' ⟨F', M', acc, e, hs', p⟩ => done D acc F' M' H' (hs.free hD) ⟨e⟩ hs' p)⟩
theorem nCompR {lo : Int} {n : Nat} {σw : L2.St} (I : Nat → Cv) [hs : Hs F M H] [hw : Wp σ vs σw] (h0 : I 0 [] F M)
    (step : ∀ (i : Nat) acc D F' M' H', i < n → Sm F F' → Hs F' ((D, HO.lst acc) :: M') H' → I i acc F' M' → CvT g tt te vs σw F D (I (i + 1)) (.int (lo + i)) H')
    (done : ∀ D acc F' M' H', F D = none → Sm F F' → Hs F' ((D, HO.lst acc) :: M') H' → I n acc F' M' → Q (.ref D) H') : nComp g tt te vs σ Q (Itr lo n) H := fun D hD =>
  lc_range (lo := lo) (n := n) (fun i => CvH F D (I i)) ⟨F, M, [], Same.refl F, hs.new hD, h0⟩
    (fun i H' hi ⟨F', M', acc, e, hs', p⟩ => by have := step i acc D F' M' H' hi ⟨e⟩ hs' p; rw [← hw.h] at this; exact this) (fun H' ⟨F', M', acc, e, hs', p⟩ => done D acc F' M' H' (hs.free hD) ⟨e⟩ hs' p)
end

/-! ### isinstance, all -/
class Kt (a b : String) (r : outParam Bool) : Prop where
  h : kitB a b = some r
instance : Kt "int" "int" true := ⟨by decide +kernel⟩
instance : Kt "int" "bool" false := ⟨by decide +kernel⟩
instance : Kt "int" "str" false := ⟨by decide +kernel⟩
instance : Kt "int" "tuple" false := ⟨by decide +kernel⟩
instance : Kt "int" "list" false := ⟨by decide +kernel⟩
instance : Kt "bool" "int" true := ⟨by decide +kernel⟩
instance : Kt "bool" "bool" true := ⟨by decide +kernel⟩
instance : Kt "bool" "str" false := ⟨by decide +kernel⟩
instance : Kt "bool" "tuple" false := ⟨by decide +kernel⟩
instance : Kt "bool" "list" false := ⟨by decide +kernel⟩
instance : Kt "str" "int" false := ⟨by decide +kernel⟩
instance : Kt "str" "bool" false := ⟨by decide +kernel⟩
instance : Kt "str" "str" true := ⟨by decide +kernel⟩
instance : Kt "str" "tuple" false := ⟨by decide +kernel⟩
instance : Kt "str" "list" false := ⟨by decide +kernel⟩
instance : Kt "NoneType" "int" false := ⟨by decide +kernel⟩
instance : Kt "NoneType" "bool" false := ⟨by decide +kernel⟩
instance : Kt "NoneType" "str" false := ⟨by decide +kernel⟩
instance : Kt "NoneType" "tuple" false := ⟨by decide +kernel⟩
instance : Kt "NoneType" "list" false := ⟨by decide +kernel⟩
instance : Kt "tuple" "int" false := ⟨by decide +kernel⟩
instance : Kt "tuple" "bool" false := ⟨by decide +kernel⟩
instance : Kt "tuple" "str" false := ⟨by decide +kernel⟩
instance : Kt "tuple" "tuple" true := ⟨by decide +kernel⟩
instance : Kt "tuple" "list" false := ⟨by decide +kernel⟩
instance : Kt "list" "int" false := ⟨by decide +kernel⟩
instance : Kt "list" "bool" false := ⟨by decide +kernel⟩
instance : Kt "list" "str" false := ⟨by decide +kernel⟩
instance : Kt "list" "tuple" false := ⟨by decide +kernel⟩
instance : Kt "list" "list" true := ⟨by decide +kernel⟩
class TyC (K : PySem.W.Frag) (H : Hp) (x : V) (a : outParam String) : Prop where
  h : TyX K H x (.type a)
section
variable {K : PySem.W.Frag} {H F : Hp} {M : Ow} {p : Addr} {xs : List V} {Q : VK}
theorem tyT (h : SqT K H p xs) : TyX K H (.ref p) (.type "tuple") := by
  rcases h with (h | ⟨o, h⟩) | ⟨o, its, n, e, c, _⟩
  · exact .base (.tup h)
  · exact .fTuple h
  · exact .kTuple e c
theorem tyL (h : SqL K H p xs) : TyX K H (.ref p) (.type "list") := by
  rcases h with (h | ⟨o, h⟩) | ⟨o, its, n, e, c, _⟩
  · exact .base (.lst h)
  · exact .base (.frz h)
  · exact .kList e c
instance {i : Int} : TyC K H (.int i) "int" := ⟨.base (.int i)⟩
instance {b : Bool} : TyC K H (.bl b) "bool" := ⟨.base (.bl b)⟩
instance {x : Str} : TyC K H (.str x) "str" := ⟨.base (.str x)⟩
instance : TyC K H .non "NoneType" := ⟨.base .non⟩
instance [hs : Hs F M H] [hm : Im M p (.lst xs)] : TyC K H (.ref p) "list" := ⟨tyL (SqL.of (hs.im hm))⟩
instance (priority := 900) [hs : Hs F M H] [hm : FzT K F p xs] : TyC K H (.ref p) "tuple" := ⟨tyT (same_t hs.fz hm.h)⟩
instance (priority := 800) [hs : Hs F M H] [hm : FzL K F p xs] : TyC K H (.ref p) "list" := ⟨tyL (same_l hs.fz hm.h)⟩
instance {x : V} {a T : String} {r : Bool} [t : TyC K H x a] [k : Kt a T r] : St1 (rIsi K [x, .ty T] H Q) (Q (.bl r) H) := ⟨fun h => ⟨x, .ty T, _, _, r, rfl, .ty T, t.h, kit_ty k.h, h⟩⟩
theorem nAll {bs : List Bool} [hs : Hs F M H] [hm : Im M p (.lst (bs.map V.bl))] (h : Q (.bl (bs.all id)) H) : rAll K [.ref p] H Q := ⟨p, bs, rfl, SqL.of (hs.im hm), h⟩
theorem nAllT {n : Nat} [hs : Hs F M H] [hm : Im M p (.lst (List.replicate n (V.bl true)))] (h : Q (.bl true) H) : rAll K [.ref p] H Q := ⟨p, List.replicate n true, rfl, by
  rw [List.map_replicate]; exact SqL.of (hs.im hm), by rw [List.all_replicate]; simp; exact h⟩
end

/-! ### calls of the text's own -/
section
variable (P : Program) (w : World) (K : PySem.W.Frag) (mg : Str → Option Value) (base : Heap) (CX : CXT)
structure Fn (x : Str) (k : Nat) (ps : List Str) (dvs : List V) (sp : Sp) : Prop where
  fn : ∃ fd ds, FnOk P w K mg base CX k (He.ga K x) fd ps sp ∧ Binds K fd ps ds ∧ Vals dvs ds
  kp : PySem.W.keepIn K (.ref (He.ga K x)) = true
  gl : mg x = some (.ref (He.ga K x))
structure Me (C m : Str) (k : Nat) (ps : List Str) (dvs : List V) (sp : Sp) : Prop where
  fn : ∃ fd ds, FnOk P w K mg base CX k (He.ma K (He.ga K C) m) fd ps sp ∧ Binds K fd ps ds ∧ Vals dvs ds
  cl : Cls K (He.ga K C)
  mt : Meth K (He.ga K C) m (He.ma K (He.ga K C) m)
structure Mkr (C : Str) (k : Nat) (ps : List Str) (dvs : List V) (sp : Sp) : Prop where
  fn : ∃ fd ds, FnOk P w K mg base CX k (He.ma K (He.ga K C) "__init__") fd ps sp ∧ Binds K fd ps ds ∧ Vals dvs ds
  mkk : Mk K (He.ga K C) (He.ma K (He.ga K C) "__init__")
  gl : mg C = some (.ref (He.ga K C))
end
section
variable {X : Cx} {CX : CXT} {k : Nat} {ps : List Str} {sp : Sp} {dvs : List V} {E : XK} {x m C : Str} {p pos apos : Pos} {e o : Expr} {es : List Expr} {ta : TE} {t : TA}
theorem pe_fn (G : Fn X.prog X.w X.K X.mg X.base CX x k ps dvs sp) (hr : Room k X.A) (hx : Passes CX X E) (ha : PA X (e :: es) t) (hg : Gl X x := by rfl) (hdb : (x == ("__debug__" : Str)) = false := by decide)
    (he : starEach (e :: es) X.env = (false, eval e X.env) :: starEach es X.env := by rfl) (hpl : (backTo pos (starEach es X.env)).any (·.1) = false := by rfl) : PE X (.Call (.Name x p) (e :: es) [] pos) (tCall sp dvs E t) := by
  obtain ⟨fd, ds, F, b, v⟩ := G.fn
  exact pe_call F hr hg G.gl G.kp b v hx ha hdb he hpl
theorem pe_fn0 (G : Fn X.prog X.w X.K X.mg X.base CX x k ps dvs sp) (hr : Room k X.A) (hx : Passes CX X E) (hg : Gl X x := by rfl) (hdb : (x == ("__debug__" : Str)) = false := by decide) : PE X (.Call (.Name x p) [] [] pos) (tCall sp dvs E tNil) := by
  obtain ⟨fd, ds, F, b, v⟩ := G.fn
  exact pe_call0 F hr hg G.gl G.kp b v hx hdb
theorem pe_me {pl : Sem Bool} (G : Me X.prog X.w X.K X.mg X.base CX C m k ps dvs sp) (ho : PE X o ta) (hr : Room k X.A) (hx : Passes CX X E) (ha : PA X (e :: es) t)
    (hst : starEach (e :: es) X.env = (false, eval e X.env) :: starEach es X.env := by rfl) (hpl : (backTo pos (starEach es X.env)).any (·.1) = false := by rfl)
    (ht : eval (.Call (.Attribute o m apos) (e :: es) [] pos) X.env = (do
      let ov ← eval o X.env
      standAt apos.atName
      let (f, first) ← holding [ov] (getMethod ov m pl)
      callWith pos f first (backTo pos (starEach (e :: es) X.env)) (backToKw pos (keywordEach [] X.env))) := by rfl) :
    PE X (.Call (.Attribute o m apos) (e :: es) [] pos) (tMeth (He.ga X.K C) m sp dvs E ta t) := by
  obtain ⟨fd, ds, F, b, v⟩ := G.fn
  exact pe_meth ho G.cl G.mt F hr b v hx ha hst hpl ht
theorem pe_me0 {pl : Sem Bool} (G : Me X.prog X.w X.K X.mg X.base CX C m k ps dvs sp) (ho : PE X o ta) (hr : Room k X.A) (hx : Passes CX X E)
    (ht : eval (.Call (.Attribute o m apos) [] [] pos) X.env = (do
      let ov ← eval o X.env
      standAt apos.atName
      let (f, first) ← holding [ov] (getMethod ov m pl)
      callWith pos f first (backTo pos (starEach [] X.env)) (backToKw pos (keywordEach [] X.env))) := by rfl) :
    PE X (.Call (.Attribute o m apos) [] [] pos) (tMeth (He.ga X.K C) m sp dvs E ta tNil) := by
  obtain ⟨fd, ds, F, b, v⟩ := G.fn
  exact pe_meth0 ho G.cl G.mt F hr b v hx ht
theorem pe_mkr (G : Mkr X.prog X.w X.K X.mg X.base CX C k ps dvs sp) (hr : Room (k + 1) X.A) (hx : Passes CX X E) (ha : PA X (e :: es) t) (hg : Gl X C := by rfl) (hdb : (C == ("__debug__" : Str)) = false := by decide)
    (he : starEach (e :: es) X.env = (false, eval e X.env) :: starEach es X.env := by rfl) (hpl : (backTo pos (starEach es X.env)).any (·.1) = false := by rfl) : PE X (.Call (.Name C p) (e :: es) [] pos) (tMake (He.ga X.K C) sp dvs E t) := by
  obtain ⟨fd, ds, F, b, v⟩ := G.fn
  exact pe_make G.mkk F hr hg G.gl b v hx ha hdb he hpl
theorem pe_mkr0 (G : Mkr X.prog X.w X.K X.mg X.base CX C k ps dvs sp) (hr : Room (k + 1) X.A) (hx : Passes CX X E) (hg : Gl X C := by rfl) (hdb : (C == ("__debug__" : Str)) = false := by decide) : PE X (.Call (.Name C p) [] [] pos) (tMake (He.ga X.K C) sp dvs E tNil) := by
  obtain ⟨fd, ds, F, b, v⟩ := G.fn
  exact pe_make0 G.mkk F hr hg G.gl b v hx hdb
/-- a new instance: what __init__ is asked -/
def nMake (C : Addr) (sp : Sp) (E : XK) (vs : List V) (H1 : Hp) (Q : VK) : Prop := ∀ x dx, H1 x = none → H1 dx = none → dx ≠ x → sp (.ref x :: vs) (upd (upd H1 dx (.own x)) x (.ins C dx [])) (fun v H2 => v = .non ∧ Q (.ref x) H2) E
instance {C : Addr} {σ : L2.St} {H : Hp} {Q : VK} {tr : TA} : St1 (tMake C sp dvs E tr σ H Q) (tr σ H fun vs H1 => nMake C sp E (vs ++ dvs) H1 Q) := ⟨id⟩
theorem Hs.make {F H : Hp} {M : Ow} {x dx C : Addr} {ns : List Str} (hs : Hs F M H) (h1 : H x = none) (h2 : H dx = none) (h3 : dx ≠ x) : Hs (upd F dx (.own x)) ((x, Ob C dx ns []) :: M) (upd (upd H dx (.own x)) x (.ins C dx [])) ∧ Same F (upd F dx (.own x)) := by
  refine ⟨?_, same_upd (hs.free h2)⟩
  have e : (Ob C dx ns [] : HO) = .ins C dx [] := by show HO.ins C dx (ns.zip []) = _; rw [List.zip_nil_right]
  rw [e]
  exact (hs.newF h2).new (by rw [upd_ne (Ne.symm h3)]; exact h1)
theorem nMake_mk {C : Addr} {ns : List Str} {vs : List V} {F H : Hp} {M : Ow} {Q : VK} [hs : Hs F M H] (h : ∀ x dx F' H', F x = none → Sm F F' → Hs F' ((x, Ob C dx ns []) :: M) H' → sp (.ref x :: vs) H' (fun v H2 => v = .non ∧ Q (.ref x) H2) E) : nMake C sp E vs H Q :=
  fun x dx h1 h2 h3 => h x dx _ _ (hs.free h1) ⟨(hs.make (C := C) (ns := ns) h1 h2 h3).2⟩ (hs.make h1 h2 h3).1
end
end Sh


set_option Elab.async false
set_option linter.all false
set_option maxRecDepth 100000
set_option maxHeartbeats 4000000
/-! # Further rules: what walks a list or a tuple -/
namespace Sh
open PySem PySem.Spec PyProof.Rows L2
section
variable {X : Cx} {tg : Expr}
/-- a list or a tuple is walked: whichever it turns out to be -/
def iLT (K : PySem.W.Frag) (tl : TE) : TI := fun σ H R => tl σ H fun x H1 => (∃ a, x = .ref a ∧ (∃ xs, SqL K H1 a xs) ∧ R (Itl K a) H1) ∨ (∃ a, x = .ref a ∧ (∃ xs, SqT K H1 a xs) ∧ R (Itt K a) H1)
/-- an iterator laid at the heap's end is ours -/
theorem laid_ours {pins : List (Addr × Obj)} {σ : L2.St} {H : Hp} {s : Shared} {o : Obj} {J : It} {tn : Nat → Heap → Prop} {R : It → Hp → Prop} (I : Inv X pins σ H s) (tt : Turn X.prog X.w X.K tg J [s.heap.objs.size] s.heap.objs.size tn)
    (h0 : tn 0 (s.heap.push o)) (q : R J H) : PIE X pins σ tg R (.ref s.heap.objs.size) { s with heap := s.heap.push o } := by
  have kept : Inv X pins σ H { s with heap := s.heap.push o } := I.kept (t' := s.toks) (fun _ _ e => Heap.get?_push_of_some _ e)
  refine ⟨_, [s.heap.objs.size], tn, J, H, rfl, kept, tt, h0, ?_, q⟩
  intro b hb
  rw [List.mem_singleton.mp hb]
  exact I.fpOk (Nat.le_refl _) (I.hok.fresh (Nat.le_refl _))
theorem pi_lt {l : Expr} {tl : TE} (hl : PE X l tl) : PI X tg l (iLT X.K tl) := by
  constructor
  intro pins s σ H R I h
  refine thn (hl.run pins s σ H _ I h) ?_
  rintro v s1 ⟨x, H1, I1, r1, q1⟩
  rcases q1 with ⟨a, rfl, ⟨xs, hq⟩, q⟩ | ⟨a, rfl, ⟨xs, hq⟩, q⟩ <;> cases r1
  · obtain ⟨its, -, p, -⟩ := I1.list hq
    exact wpAny_pyIter_list p.isList (laid_ours I1 (turn_list a _) ⟨_, Heap.get?_push_size _ rfl, rfl, rfl⟩ q)
  · obtain ⟨its, -, p, -⟩ := I1.tuple hq
    exact wpAny_pyIter_tuple (items := its.toArray) p (laid_ours I1 (turn_tuple a _) ⟨_, Heap.get?_push_size _ rfl, rfl, rfl⟩ q)
end
section
variable {K : PySem.W.Frag} {σ : L2.St} {H F : Hp} {M : Ow} {g : TG} {tb : TS} {a : Addr} {xs : List V} {N B C : L2.St → Hp → Prop} {R : VK} {te : TE} {tt : TT} {Q : VK} {vs : List Nat} {tl : TE}
def nSeqLT (K : PySem.W.Frag) (x : V) (H1 : Hp) (q : It → Hp → Prop) : Prop := nSeqL K x H1 q ∨ nSeqT K x H1 q
instance : St1 (tFor (iLT K te) g tb (En N R B C) σ H) (te σ H fun x H1 => nSeqLT K x H1 fun J H1 => nLoop g tb N R σ J H1) := ⟨id⟩
instance : St1 (tLc (iLT K tl) g tt te vs σ H Q) (tl σ H fun x H1 => nSeqLT K x H1 fun J H1 => nComp g tt te vs σ Q J H1) := ⟨id⟩
theorem nLoopLT (I : Nat → Iv) [hs : Hs F M H] (hx : SqL K F a xs ∨ SqT K F a xs) (h0 : I 0 σ F M)
    (step : ∀ i x σ' F' M' H', xs[i]? = some x → Sm F F' → Hs F' M' H' → I i σ' F' M' → g x σ' H' fun σ2 H2 => tb (En (IvH F (I (i + 1))) R N (IvH F (I (i + 1)))) σ2 H2)
    (done : ∀ σ' F' M' H', Sm F F' → Hs F' M' H' → I xs.length σ' F' M' → N σ' H') : nSeqLT K (.ref a) H fun J H1 => nLoop g tb N R σ J H1 := by
  rcases hx with hx | hx
  · have : FzL K F a xs := ⟨hx⟩
    exact .inl (nLoopL I h0 step done)
  · have : FzT K F a xs := ⟨hx⟩
    exact .inr (nLoopT I h0 step done)
end
end Sh


set_option Elab.async false
set_option linter.all false
set_option maxRecDepth 100000
set_option maxHeartbeats 4000000
/-! # Data: rows of tuples of ints and the like -/
namespace Sh
open PySem PySem.Spec PyProof.Rows L2
section
variable {K : PySem.W.Frag} {F F' : Hp}
theorem dpa_len : ∀ {xs : List V} {ds : List PyData}, DpAll K F xs ds → xs.length = ds.length
  | _, _, .nil => rfl
  | _, _, .cons _ r => congrArg (· + 1) (dpa_len r)
theorem dpa_get : ∀ {xs : List V} {ds : List PyData} {i : Nat}, DpAll K F xs ds → i < ds.length → ∃ v d, xs[i]? = some v ∧ ds[i]? = some d ∧ Dp K F v d
  | _, _, _, .nil, h => by simp at h
  | _, _, 0, .cons a _, _ => ⟨_, _, rfl, rfl, a⟩
  | _, _, i + 1, .cons _ r, h => by
    obtain ⟨v, d, h1, h2, h3⟩ := dpa_get (i := i) r (by simpa using h)
    exact ⟨v, d, by simpa using h1, by simpa using h2, h3⟩
theorem dpa_at : ∀ {xs : List V} {ds : List PyData} {i : Nat} {v : V}, DpAll K F xs ds → xs[i]? = some v → ∃ d, ds[i]? = some d ∧ Dp K F v d
  | _, _, i, v, h, e => by
    have hl := (List.getElem?_eq_some_iff.mp e).1
    rw [dpa_len h] at hl
    obtain ⟨v', d, h1, h2, h3⟩ := dpa_get h hl
    rw [e] at h1; cases h1
    exact ⟨d, h2, h3⟩
theorem dpa_app : ∀ {xs ys : List V} {ds es : List PyData}, DpAll K F xs ds → DpAll K F ys es → DpAll K F (xs ++ ys) (ds ++ es)
  | _, _, _, _, .nil, h => h
  | _, _, _, _, .cons a r, h => .cons a (dpa_app r h)
theorem dpa_snoc : ∀ {xs : List V} {ds : List PyData} {d : PyData}, DpAll K F xs (ds ++ [d]) → ∃ ys v, xs = ys ++ [v] ∧ DpAll K F ys ds ∧ Dp K F v d
  | _, [], _, .cons a .nil => ⟨[], _, rfl, .nil, a⟩
  | _, _ :: ds, _, .cons a r => by
    obtain ⟨ys, v, rfl, h1, h2⟩ := dpa_snoc (ds := ds) r
    exact ⟨_ :: ys, v, rfl, .cons a h1, h2⟩
theorem dpa_set : ∀ {xs : List V} {ds : List PyData} {v : V} {d : PyData} {i : Nat}, DpAll K F xs ds → Dp K F v d → DpAll K F (xs.set i v) (ds.set i d)
  | _, _, _, _, _, .nil, _ => .nil
  | _, _, _, _, 0, .cons _ r, h => .cons h r
  | _, _, _, _, _ + 1, .cons a r, h => .cons a (dpa_set r h)
mutual
theorem dp_mono (e : Same F F') : ∀ {d : PyData} {v : V}, Dp K F v d → Dp K F' v d
  | _, _, .non => .non
  | _, _, .bl b => .bl b
  | _, _, .int i => .int i
  | _, _, .str x => .str x
  | _, _, .lst h r => .lst (same_l e h) (dpa_mono e r)
  | _, _, .tup h r => .tup (same_t e h) (dpa_mono e r)
theorem dpa_mono (e : Same F F') : ∀ {ds : List PyData} {vs : List V}, DpAll K F vs ds → DpAll K F' vs ds
  | _, _, .nil => .nil
  | _, _, .cons h r => .cons (dp_mono e h) (dpa_mono e r)
end
theorem dp_int {v : V} {i : Int} (h : Dp K F v (.int i)) : v = .int i := by cases h; rfl
theorem dp_str {v : V} {x : Str} (h : Dp K F v (.str x)) : v = .str x := by cases h; rfl
theorem dp_tup {v : V} {ds : List PyData} (h : Dp K F v (.tuple ds)) : ∃ t xs, v = .ref t ∧ SqT K F t xs ∧ DpAll K F xs ds := by
  cases h with | tup a b => exact ⟨_, _, rfl, a, b⟩
theorem dp_lst {v : V} {ds : List PyData} (h : Dp K F v (.list ds)) : ∃ t xs, v = .ref t ∧ SqL K F t xs ∧ DpAll K F xs ds := by
  cases h with | lst a b => exact ⟨_, _, rfl, a, b⟩
theorem dpa_ints : ∀ {xs : List V} {ns : List Int}, DpAll K F xs (ns.map .int) → xs = ns.map V.int
  | _, [], .nil => rfl
  | _, _ :: ns, .cons a r => by rw [dp_int a, dpa_ints (ns := ns) r]; rfl
theorem dpa_of_ints : ∀ {ns : List Int}, DpAll K F (ns.map V.int) (ns.map .int)
  | [] => .nil
  | n :: _ => .cons (.int n) dpa_of_ints
/-- three ints -/
abbrev Tr := Int × Int × Int
def trD (t : Tr) : PyData := .tuple [.int t.1, .int t.2.1, .int t.2.2]
theorem dp_tr {v : V} {t : Tr} (h : Dp K F v (trD t)) : ∃ a, v = .ref a ∧ SqT K F a [.int t.1, .int t.2.1, .int t.2.2] := by
  obtain ⟨a, xs, rfl, h1, h2⟩ := dp_tup h
  have : xs = [t.1, t.2.1, t.2.2].map V.int := dpa_ints h2
  subst this
  exact ⟨a, rfl, h1⟩
theorem dp_trI {a : Addr} {x y z : Int} (h : SqT K F a [.int x, .int y, .int z]) : Dp K F (.ref a) (trD (x, y, z)) := .tup h (.cons (.int _) (.cons (.int _) (.cons (.int _) .nil)))
end
end Sh


set_option Elab.async false
set_option linter.all false
set_option maxRecDepth 100000
set_option maxHeartbeats 4000000
/-! # Texts: signs, slices, turned round, repeated, joined; chains of three comparisons -/
namespace Sh
open PySem PySem.Spec PyProof.Rows L2
open SX (S)
theorem strLits {a b : Str} (h : a = b) : V.str a = V.str b := by rw [h]

/-! ### rules -/
section
variable {X : Cx} {a b c d e o : Expr} {ta tb tc td te to : TE} {pos : Pos} {op1 op2 op3 : CmpOp} {r r' r'' : R2}
/-- three comparisons in a row -/
def nCh (r : R2) (x y : V) (H : Hp) (Q : VK) (go : Hp → Prop) : Prop := r x y H fun z H' => ∃ k, z = .bl k ∧ (if k = true then go H' else Q (.bl false) H')
def tChain3 (r r' r'' : R2) (ta tb tc td : TE) : TE := fun σ H Q => ta σ H fun x H1 => tb σ H1 fun y H2 => nCh r x y H2 Q fun H3 => tc σ H3 fun z H4 => nCh r' y z H4 Q fun H5 => td σ H5 fun w H6 => r'' z w H6 Q
theorem pe_chain3 (h1 : OpR X (compareOp op1) r) (h2 : OpR X (compareOp op2) r') (h3 : OpR X (compareOp op3) r'') (ha : PE X a ta) (hb : PE X b tb) (hc : PE X c tc) (hd : PE X d td)
    (hm : lastMarks [op1, op2, op3] [b, c, d] = false := by with_unfolding_all rfl) : PE X (.Compare a [op1, op2, op3] [b, c, d] pos) (tChain3 r r' r'' ta tb tc td) := by
  constructor
  intro pins s σ H Q I h
  refine Compare_chain (thn (ha.run pins s σ H _ I h) ?_) hm
  rintro v1 s1 ⟨x1, G1, I1, e1, q1⟩
  refine chain_link (thn (hb.run pins s1 σ G1 _ I1 q1) ?_)
  rintro v2 s2 ⟨x2, G2, I2, e2, q2⟩
  refine thn (h1 pins s2 σ G2 x1 x2 v1 v2 _ I2 e1 e2 q2) ?_
  rintro u s3 ⟨z, G3, I3, e3, k, rfl, q3⟩
  cases e3
  refine wpAny_truthy_bool ?_
  cases k with
  | false => exact ite_ff ⟨.bl false, G3, I3, rfl, q3⟩
  | true =>
    refine ite_tt (chain_link (thn (hc.run pins s3 σ G3 _ I3 q3) ?_))
    rintro v4 s4 ⟨x4, G4, I4, e4, q4⟩
    refine thn (h2 pins s4 σ G4 x2 x4 v2 v4 _ I4 e2 e4 q4) ?_
    rintro u5 s5 ⟨z5, G5, I5, e5, k5, rfl, q5⟩
    cases e5
    refine wpAny_truthy_bool ?_
    cases k5 with
    | false => exact ite_ff ⟨.bl false, G5, I5, rfl, q5⟩
    | true =>
      refine ite_tt (chain_last (thn (hd.run pins s5 σ G5 _ I5 q5) ?_))
      rintro v6 s6 ⟨x6, G6, I6, e6, q6⟩
      exact h3 pins s6 σ G6 x4 x6 v4 v6 Q I6 e4 e6 q6
theorem pt_chain3 (h1 : OpR X (compareOp op1) r) (h2 : OpR X (compareOp op2) r') (h3 : OpR X (compareOp op3) r'') (ha : PE X a ta) (hb : PE X b tb) (hc : PE X c tc) (hd : PE X d td)
    (hm : lastMarks [op1, op2, op3] [b, c, d] = false := by with_unfolding_all rfl) : PT X (.Compare a [op1, op2, op3] [b, c, d] pos) (tTest (tChain3 r r' r'' ta tb tc td)) := by
  constructor
  intro pins s σ H Q I h
  refine isTrue_chain (thn (ha.run pins s σ H _ I h) ?_) hm
  rintro v1 s1 ⟨x1, G1, I1, e1, q1⟩
  refine test_link (thn (hb.run pins s1 σ G1 _ I1 q1) ?_)
  rintro v2 s2 ⟨x2, G2, I2, e2, q2⟩
  refine thn (h1 pins s2 σ G2 x1 x2 v1 v2 _ I2 e1 e2 q2) ?_
  rintro u s3 ⟨z, G3, I3, e3, k, rfl, q3⟩
  cases e3
  refine wpAny_truthy_bool ?_
  cases k with
  | false =>
    obtain ⟨k', ek, q'⟩ := q3
    cases ek
    exact ite_ff ⟨G3, I3, q'⟩
  | true =>
    refine ite_tt (test_link (thn (hc.run pins s3 σ G3 _ I3 q3) ?_))
    rintro v4 s4 ⟨x4, G4, I4, e4, q4⟩
    refine thn (h2 pins s4 σ G4 x2 x4 v2 v4 _ I4 e2 e4 q4) ?_
    rintro u5 s5 ⟨z5, G5, I5, e5, k5, rfl, q5⟩
    cases e5
    refine wpAny_truthy_bool ?_
    cases k5 with
    | false =>
      obtain ⟨k', ek, q'⟩ := q5
      cases ek
      exact ite_ff ⟨G5, I5, q'⟩
    | true =>
      refine ite_tt (test_last (thn (hd.run pins s5 σ G5 _ I5 q5) ?_))
      rintro v6 s6 ⟨x6, G6, I6, e6, q6⟩
      refine thn (h3 pins s6 σ G6 x4 x6 v4 v6 _ I6 e4 e6 q6) ?_
      rintro u7 s7 ⟨z7, G7, I7, e7, k7, rfl, q7⟩
      cases e7
      exact wpAny_truthy_bool ⟨G7, I7, q7⟩
/-- a sign in a text -/
def rInSign : R2 := fun x y H Q => ∃ (c : Nat) (z : Str), x = .str ⟨#[c]⟩ ∧ y = .str z ∧ Q (.bl (decide (c ∈ z.cps.toList))) H
def rAddS : R2 := fun x y H Q => ∃ i j, x = .str i ∧ y = .str j ∧ i.length + j.length ≤ sizeLine ∧ Q (.str (i ++ j)) H
/-- a text, repeated -/
def rRepS : R2 := fun x y H Q => ∃ (z : List Nat) (k : Int), x = .str (S z) ∧ y = .int k ∧ -9223372036854775808 ≤ k ∧ k < 9223372036854775808 ∧ z.length * k.toNat ≤ 16777216 ∧ Q (.str (S (List.replicate k.toNat z).flatten)) H
theorem mul_S (z : List Nat) (k : Int) (h0 : 0 ≤ k ∨ k < 0) : Txt.mul (S z) k = S (List.replicate k.toNat z).flatten := by
  unfold Txt.mul
  by_cases h : k < 1
  · rw [if_pos h]
    have : k.toNat = 0 := by omega
    rw [this]
    rfl
  rw [if_neg h]
  by_cases h1 : (k == 1 || (S z).length == 0) = true
  · rw [if_pos h1]
    rw [Bool.or_eq_true] at h1
    rcases h1 with h1 | h1
    · have : k = 1 := eq_of_beq h1
      subst this
      show S z = S (List.replicate 1 z).flatten
      simp
    · have hz : z = [] := by
        have := eq_of_beq h1
        rw [SX.S_len] at this
        exact List.length_eq_zero_iff.mp this
      subst hz
      have e : (List.replicate k.toNat ([] : List Nat)).flatten = [] := List.flatten_eq_nil_iff.mpr fun l hl => (List.mem_replicate.mp hl).2
      rw [e]
  · rw [if_neg h1]
    have key : ∀ (n : Nat) (acc : List Nat), (List.replicate n (S z).cps).foldl (· ++ ·) acc.toArray = (acc ++ (List.replicate n z).flatten).toArray := by
      intro n
      induction n with
      | zero => intro acc; show acc.toArray = (acc ++ []).toArray; rw [List.append_nil]
      | succ n ih =>
        intro acc
        rw [List.replicate_succ, List.foldl_cons, List.replicate_succ, List.flatten_cons]
        have : acc.toArray ++ (S z).cps = (acc ++ z).toArray := List.append_toArray ..
        rw [this, ih, List.append_assoc]
    have := key k.toNat []
    simp only [List.nil_append] at this
    show (⟨(List.replicate k.toNat (S z).cps).foldl (· ++ ·) #[]⟩ : Str) = _
    rw [show (#[] : Array Nat) = ([] : List Nat).toArray from rfl, this]
theorem op_repS : OpR X (binaryOp .Mult) rRepS := by
  intro pins s σ H x y v u Q I rx ry h
  obtain ⟨z, k, rfl, rfl, hlo, hhi, hb, q⟩ := h
  obtain ⟨t, rfl⟩ := rx
  obtain ⟨t', rfl⟩ := ry
  refine SB.mul ⟨?_, ?_, ?_⟩ fun t2 m => ⟨.str _, H, I.kept (t' := m) (fun _ _ e => e), ⟨_, rfl⟩, by rw [mul_S z k (by omega)]; exact q⟩
  · rw [decide_eq_false (by omega), decide_eq_false (by omega)]; rfl
  · intro h1 h2 h3
    rw [SX.S_len] at h3
    have h4 : (z.length : Int) * k ≤ 16777216 := by
      have e : k = (k.toNat : Int) := by omega
      rw [e, ← Int.natCast_mul]
      exact Int.ofNat_le.mpr hb
    have h5 : (z.length : Int) ≤ (2 ^ 63 - 1) / k := (Int.le_ediv_iff_mul_le (by omega)).mpr (by omega)
    omega
  · intro h1 h2
    rw [SX.S_len]
    show decide _ = false
    refine decide_eq_false ?_
    rw [sizeLine_eq]
    omega
/-- xs[::-1], xs a text -/
def tRevS (K : PySem.W.Frag) (te : TE) : TE := fun σ H Q => te σ H fun x H1 => ∃ z : List Nat, x = .str (S z) ∧ z.length ≤ 16777216 ∧ Q (.str (S z.reverse)) H1
theorem strIdx_rev (n : Nat) : Builtin.Str.strSliceIndices none none (-1) n = (List.range n).reverse := by
  show sliceRange ((n : Int) - 1) (-1) (-1) = _
  rw [PySem.W.krv_sliceRange, PySem.W.krv_range]
theorem pick_rev (z : List Nat) : ((List.range z.length).reverse.filterMap (z.toArray[·]?)) = z.reverse := by
  have := PySem.W.krv_all z.toArray
  rw [List.filterMap_reverse]
  rw [List.size_toArray] at this
  rw [this]
theorem pe_rev_str {k : Nat} {p1 p2 p3 : Pos} (he : PE X e te) : PE X (.Subscript e (.Slice none none (some (.UnaryOp .USub (.Constant (.int 1) k p1) p2)) p3) pos) (tRevS X.K te) := by
  constructor
  intro pins s σ H Q I h
  refine Subscript_ (thn (he.run pins s σ H _ I h) ?_)
  rintro v s1 ⟨x, G1, I1, e1, z, rfl, hz, q⟩
  obtain ⟨t, rfl⟩ := e1
  have hneg : PO X (some (.UnaryOp .USub (.Constant (.int 1) k p1) p2)) (tPart (tUn (rU fun i => .int (-i)) (tC (.int 1)))) := po_some (pe_un un_neg pe_int)
  refine wpAny_Slice (thn (po_none.run pins s1 σ G1 (fun o H2 => o = none ∧ H2 = G1) I1 ⟨rfl, rfl⟩) ?_)
  rintro vl s2 ⟨l, G2, I2, pl, rfl, rfl⟩
  refine thn (po_none.run pins s2 σ G2 (fun o H3 => o = none ∧ H3 = G2) I2 ⟨rfl, rfl⟩) ?_
  rintro vu s3 ⟨u, G3, I3, pu, rfl, rfl⟩
  refine thn (hneg.run pins s3 σ G3 (fun o H4 => o = some (-1) ∧ H4 = G3) I3 ⟨1, rfl, -1, rfl, rfl, rfl⟩) ?_
  rintro vs s4 ⟨o, G4, I4, ps, rfl, rfl⟩
  have I5 : Inv X pins σ G4 { s4 with heap := s4.heap.push { cls := .type "slice", data := .fields #[vl, vu, vs] } } := I4.kept (t' := s4.toks) fun b ob q => Heap.get?_push_of_some _ q
  obtain ⟨l, rfl, el⟩ := IsPart.raw pl
  obtain ⟨u, rfl, eu⟩ := IsPart.raw pu
  obtain ⟨w, rfl, ew⟩ := IsPart.raw ps
  cases l with
  | some _ => cases el
  | none =>
  cases u with
  | some _ => cases eu
  | none =>
  cases w with
  | none => cases ew
  | some w =>
  obtain ⟨wi, wt⟩ := w
  obtain rfl : wi = -1 := Option.some.inj ew
  show wpAny (model X.prog X.w) X.A (subscriptTail e (.Slice none none (some (.UnaryOp .USub (.Constant (.int 1) k p1) p2)) p3) (.str (S z) t) (.ref s4.heap.objs.size)) (EP X pins σ Q) X.xe _
  refine tail_any (ops := [.str (S z) t, .ref s4.heap.objs.size]) (typeIs_str _ _ _) F.slot_str_getitem.lookup ?_ (by with_unfolding_all rfl)
  refine wpAny_getItem_str_slice (l := none) (u := none) (st := some (-1, wt)) ⟨_, Heap.get?_push_size _ rfl, rfl, rfl⟩ rfl ?_
  unfold sliceMade
  show Made.post (if ((-1 : Int) == 1 && (Builtin.Str.strSliceIndices none none (-1) (S z).length).length == (S z).length) = true then Made.val (.str (S z) t)
    else Made.str ⟨((Builtin.Str.strSliceIndices none none (-1) (S z).length).filterMap ((S z).cps[·]?)).toArray⟩) (EP X pins σ Q) _
  rw [if_neg (by simp), strIdx_rev, SX.S_len, pick_rev]
  refine ⟨?_, .str _, G4, I5.tok _, ⟨_, rfl⟩, q⟩
  show (S z.reverse).length ≤ sizeLine
  rw [SX.S_len, List.length_reverse]
  exact sz hz
def rJoin (K : PySem.W.Frag) (x : V) (xs : List V) (H : Hp) (Q : VK) : Prop := ∃ a p, ∃ ys : List Str, x = .str a ∧ xs = [.ref p] ∧ (SqL K H p (ys.map V.str) ∨ SqT K H p (ys.map V.str)) ∧ (ys.map (·.length)).sum + ys.length * a.length ≤ 16777216 ∧ Q (.str (Txt.join a ys)) H
def tJoin (K : PySem.W.Frag) (to te : TE) : TE := tM1 (rJoin K) to te
theorem pe_joinL {apos : Pos} (ho : PE X o to) (he : PE X e te) (hs : starEach [e] X.env = [(false, eval e X.env)] := by rfl) (hbase : attributeBase o "join" X.env (eval o X.env) = eval o X.env := by rfl) (hline : (apos.endLine == pos.line) = true := by rfl) :
    PE X (.Call (.Attribute o "join" apos) [e] [] pos) (tJoin X.K to te) := pe_join ho he hs hbase hline
end

/-! ### steps -/
section
variable {K : PySem.W.Frag} {σ : L2.St} {H F : Hp} {M : Ow} {Q : VK} {g : TG} {tb : TS} {te ta tc td tl to : TE} {tt : TT} {r r' r'' : R2} {N B C : L2.St → Hp → Prop} {R : VK} {vs : List Nat} {p : Addr} {i j : Int} {z y : List Nat}
def nCk (t : V → Hp → VK → Prop) : V → Hp → VK → Prop := t
instance {tb' : TE} : St1 (tChain r r' ta tb' tc σ H Q) (ta σ H fun x H1 => tb' σ H1 fun y H2 => nCh r x y H2 Q fun H3 => tc σ H3 fun w H4 => r' y w H4 Q) := ⟨id⟩
instance {tb' : TE} : St1 (tChain3 r r' r'' ta tb' tc td σ H Q) (ta σ H fun x H1 => tb' σ H1 fun y H2 => nCh r x y H2 Q fun H3 => tc σ H3 fun z H4 => nCh r' y z H4 Q fun H5 => td σ H5 fun w H6 => r'' z w H6 Q) := ⟨id⟩
instance {go : Hp → Prop} : St1 (nCh rLeI (.int i) (.int j) H Q go) (if decide (i ≤ j) = true then go H else Q (.bl false) H) := ⟨fun h => ⟨i, j, rfl, rfl, _, rfl, h⟩⟩
instance {go : Hp → Prop} : St1 (nCh rLtI (.int i) (.int j) H Q go) (if decide (i < j) = true then go H else Q (.bl false) H) := ⟨fun h => ⟨i, j, rfl, rfl, _, rfl, h⟩⟩
instance {go : Hp → Prop} : St1 (nCh rGeI (.int i) (.int j) H Q go) (if decide (j ≤ i) = true then go H else Q (.bl false) H) := ⟨fun h => ⟨i, j, rfl, rfl, _, rfl, h⟩⟩
instance {go : Hp → Prop} : St1 (nCh rGtI (.int i) (.int j) H Q go) (if decide (j < i) = true then go H else Q (.bl false) H) := ⟨fun h => ⟨i, j, rfl, rfl, _, rfl, h⟩⟩
instance {c : Nat} : St1 (rInSign (.str ⟨#[c]⟩) (.str (S z)) H Q) (Q (.bl (decide (c ∈ z))) H) := ⟨fun h => ⟨c, S z, rfl, rfl, h⟩⟩
theorem nAddS (hl : y.length + z.length ≤ 16777216) (h : Q (.str (S (y ++ z))) H) : rAddS (.str (S y)) (.str (S z)) H Q := ⟨S y, S z, rfl, rfl, by rw [SX.S_len, SX.S_len]; exact sz hl, by rw [SX.S_cat]; exact h⟩
theorem nRepS {k : Int} (h1 : -9223372036854775808 ≤ k) (h2 : k < 9223372036854775808) (h3 : z.length * k.toNat ≤ 16777216) (h : Q (.str (S (List.replicate k.toNat z).flatten)) H) : rRepS (.str (S z)) (.int k) H Q := ⟨z, k, rfl, rfl, h1, h2, h3, h⟩
def nRevS (x : V) (H : Hp) (Q : VK) : Prop := ∃ z : List Nat, x = .str (S z) ∧ z.length ≤ 16777216 ∧ Q (.str (S z.reverse)) H
instance : St1 (tRevS K te σ H Q) (te σ H fun x H1 => nRevS x H1 Q) := ⟨id⟩
theorem nRevS_mk (hl : z.length ≤ 16777216) (h : Q (.str (S z.reverse)) H) : nRevS (.str (S z)) H Q := ⟨z, rfl, hl, h⟩
def nStr (x : V) (q : Prop) : Prop := (∃ a, x = .str a) ∧ q
instance {a : Str} {q : Prop} : St1 (nStr (.str a) q) q := ⟨fun h => ⟨⟨a, rfl⟩, h⟩⟩
instance : St1 (tJoin K to te σ H Q) (to σ H fun x H1 => nStr x (te σ H1 fun y H2 => rJoin K x [y] H2 Q)) := ⟨id⟩
theorem joinL_nil : ∀ ys : List (List Nat), TL.joinL [] ys = ys.flatten
  | [] => rfl
  | [y] => by show y = _; simp
  | y :: w :: ys => by
    have := joinL_nil (w :: ys)
    show y ++ ([] ++ TL.joinL [] (w :: ys)) = _
    rw [this]; simp
theorem nJoin_of {ys : List (List Nat)} (hx : SqL K H p ((ys.map S).map V.str) ∨ SqT K H p ((ys.map S).map V.str)) (hl : ys.flatten.length ≤ 16777216) (h : Q (.str (S ys.flatten)) H) : rJoin K (.str (S [])) [.ref p] H Q := by
  refine ⟨S [], p, ys.map S, rfl, rfl, hx, ?_, ?_⟩
  · rw [SX.lens, SX.S_len, List.length_nil, Nat.mul_zero, Nat.add_zero, ← List.length_flatten]; exact hl
  · rw [SX.join_S, joinL_nil]; exact h
theorem nJoinO {ys : List (List Nat)} {xs : List V} [hs : Hs F M H] [hm : Im M p (.lst xs)] (e : xs = ys.map fun y => V.str (S y)) (hl : ys.flatten.length ≤ 16777216) (h : Q (.str (S ys.flatten)) H) : rJoin K (.str (S [])) [.ref p] H Q :=
  nJoin_of (.inl (by rw [List.map_map, show (V.str ∘ S) = fun y => V.str (S y) from rfl, ← e]; exact SqL.of (hs.im hm))) hl h
-- parts of a text
def nSlS (x : V) (l u : Option Int) (H : Hp) (Q : VK) : Prop := rSlS x l u H Q
theorem cutS_nat {a b : Nat} : cutS (S z) (some (a : Int)) (some (b : Int)) = S ((z.take b).drop a) := by
  unfold cutS
  rw [SX.S_len, HT.sIx_nat, HT.sIx_nat]
  show (⟨((z.drop (min a z.length)).take (min b z.length - min a z.length)).toArray⟩ : Str) = S _
  have key : (z.drop (min a z.length)).take (min b z.length - min a z.length) = (z.take b).drop a := by
    rw [List.drop_take]
    apply List.ext_getElem?
    intro i
    rw [List.getElem?_take, List.getElem?_take, List.getElem?_drop, List.getElem?_drop]
    by_cases ha : a ≤ z.length
    · rw [Nat.min_eq_left ha]
      by_cases hi : i < min b z.length - a
      · rw [if_pos hi, if_pos (by omega)]
      · rw [if_neg hi]
        split
        · rw [List.getElem?_eq_none (by omega)]
        · rfl
    · rw [if_neg (by omega)]
      split
      · rw [List.getElem?_eq_none (by omega)]
      · rfl
  rw [key]
theorem cutS_to {b : Nat} : cutS (S z) none (some (b : Int)) = S (z.take b) := by
  have := cutS_nat (z := z) (a := 0) (b := b)
  rw [List.drop_zero] at this
  rw [← this]
  unfold cutS
  rw [HT.sIx_none, HT.sIx_nat, HT.sIx_nat, Nat.zero_min]
theorem cutS_from {a : Nat} : cutS (S z) (some (a : Int)) none = S (z.drop a) := by
  have := cutS_nat (z := z) (a := a) (b := z.length)
  rw [List.take_length] at this
  rw [← this]
  unfold cutS
  rw [HT.sIx_none, HT.sIx_nat, HT.sIx_nat, SX.S_len, Nat.min_self]
theorem nCutS {l u : Option Int} {w : List Nat} (hl : z.length ≤ 16777216) (e : cutS (S z) l u = S w) (h : Q (.str (S w)) H) : rSlS (.str (S z)) l u H Q := ⟨S z, rfl, by rw [SX.S_len]; exact sz hl, by rw [e]; exact h⟩
theorem nLnT (hl : z.length ≤ 16777216) (h : Q (.int (z.length : Int)) H) : rLn K [.str (S z)] H Q := nLnS (z := S z) (by rw [SX.S_len]; exact hl) (by rw [SX.S_len]; exact h)
theorem nIxTx {c n : Nat} (hl : z.length ≤ 16777216) (ha : z[n]? = some c) (h : Q (.str (S [c])) H) : rIx K (.str (S z)) (.int (n : Int)) H Q := nIxS (z := S z) (by rw [SX.S_len]; exact hl) (atI_nat ha) h
theorem nTruS {q : Bool → Prop} (hl : z.length ≤ 16777216) (h : q (!z.isEmpty)) : nTru K (.str (S z)) H q := ⟨!z.isEmpty, ⟨by rw [SX.S_len]; exact sz hl, by rw [SX.S_len]; cases z with
  | nil => rfl
  | cons a b => exact (bne_iff_ne.mpr (by rw [List.length_cons]; omega)).symm⟩, h⟩
-- walks over a text
def nSeqS (x : V) (H1 : Hp) (q : It → Hp → Prop) : Prop := ∃ z, x = .str z ∧ q (Its z) H1
instance : St1 (tFor (iStr te) g tb (En N R B C) σ H) (te σ H fun x H1 => nSeqS x H1 fun J H1 => nLoop g tb N R σ J H1) := ⟨id⟩
instance {te' : TE} : St1 (tLc (iStr tl) g tt te' vs σ H Q) (tl σ H fun x H1 => nSeqS x H1 fun J H1 => nComp g tt te' vs σ Q J H1) := ⟨id⟩
theorem sign_of {i c : Nat} (h : (S z).cps[i]? = some c) : z[i]? = some c := by simpa using h
theorem nCompS {σw : L2.St} {te' : TE} (I : Nat → Cv) [hs : Hs F M H] [hw : Wp σ vs σw] (h0 : I 0 [] F M)
    (step : ∀ i c acc D F' M' H', z[i]? = some c → Sm F F' → Hs F' ((D, HO.lst acc) :: M') H' → I i acc F' M' → CvT g tt te' vs σw F D (I (i + 1)) (.str (S [c])) H')
    (done : ∀ D acc F' M' H', F D = none → Sm F F' → Hs F' ((D, HO.lst acc) :: M') H' → I z.length acc F' M' → Q (.ref D) H') : nSeqS (.str (S z)) H fun J H1 => nComp g tt te' vs σ Q J H1 := by
  refine ⟨S z, rfl, fun D hD => ?_⟩
  have e : (S z).cps.size = z.length := by simp
  refine lc_it (walk_str (z := S z)) (fun i => CvH F D (I i)) ⟨F, M, [], Same.refl F, hs.new hD, h0⟩ (fun _ _ _ _ => trivial) ?_ ?_
  · rintro i x H1 H' hi ⟨F', M', acc, e', hs', p⟩ ⟨rfl, c, hc, rfl⟩
    have := step i c acc D F' M' _ (sign_of hc) ⟨e'⟩ hs' p
    rw [← hw.h] at this; exact this
  · rintro H' ⟨F', M', acc, e', hs', p⟩
    rw [e] at p
    exact done D acc F' M' H' (hs.free hD) ⟨e'⟩ hs' p
theorem nLoopS (I : Nat → Iv) [hs : Hs F M H] (h0 : I 0 σ F M)
    (step : ∀ i c σ' F' M' H', z[i]? = some c → Sm F F' → Hs F' M' H' → I i σ' F' M' → g (.str (S [c])) σ' H' fun σ2 H2 => tb (En (IvH F (I (i + 1))) R N (IvH F (I (i + 1)))) σ2 H2)
    (done : ∀ σ' F' M' H', Sm F F' → Hs F' M' H' → I z.length σ' F' M' → N σ' H') : nSeqS (.str (S z)) H fun J H1 => nLoop g tb N R σ J H1 := by
  refine ⟨S z, rfl, ?_⟩
  have e : (S z).cps.size = z.length := by simp
  refine for_it (D := En N R N N) (walk_str (z := S z)) (fun i => IvH F (I i)) ⟨F, M, Same.refl F, hs, h0⟩ (fun _ _ _ _ _ => trivial) ?_ ?_
  · rintro i x σ' H1 H' hi ⟨F', M', e', hs', p⟩ ⟨rfl, c, hc, rfl⟩
    exact step i c σ' F' M' _ (sign_of hc) ⟨e'⟩ hs' p
  · rintro σ' H' ⟨F', M', e', hs', p⟩
    rw [e] at p
    exact done σ' F' M' H' ⟨e'⟩ hs' p
end
end Sh


set_option Elab.async false
set_option linter.all false
set_option maxRecDepth 100000
set_option maxHeartbeats 4000000
/-! # Errors of the program: raised, passed on, caught, asked; what never happens -/
namespace Sh
open PySem PySem.Spec PyProof.Rows L2
open SX (S)

/-! ### what is never reached -/
def tDead : TS := fun _ _ _ => False
theorem ps_dead {X : Cx} {s : Stmt} : PS X s tDead := by
  constructor
  intro _ _ _ _ _ _ h
  exact h.elim
/-! ### calls that may raise -/
theorem passNo {P : Program} {w : World} {X : Cx} (σ : L2.St) : PassesAt (L2.CX P w) X σ (fun _ _ _ => False) := by
  intro _ _ _ _ _ _ h
  obtain ⟨_, _, _, _, _, _, _, _, _, _, _, _, h⟩ := h
  exact h.elim
section
variable {X : Cx} {CX : CXT} {k : Nat} {ps : List Str} {sp : Sp} {E : L2.St → XK} {x m C : Str} {p pos apos : Pos} {e o : Expr} {es : List Expr} {ta : TE} {t : TA}
theorem noVals {ds : List Value} (h : Vals ([] : List V) ds) : ds = [] := by cases h; rfl
theorem pe_fnE (G : Fn X.prog X.w X.K X.mg X.base CX x k ps [] sp) (hr : Room k X.A) (hx : ∀ σ, PassesAt CX X σ (E σ)) (ha : PA X (e :: es) t) (hg : Gl X x := by rfl) (hdb : (x == ("__debug__" : Str)) = false := by decide)
    (he : starEach (e :: es) X.env = (false, eval e X.env) :: starEach es X.env := by rfl) (hpl : (backTo pos (starEach es X.env)).any (·.1) = false := by rfl) : PE X (.Call (.Name x p) (e :: es) [] pos) (tCallS sp E t) := by
  obtain ⟨fd, ds, F, b, v⟩ := G.fn
  cases noVals v
  exact pe_callS F hr hg G.gl G.kp b hx ha hdb he hpl
/-- a method's call that may raise -/
def tMethE (C : Addr) (m : Str) (sp : Sp) (E : L2.St → XK) (ta : TE) (t : TA) : TE := fun σ H Q => ta σ H fun x H1 => nMeth C m x H1 (t σ H1 fun vs H2 => sp (x :: vs) H2 Q (E σ))
theorem pe_meE {pl : Sem Bool} (G : Me X.prog X.w X.K X.mg X.base CX C m k ps [] sp) (ho : PE X o ta) (hr : Room k X.A) (hx : ∀ σ, PassesAt CX X σ (E σ)) (ha : PA X (e :: es) t)
    (hst : starEach (e :: es) X.env = (false, eval e X.env) :: starEach es X.env := by rfl) (hpl : (backTo pos (starEach es X.env)).any (·.1) = false := by rfl)
    (ht : eval (.Call (.Attribute o m apos) (e :: es) [] pos) X.env = (do
      let ov ← eval o X.env
      standAt apos.atName
      let (f, first) ← holding [ov] (getMethod ov m pl)
      callWith pos f first (backTo pos (starEach (e :: es) X.env)) (backToKw pos (keywordEach [] X.env))) := by rfl) :
    PE X (.Call (.Attribute o m apos) (e :: es) [] pos) (tMethE (He.ga X.K C) m sp E ta t) := by
  obtain ⟨fd, ds, F, b, v⟩ := G.fn
  cases noVals v
  constructor
  intro pins s σ H Q I h
  refine PySem.W.methodCall_KW (thn (ho.run pins s σ H _ I h) ?_) ht
  rintro u s1 ⟨x1, G1, I1, e1, a, dx, fs, rfl, ea, hl, q⟩
  cases e1
  refine getmeth_ok I1 ea G.cl G.mt hl (PySem.W.callWith_K I1.ok.mod.kin G.mt.kp (thn (ha.run pos pins s1 σ G1 _ I1 q) ?_) hst hpl)
  rintro us s2 ⟨vs, G2, I2, r2, q2⟩
  exact ⟨I2.kIn, run_fnS F hr b (hx σ) I2 (vs := V.ref a :: vs) (.cons rfl r2) q2⟩
/-- a new instance whose __init__ may raise -/
def tMakeE (C : Addr) (sp : Sp) (E : L2.St → XK) (t : TA) : TE := fun σ H Q => t σ H fun vs H1 => nMake C sp (E σ) vs H1 Q
theorem pe_mkrE (G : Mkr X.prog X.w X.K X.mg X.base CX C k ps [] sp) (hr : Room (k + 1) X.A) (hx : ∀ σ, PassesAt CX X σ (E σ)) (ha : PA X (e :: es) t) (hg : Gl X C := by rfl) (hdb : (C == ("__debug__" : Str)) = false := by decide)
    (he : starEach (e :: es) X.env = (false, eval e X.env) :: starEach es X.env := by rfl) (hpl : (backTo pos (starEach es X.env)).any (·.1) = false := by rfl) : PE X (.Call (.Name C p) (e :: es) [] pos) (tMakeE (He.ga X.K C) sp E t) := by
  obtain ⟨fd, ds, F, b, v⟩ := G.fn
  cases noVals v
  constructor
  intro pins s σ H Q I h
  refine wpAny_Call_Name_kw (ld_glob I hg G.gl ?_ hdb)
  refine PySem.W.callWith_K (h₀ := X.base) I.ok.mod.kin G.mkk.kp (thn (ha.run pos pins s σ H _ I h) ?_) he hpl
  rintro us s1 ⟨vs, G1, I1, rv, q⟩
  refine ⟨I1.kIn, ?_⟩
  have h2 := q (s1.heap.objs.size + 1) s1.heap.objs.size (I1.hok.fresh (Nat.le_succ _)) (I1.hok.fresh (Nat.le_refl _)) (Nat.ne_of_lt (Nat.lt_succ_self _))
  have J := Inv.made (C := He.ga X.K C) I1
  have rr : Vals (V.ref (s1.heap.objs.size + 1) :: vs) (Value.ref (s1.heap.objs.size + 1) :: us) := .cons rfl rv
  have bb := b _ (Value.ref (s1.heap.objs.size + 1) :: us) J.kIn (by
    rw [List.append_nil, ← rr.length]
    exact F.len _ _ _ _ h2)
  rw [List.append_nil] at bb
  have go := F.run _ X.stack _ _ ⟨Value.ref (s1.heap.objs.size + 1) :: us, []⟩ _ _ _ (E σ) (hr.make (He.ga X.K C) us []) (J.env0.make (He.ga X.K C) us []) bb rr h2
  refine wpAny_call (make_map I1.kIn G.mkk.makes G.mkk.init (beq_iff_eq.mp G.mkk.fn) (codeAny_mono go ?_))
  intro r s2 hr2
  match r, hr2 with
  | .error er, hr2 => exact hx σ pins _ _ er s2 J hr2
  | .ok (.ret u), hr2 =>
    obtain ⟨v, G3, J3, r3, rfl, q3⟩ := J.after hr2
    exact ⟨r3, .ref (s1.heap.objs.size + 1), G3, J3, rfl, q3⟩
  | .ok .next, hr2 => exact hr2.elim
  | .ok .brk, hr2 => exact hr2.elim
  | .ok .cont, hr2 => exact hr2.elim
end

/-! ### a class of errors, with fields that its __init__ keeps -/
def oexB (K : PySem.W.Frag) (C : Addr) : Bool := match K.lookup C with
  | some ⟨oc, _, .cls cd, sl⟩ => decide (oc = .type "type") && (match cd.mro, sl.toList with
    | .ref c :: bm, [_, _, _, _, some (.builtin n), _] => decide (c = C) && (HandSPX.refsVE bm && (cd.hasDict && (!cd.hasDel && decide (n = "ValueError.__new__"))))
    | _, _ => false)
  | _ => false
theorem oexB_ok {K : PySem.W.Frag} {C : Addr} (h : oexB K C = true) : ∃ nm q N bs bm sn sub ab col dd k0 k1 k2 k3 k5, K.lookup C = some (excClassObj nm q C N bs bm true sn sub ab col dd k0 k1 k2 k3 k5 "ValueError.__new__") ∧ HandSPX.refsVE bm = true := by
  unfold oexB at h
  split at h
  · rename_i oc dd cd sl ho
    rw [Bool.and_eq_true] at h
    obtain ⟨h1, h2⟩ := h
    have e1 : oc = .type "type" := of_decide_eq_true h1
    subst e1
    split at h2
    · rename_i c bm k0 k1 k2 k3 n k5 hm hsl
      simp only [Bool.and_eq_true, Bool.not_eq_true', decide_eq_true_eq] at h2
      obtain ⟨rfl, h3, h4, h5, rfl⟩ := h2
      obtain ⟨f1, f2, f3, f4, f5, f6, f7, f8, f9, f10, f11⟩ := cd
      dsimp only at hm h4 h5
      subst hm h4 h5
      obtain ⟨l⟩ := sl
      dsimp only at hsl
      subst hsl
      exact ⟨_, _, _, _, _, _, _, _, _, _, _, _, _, _, _, ho, h3⟩
    · cases h2
  · cases h
/-- .. its facts: fields ns; what isinstance says of HeldError-like classes is asked apart -/
def exB (C : Str) (ns : List Str) (K : PySem.W.Frag) : Bool :=
  oexB K (He.ga K C) && (He.eqO (PySem.W.findIn K (.ref (He.ga K C)) "__setattr__") (some (some (.builtin "object.__setattr__"))) && (xfB K (He.ga K C) && (decide (PySem.W.typeIn K (.ref (He.ga K C)) = some (.type "type")) && (PySem.W.keepIn K (.ref (He.ga K C)) &&
  (ns.all fun f => He.eqO (PySem.W.findIn K (.ref (He.ga K C)) f) (some none))))))
/-- a class of errors with an __init__ of its own -/
structure Exk (K : PySem.W.Frag) (C : Str) (ns : List Str) : Prop where
  ox : OexC K (He.ga K C)
  xf : XfC K (He.ga K C)
  no : ∀ f ∈ ns, PySem.W.findIn K (.ref (He.ga K C)) f = some none
theorem exB_ok {K : PySem.W.Frag} {C : Str} {ns : List Str} (h : exB C ns K = true) : Exk K C ns := by
  obtain ⟨h1, h⟩ := He.ba h
  obtain ⟨h2, h⟩ := He.ba h
  obtain ⟨h3, h⟩ := He.ba h
  obtain ⟨h4, h⟩ := He.ba h
  obtain ⟨h5, h6⟩ := He.ba h
  have x := xfB_ok h3
  exact ⟨⟨oexB_ok h1, He.eqO_ok h2, x.exC, of_decide_eq_true h4, h5⟩, x, fun f hf => He.eqO_ok (List.all_eq_true.mp h6 f hf)⟩
def exiB (C : Str) (K : PySem.W.Frag) : Bool := He.eqO (PySem.W.findIn K (.ref (He.ga K C)) "__init__") (some (some (.ref (He.ma K (He.ga K C) "__init__")))) && decide (PySem.W.typeIn K (.ref (He.ma K (He.ga K C) "__init__")) = some (.type "function"))
structure Exi (P : Program) (w : World) (K : PySem.W.Frag) (mg : Str → Option Value) (base : Heap) (CX : CXT) (C : Str) (k : Nat) (ps : List Str) (dvs : List V) (sp : Sp) : Prop where
  ox : OexC K (He.ga K C)
  fn : ∃ fd ds, FnOk P w K mg base CX k (He.ma K (He.ga K C) "__init__") fd ps sp ∧ Binds K fd ps ds ∧ Vals dvs ds
  ic : PySem.W.findIn K (.ref (He.ga K C)) "__init__" = some (some (.ref (He.ma K (He.ga K C) "__init__")))
  ti : PySem.W.typeIn K (.ref (He.ma K (He.ga K C) "__init__")) = some (.type "function")
  gl : mg C = some (.ref (He.ga K C))
theorem exiB_ok {C : Str} {K : PySem.W.Frag} (h : exiB C K = true) : PySem.W.findIn K (.ref (He.ga K C)) "__init__" = some (some (.ref (He.ma K (He.ga K C) "__init__"))) ∧ PySem.W.typeIn K (.ref (He.ma K (He.ga K C) "__init__")) = some (.type "function") := by
  obtain ⟨h1, h2⟩ := He.ba h
  exact ⟨He.eqO_ok h1, of_decide_eq_true h2⟩
/-! __init__: one field, two fields -/
def sp_exi1 (K : PySem.W.Frag) (C : Addr) (f : Str) : Sp := fun vs H Q _ => ∃ (a : Addr) (y : V), vs = [.ref a, y] ∧ OexC K C ∧ PySem.W.findIn K (.ref C) f = some none ∧ H a = some (exo a C none) ∧
  ∀ dx, H dx = none → dx ≠ a → Q .non (upd (upd H dx (exd dx [(f, y)])) a (exo a C (some dx)))
def sp_exi2 (K : PySem.W.Frag) (C : Addr) (f g : Str) : Sp := fun vs H Q _ => ∃ (a : Addr) (y z : V), vs = [.ref a, y, z] ∧ OexC K C ∧ PySem.W.findIn K (.ref C) f = some none ∧ PySem.W.findIn K (.ref C) g = some none ∧ H a = some (exo a C none) ∧
  ∀ dx, H dx = none → dx ≠ a → Q .non (upd (upd (upd H dx (exd dx [(f, y)])) a (exo a C (some dx))) dx (exd dx [(g, z), (f, y)]))
section
variable {K : PySem.W.Frag} {C : Addr} {f g : Str}
theorem pure_exi1 {n1 n2 : Str} (vs : List V) (H : Hp) (Q : VK) (E : XK) (h : sp_exi1 K C f vs H Q E) : tOst K f (tVar 0) (tVar 1) { nx := fun _ H' => Q .non H', rt := Q } (start [n1, n2] vs) H := by
  obtain ⟨a, y, rfl, hc, hf, ha, k⟩ := h
  exact ⟨_, rfl, _, rfl, a, C, rfl, hc, hf, .inl ⟨ha, k⟩⟩
theorem pure_exi2 {n1 n2 n3 : Str} (vs : List V) (H : Hp) (Q : VK) (E : XK) (h : sp_exi2 K C f g vs H Q E) : tSeq (tOst K f (tVar 0) (tVar 1)) (tOst K g (tVar 0) (tVar 2)) { nx := fun _ H' => Q .non H', rt := Q } (start [n1, n2, n3] vs) H := by
  obtain ⟨a, y, z, rfl, hc, hf, hg, ha, k⟩ := h
  refine ⟨_, rfl, _, rfl, a, C, rfl, hc, hf, .inl ⟨ha, fun dx h1 h2 => ?_⟩⟩
  refine ⟨_, rfl, _, rfl, a, C, rfl, hc, hg, .inr ⟨dx, [(f, y)], upd_same, ?_, by simp, k dx h1 h2⟩⟩
  rw [upd_ne h2]; exact upd_same
end
/-! ### raise C(e, ..) -/
def tRaiseO (C : Addr) (sp : Sp) (E : XK) (ta : TA) : TS := fun _ σ H => tMkO C sp [] ta σ H fun cls d H' => E cls d H'
section
variable {X : Cx} {CX : CXT} {k : Nat} {ps : List Str} {sp : Sp} {E : XK} {C : Str} {p pos pos2 : Pos} {e : Expr} {es : List Expr} {ta : TA}
theorem ps_raiseO (G : Exi X.prog X.w X.K X.mg X.base CX0 C k ps [] sp) (hr : Room (k + 1) X.A) (tk : Takes X fun cls d _ H => E cls d H) (ha : PA X (e :: es) ta) (hc : X.calm = true := by rfl) (hg : Gl X C := by rfl) (hdb : (C == ("__debug__" : Str)) = false := by decide)
    (he : starEach (e :: es) X.env = (false, eval e X.env) :: starEach es X.env := by rfl) (hpl : (backTo pos (starEach es X.env)).any (·.1) = false := by rfl) : PS X (.Raise (some (.Call (.Name C p) (e :: es) [] pos)) none pos2) (tRaiseO (He.ga X.K C) sp E ta) := by
  obtain ⟨fd, ds, F, b, v⟩ := G.fn
  exact ps_raise hc tk (pmk_oex G.ox G.ic G.ti F hr b v pass0 hg G.gl ha hdb he hpl)
end
/-- raise C(), C a class of errors without an __init__ of its own -/
def tRaiseC (C : Addr) (E : XK) : TS := fun _ _ H => E (.ref C) none H
structure Exo (K : PySem.W.Frag) (mg : Str → Option Value) (C : Str) : Prop where
  q : PySem.W.excIn K (He.ga K C) He.veBase "ValueError.__new__" = true
  kp : PySem.W.keepIn K (.ref (He.ga K C)) = true
  sb : PySem.W.subIn K (.ref (He.ga K C)) (.type "BaseException") = some true
  ty : PySem.W.typeIn K (.ref (He.ga K C)) = some (.type "type")
  gl : mg C = some (.ref (He.ga K C))
section
variable {X : Cx} {E : XK} {C : Str} {p pos pos2 : Pos}
theorem pmk_own0 (G : Exo X.K X.mg C) (hg : Gl X C) (hdb : (C == ("__debug__" : Str)) = false) : PMk X (.Call (.Name C p) [] [] pos) (fun _ H Q => Q (.ref (He.ga X.K C)) none H) := by
  intro pins s σ H Q I h
  refine wpAny_Call_Name_kw (ld_glob I hg G.gl ?_ hdb)
  refine PySem.W.callWith_K0 I.kIn G.kp ?_
  obtain ⟨bm, N, nm, qn, bs, hdct, sn, sub, ab, col, dd, k0, k1, k2, k3, k5, mN, hC, hN, hni, T⟩ := exc_obj I.kIn G.q
  refine wpAny_call_exc_subT F.excBase_ValueError T hC hN hni (fun h' e hm => ?_) (Nat.zero_le _)
  exact mk_of I hm (raises_own G.sb G.ty) h (I.hok.gone hm.new)
theorem ps_raiseC (G : Exo X.K X.mg C) (tk : Takes X fun cls d _ H => E cls d H) (hc : X.calm = true := by rfl) (hg : Gl X C := by rfl) (hdb : (C == ("__debug__" : Str)) = false := by decide) : PS X (.Raise (some (.Call (.Name C p) [] [] pos)) none pos2) (tRaiseC (He.ga X.K C) E) :=
  ps_raise hc tk (pmk_own0 G hg hdb)
end
/-! ### caught -/
section
variable {X : Cx} {a : Addr} {oe : Obj} {cls : Value} {d : Option Addr} {pn : List (Addr × Obj)}
/-- isinstance(e, c), e the error that the suite holds, of the class D, with fields -/
def rIsX (K : PySem.W.Frag) (D : Addr) (a : Addr) (cls : Value) (d : Option Addr) : List V → Hp → VK → Prop := fun xs H Q => cls = .ref D ∧ ∃ (dd : Addr) (fs : List (Str × V)) (c : V) (cv : Value) (b : Bool), d = some dd ∧ H dd = some (.xd fs) ∧ xs = [.ref a, c] ∧
  (∀ u, RelV c u → u = cv) ∧ PySem.W.kitOne K (.ref D) cv = some b ∧ Q (.bl b) H
theorem call_isX {D : Addr} (C : ExcC X.K D) (hz : Zc cls d oe) (hf : ∃ vs, oe.data = .fields vs) : CallR (X.suite a ((a, oe) :: pn)) (.builtin "isinstance") (rIsX X.K D a cls d) := by
  intro pins s σ H xs us Q I r h
  obtain ⟨rfl, dd, fs, c, cv, b, rfl, hd, rfl, hcv, hk, q⟩ := h
  obtain ⟨u1, u2, rfl, r1, r2⟩ := vals2 r
  cases r1
  cases hcv _ r2
  obtain ⟨hget, -⟩ := I.pin (a, oe) (List.mem_append.mpr (.inl List.mem_cons_self))
  obtain ⟨vs, hv⟩ := hf
  obtain ⟨mA, hns, -⟩ := (show ObjOk X.prog X.w H s.heap dd (.xd fs) from I.hok dd _ hd)
  obtain ⟨od, ho, -⟩ := lookIn_ns hns
  have J : PySem.W.InstAt s.heap a oe D (some od) := ⟨hget, hz.1, by unfold PySem.W.notCls; rw [hv] <;> rfl, by rw [hz.2]; exact ho⟩
  have hcl : (PySem.W.clsIn X.K D).isSome = true := by
    obtain ⟨cd, hc, -⟩ := PySem.W.any_some C.hd
    rw [hc] <;> rfl
  exact PySem.W.kia_one (PySem.W.kitx_exc hcl C.hg C.hk C.hs C.ha C.hn C.ht C.hm) I.kIn J hk (fun z => nomatch z) fun tk => ⟨.bl b, H, I.kept (t' := tk) fun _ _ z => z, rfl, q⟩
end
def excB (K : PySem.W.Frag) (D : Addr) : Bool := He.eqO (PySem.W.findIn K (.ref D) "__class__") (some (some (.builtin "object.__class__"))) &&
  (He.eqO (PySem.W.specialIn K (.builtin "object.__class__") "__get__") (some (some (.builtin "getset_descriptor.__get__"))) && (decide (PySem.W.takesIn K (.builtin "object.__class__") = some true) && decide (PySem.W.mroIn K D (.type "object") = some true)))
/-- what a clause asks of the class C: it is caught as itself; isinstance of the classes cs, of built-in ones ts -/
def cauB (C : Str) (cs : List Str) (ts : List String) (K : PySem.W.Frag) : Bool := decide (PySem.W.exmOne K (.ref (He.ga K C)) (.ref (He.ga K C)) = some true) && (excB K (He.ga K C) && ((cs.all fun c => decide (PySem.W.kitOne K (.ref (He.ga K C)) (.ref (He.ga K c)) = some true)) &&
  ts.all fun t => decide (PySem.W.kitOne K (.ref (He.ga K C)) (.type t) = some true)))
structure Cau (K : PySem.W.Frag) (C : Str) (cs : List Str) (ts : List String) : Prop where
  xm : PySem.W.exmOne K (.ref (He.ga K C)) (.ref (He.ga K C)) = some true
  xc : ExcC K (He.ga K C)
  cs : ∀ c ∈ cs, PySem.W.kitOne K (.ref (He.ga K C)) (.ref (He.ga K c)) = some true
  ts : ∀ t ∈ ts, PySem.W.kitOne K (.ref (He.ga K C)) (.type t) = some true
theorem cauB_ok {K : PySem.W.Frag} {C : Str} {ns cs : List Str} {ts : List String} (x : Exk K C ns) (h : cauB C cs ts K = true) : Cau K C cs ts := by
  obtain ⟨h1, h⟩ := He.ba h
  obtain ⟨h2, h⟩ := He.ba h
  obtain ⟨h3, h4⟩ := He.ba h
  obtain ⟨z1, z⟩ := He.ba h2
  obtain ⟨z2, z⟩ := He.ba z
  obtain ⟨z3, z4⟩ := He.ba z
  exact ⟨of_decide_eq_true h1, ⟨x.xf.ga, x.xf.gg, x.xf.exC, x.xf.hdC, He.eqO_ok z1, He.eqO_ok z2, of_decide_eq_true z3, of_decide_eq_true z4⟩, fun c hc => of_decide_eq_true (List.all_eq_true.mp h3 c hc), fun t ht => of_decide_eq_true (List.all_eq_true.mp h4 t ht)⟩

/-! ### steps -/
section
variable {K : PySem.W.Frag} {σ σ' : L2.St} {H F : Hp} {M : Ow} {Q : VK} {ta te : TE} {tr : TA} {N B C' : L2.St → Hp → Prop} {R : VK} {sp : Sp} {E : L2.St → XK} {E1 : XK} {C : Addr} {m f g : Str} {y z : V}
instance : St1 (tCallS sp E tr σ H Q) (tr σ H fun vs H1 => sp vs H1 Q (E σ)) := ⟨id⟩
instance : St1 (tMethE C m sp E ta tr σ H Q) (ta σ H fun x H1 => nMeth C m x H1 (tr σ H1 fun vs H2 => sp (x :: vs) H2 Q (E σ))) := ⟨id⟩
instance : St1 (tMakeE C sp E tr σ H Q) (tr σ H fun vs H1 => nMake C sp (E σ) vs H1 Q) := ⟨id⟩
instance {D : Ends} : St1 (tRaiseC C E1 D σ H) (E1 (.ref C) none H) := ⟨id⟩
def nRai (C : Addr) (sp : Sp) (E : XK) (vs : List V) (H1 : Hp) : Prop := vs.length ≤ 1000 ∧ ∀ a, H1 a = none → sp (.ref a :: (vs ++ [])) (upd H1 a (exo a C none))
  (fun v H2 => v = .non ∧ ∃ (d : Addr) (fs : List (Str × V)), H2 a = some (exo a C (some d)) ∧ H2 d = some (exd d fs) ∧ H1 d = none ∧ E (.ref C) (some d) (upd (del H2 a) d (.xd fs))) (fun _ _ _ => False)
instance : St1 (tRaiseO C sp E1 tr (En N R B C') σ H) (tr σ H fun vs H1 => nRai C sp E1 vs H1) := ⟨id⟩
theorem del_two {H : Hp} {a dx : Addr} {o1 o2 o3 : HO} (ha : H a = none) (hd : dx ≠ a) : upd (del (upd (upd H dx o1) a o2) a) dx o3 = upd H dx o3 := by
  funext b
  by_cases h : b = dx
  · rw [h, upd_same, upd_same]
  · rw [upd_ne h, upd_ne h]
    by_cases h2 : b = a
    · rw [h2, del_same, ha]
    · rw [del_ne h2, upd_ne h2, upd_ne h]
theorem del_three {H : Hp} {a dx : Addr} {o1 o2 o3 o4 : HO} (ha : H a = none) (hd : dx ≠ a) : upd (del (upd (upd (upd H dx o1) a o2) dx o4) a) dx o3 = upd H dx o3 := by
  funext b
  by_cases h : b = dx
  · rw [h, upd_same, upd_same]
  · rw [upd_ne h, upd_ne h]
    by_cases h2 : b = a
    · rw [h2, del_same, ha]
    · rw [del_ne h2, upd_ne h, upd_ne h2, upd_ne h]
theorem nRai1 {Cn : Str} {ns : List Str} (xk : Exk K Cn ns) (hf : f ∈ ns) [hs : Hs F M H] (h : ∀ d F' H', F d = none → Sm F F' → Hs F' M H' → Fz F' d (.xd [(f, y)]) → E1 (.ref (He.ga K Cn)) (some d) H') : nRai (He.ga K Cn) (sp_exi1 K (He.ga K Cn) f) E1 [y] H := by
  refine ⟨by simp, fun a ha => ⟨a, y, rfl, xk.ox, xk.no f hf, upd_same, fun dx h1 h2 => ⟨rfl, dx, [(f, y)], upd_same, ?_, ?_, ?_⟩⟩⟩
  · rw [upd_ne h2]; exact upd_same
  · rw [upd_ne h2] at h1; exact h1
  · rw [upd_ne h2] at h1
    have e : upd (del (upd (upd (upd H a (exo a (He.ga K Cn) none)) dx (exd dx [(f, y)])) a (exo a (He.ga K Cn) (some dx))) a) dx (.xd [(f, y)]) = upd H dx (.xd [(f, y)]) := by
      funext b
      by_cases h : b = dx
      · rw [h, upd_same, upd_same]
      · rw [upd_ne h, upd_ne h]
        by_cases h3 : b = a
        · rw [h3, del_same, ha]
        · rw [del_ne h3, upd_ne h3, upd_ne h, upd_ne h3]
    rw [e]
    exact h dx _ _ (hs.free h1) ⟨same_upd (hs.free h1)⟩ (hs.newF h1) ⟨upd_same⟩
theorem nRai2 {Cn : Str} {ns : List Str} (xk : Exk K Cn ns) (hf : f ∈ ns) (hg : g ∈ ns) [hs : Hs F M H] (h : ∀ d F' H', F d = none → Sm F F' → Hs F' M H' → Fz F' d (.xd [(g, z), (f, y)]) → E1 (.ref (He.ga K Cn)) (some d) H') : nRai (He.ga K Cn) (sp_exi2 K (He.ga K Cn) f g) E1 [y, z] H := by
  refine ⟨by simp, fun a ha => ⟨a, y, z, rfl, xk.ox, xk.no f hf, xk.no g hg, upd_same, fun dx h1 h2 => ⟨rfl, dx, [(g, z), (f, y)], ?_, upd_same, ?_, ?_⟩⟩⟩
  · rw [upd_ne (Ne.symm h2)]; exact upd_same
  · rw [upd_ne h2] at h1; exact h1
  · rw [upd_ne h2] at h1
    have e : upd (del (upd (upd (upd (upd H a (exo a (He.ga K Cn) none)) dx (exd dx [(f, y)])) a (exo a (He.ga K Cn) (some dx))) dx (exd dx [(g, z), (f, y)])) a) dx (.xd [(g, z), (f, y)]) = upd H dx (.xd [(g, z), (f, y)]) := by
      funext b
      by_cases h : b = dx
      · rw [h, upd_same, upd_same]
      · rw [upd_ne h, upd_ne h]
        by_cases h3 : b = a
        · rw [h3, del_same, ha]
        · rw [del_ne h3, upd_ne h, upd_ne h3, upd_ne h, upd_ne h3]
    rw [e]
    exact h dx _ _ (hs.free h1) ⟨same_upd (hs.free h1)⟩ (hs.newF h1) ⟨upd_same⟩
theorem nAs {Cn : Str} {cs : List Str} {tys : List String} {i : Nat} {d : Option Addr} {ts : Addr → Value → Option Addr → TS} {W : WX} (cu : Cau K Cn cs tys) [e : Hs F M H]
    (h : ∀ a, ts a (.ref (He.ga K Cn)) d (En (fun σ' H' => N (σ'.set i none) H') R (fun σ' H' => B (σ'.set i none) H') (fun σ' H' => C' (σ'.set i none) H')) (σ.set i (some (.ref a))) H) : wAs K (.ref (He.ga K Cn)) i ts W (En N R B C') (.ref (He.ga K Cn)) d σ H :=
  ⟨true, cu.xm, fun _ a _ => h a, fun z => by cases z⟩
theorem nIsC {Cn c : Str} {cs : List Str} {tys : List String} {a dd : Addr} {fs : List (Str × V)} (cu : Cau K Cn cs tys) (hc : c ∈ cs) [hs : Hs F M H] [hd : Fz F dd (.xd fs)] (h : Q (.bl true) H) : rIsX K (He.ga K Cn) a (.ref (He.ga K Cn)) (some dd) [.ref a, .ref (He.ga K c)] H Q :=
  ⟨rfl, dd, fs, _, _, true, rfl, hs.f hd.h, rfl, fun u hu => by cases hu; rfl, cu.cs c hc, h⟩
theorem nIsT {Cn : Str} {t : String} {cs : List Str} {tys : List String} {a dd : Addr} {fs : List (Str × V)} (cu : Cau K Cn cs tys) (hc : t ∈ tys) [hs : Hs F M H] [hd : Fz F dd (.xd fs)] (h : Q (.bl true) H) : rIsX K (He.ga K Cn) a (.ref (He.ga K Cn)) (some dd) [.ref a, .ty t] H Q :=
  ⟨rfl, dd, fs, _, _, true, rfl, hs.f hd.h, rfl, fun u hu => by cases hu; rfl, cu.ts t hc, h⟩
def nXf (a : Addr) (cls : Value) (d : Option Addr) (C : Addr) (f : Str) (x : V) (H1 : Hp) (Q : VK) : Prop := x = .ref a ∧ cls = .ref C ∧ ∃ (dd : Addr) (fs : List (Str × V)) (v : V), d = some dd ∧ H1 dd = some (.xd fs) ∧ fs.lookup f = some v ∧ Q v H1
instance {a : Addr} {cls : Value} {d : Option Addr} : St1 (tXf a cls d C f te σ H Q) (te σ H fun x H1 => nXf a cls d C f x H1 Q) := ⟨id⟩
theorem nXf_mk {a dd : Addr} {fs : List (Str × V)} {v : V} [hs : Hs F M H] [hd : Fz F dd (.xd fs)] (hl : fs.lookup f = some v) (h : Q v H) : nXf a (.ref C) (some dd) C f (.ref a) H Q := ⟨rfl, rfl, dd, fs, v, rfl, hs.f hd.h, hl, h⟩
end
end Sh


set_option Elab.async false
set_option linter.all false
set_option maxRecDepth 100000
set_option maxHeartbeats 4000000
/-! # Written tables with text keys, constants, list-or-tuples, enumerate, try -/
namespace Sh
open PySem PySem.Spec PyProof.Rows L2
open SX (S)
section
variable {X : Cx} {x : Str} {pos : Pos} {d : Addr} {es : Array DictEntry} {n : Nat}
theorem pe_gI {i : Int} (h : ∃ t, X.mg x = some (.int i t)) (hg : Gl X x := by rfl) (hdb : (x == ("__debug__" : Str)) = false := by decide) : PE X (.Name x pos) (tC (.int i)) := by
  obtain ⟨t, h⟩ := h
  exact pe_glob hg h ⟨t, rfl⟩ hdb
theorem pe_gS {z : Str} (h : ∃ t, X.mg x = some (.str z t)) (hg : Gl X x := by rfl) (hdb : (x == ("__debug__" : Str)) = false := by decide) : PE X (.Name x pos) (tC (.str z)) := by
  obtain ⟨t, h⟩ := h
  exact pe_glob hg h ⟨t, rfl⟩ hdb
def rNotInK (K : PySem.W.Frag) (d : Addr) : R2 := fun x y H Q => ∃ (z : Str) (r : Option Value), x = .str z ∧ y = .ref d ∧ PySem.W.nsIn K d z = some r ∧ Q (.bl (!r.isSome)) H
def rInK (K : PySem.W.Frag) (d : Addr) : R2 := fun x y H Q => ∃ (z : Str) (r : Option Value), x = .str z ∧ y = .ref d ∧ PySem.W.nsIn K d z = some r ∧ Q (.bl r.isSome) H
/-- table[z] -/
def rIxK (K : PySem.W.Frag) (d : Addr) : R2 := fun x y H Q => ∃ (z : Str) (u : Value) (v : V), x = .ref d ∧ y = .str z ∧ PySem.W.nsIn K d z = some (some u) ∧ RelV v u ∧ Q v H
theorem op_notInK (D : ∃ es n, KDict X.K X.w d es n) : OpR X (compareOp .NotIn) (rNotInK X.K d) := by
  obtain ⟨es, n, D⟩ := D
  exact op_notIn_kd D
theorem op_inK (D : ∃ es n, KDict X.K X.w d es n) : OpR X (compareOp .In) (rInK X.K d) := by
  obtain ⟨es, n, D⟩ := D
  exact op_in_kd D
theorem ix_K (D : ∃ es n, KDict X.K X.w d es n) : IxR X (rIxK X.K d) := by
  obtain ⟨es, n, D⟩ := D
  intro value slice pins s σ H x y v u Q I rx ry h hs
  obtain ⟨z, u0, v0, rfl, rfl, h1, h2, q⟩ := h
  exact ix_kdict value slice pins s σ H _ _ v u Q I rx ry ⟨d, z, v0, rfl, rfl, ⟨es, n, u0, D.at_, D.lit, h1, h2⟩, q⟩ hs
/-- a part of a list or a tuple -/
def rSlLT (K : PySem.W.Frag) : V → Option Int → Option Int → Hp → VK → Prop := fun x lo hi H Q => rSlL K x lo hi H Q ∨ rSlT K x lo hi H Q
theorem sl_lt : SlR X (rSlLT X.K) := by
  intro pins s σ H x v vl vu lo hi sl Q I rx hs pl pu h
  rcases h with h | h
  · exact sl_list pins s σ H x v vl vu lo hi sl Q I rx hs pl pu h
  · exact sl_tup pins s σ H x v vl vu lo hi sl Q I rx hs pl pu h
end
/-- what the table at d says of z -/
class Tv (K : PySem.W.Frag) (d : Addr) (z : Str) (v : outParam V) : Prop where
  h : ∃ u, PySem.W.nsIn K d z = some (some u) ∧ RelV v u
theorem tv_of {K : PySem.W.Frag} {a : Addr} {kvs : List (Str × He.Dv)} (h : He.valsB K a kvs = true) {z : Str} {v : He.Dv} (hq : (z, v) ∈ kvs) : Tv K a z (v.v K) := ⟨He.valsB_ok h hq⟩
/-- a list or a tuple -/
class FzS (K : PySem.W.Frag) (F : Hp) (a : Addr) (xs : outParam (List V)) : Prop where
  h : SqL K F a xs ∨ SqT K F a xs
section
variable {K : PySem.W.Frag} {σ σ' : L2.St} {H F F' : Hp} {M : Ow} {Q : VK} {g : TG} {tb : TS} {te tl : TE} {tr : TA} {tt : TT} {N B C : L2.St → Hp → Prop} {R : VK} {vs : List Nat} {p a d : Addr} {i j : Int} {xs : List V} {v : V} {z : Str} {q : Bool → Prop} {c : Bool}
instance [t : Tv K d z v] : St1 (rNotInK K d (.str z) (.ref d) H Q) (Q (.bl false) H) := ⟨fun h => by
  obtain ⟨u, h1, -⟩ := t.h
  exact ⟨z, _, rfl, rfl, h1, h⟩⟩
instance [t : Tv K d z v] : St1 (rInK K d (.str z) (.ref d) H Q) (Q (.bl true) H) := ⟨fun h => by
  obtain ⟨u, h1, -⟩ := t.h
  exact ⟨z, _, rfl, rfl, h1, h⟩⟩
instance [t : Tv K d z v] : St1 (rIxK K d (.ref d) (.str z) H Q) (Q v H) := ⟨fun h => by
  obtain ⟨u, h1, h2⟩ := t.h
  exact ⟨z, u, v, rfl, rfl, h1, h2, h⟩⟩
instance (priority := 900) [e : Sm F F'] [l : FzS K F a xs] : FzS K F' a xs := ⟨l.h.imp (fun h => same_l e.h h) fun h => same_t e.h h⟩
instance (priority := 700) [hs : Hs F M H] [hm : FzS K F p xs] [ha : At xs i v] : St1 (rIx K (.ref p) (.int i) H Q) (Q v H) := ⟨fun h => by
  rcases hm.h with e | e
  · exact .inl ⟨p, xs, i, v, rfl, rfl, same_l hs.fz e, ha.h, h⟩
  · exact .inr (.inl ⟨p, xs, i, v, rfl, rfl, same_t hs.fz e, ha.h, h⟩)⟩
instance (priority := 700) [hs : Hs F M H] [hm : FzS K F p xs] : St1 (rLn K [.ref p] H Q) (Q (.int (xs.length : Int)) H) := ⟨fun h => by
  rcases hm.h with e | e
  · exact ⟨.ref p, _, rfl, .inl ⟨xs, same_l hs.fz e, rfl⟩, h⟩
  · exact ⟨.ref p, _, rfl, .inr ⟨xs, same_t hs.fz e, rfl⟩, h⟩⟩
instance (priority := 700) [hs : Hs F M H] [hm : FzS K F p xs] [e : Ie xs c] : St1 (nTru K (.ref p) H q) (q c) := ⟨fun h => by
  rcases hm.h with e1 | e1
  · exact ⟨_, .inl ⟨xs, same_l hs.fz e1, rfl⟩, by rw [e.h]; exact h⟩
  · exact ⟨_, .inr (.inl ⟨xs, same_t hs.fz e1, rfl⟩), by rw [e.h]; exact h⟩⟩
/-- a part, new and frozen -/
theorem nSlLT {lo hi : Option Int} {ys : List V} [hs : Hs F M H] [hm : FzS K F p xs] (hn : ¬ (HT.sIx xs.length 0 lo = 0 ∧ HT.sIx xs.length xs.length hi = xs.length)) (e : cutV xs lo hi = ys)
    (h : ∀ t F' H', F t = none → Sm F F' → Hs F' M H' → FzS K F' t ys → Q (.ref t) H') : rSlLT K (.ref p) lo hi H Q := by
  rcases hm.h with e1 | e1
  · exact .inl ⟨p, xs, rfl, same_l hs.fz e1, fun t ht => h t _ _ (hs.free ht) ⟨same_upd (hs.free ht)⟩ (hs.newF ht) ⟨.inl (e ▸ .inl (.inl upd_same))⟩⟩
  · exact .inr ⟨p, xs, rfl, same_t hs.fz e1, hn, fun t ht => h t _ _ (hs.free ht) ⟨same_upd (hs.free ht)⟩ (hs.newF ht) ⟨.inr (e ▸ .inl (.inl upd_same))⟩⟩
theorem nSlT {lo hi : Option Int} {ys : List V} [hs : Hs F M H] [hm : FzT K F p xs] (hn : ¬ (HT.sIx xs.length 0 lo = 0 ∧ HT.sIx xs.length xs.length hi = xs.length)) (e : cutV xs lo hi = ys)
    (h : ∀ t F' H', F t = none → Sm F F' → Hs F' M H' → FzT K F' t ys → Q (.ref t) H') : rSlT K (.ref p) lo hi H Q :=
  ⟨p, xs, rfl, same_t hs.fz hm.h, hn, fun t ht => h t _ _ (hs.free ht) ⟨same_upd (hs.free ht)⟩ (hs.newF ht) ⟨e ▸ .inl (.inl upd_same)⟩⟩
theorem nTupleOfS [hs : Hs F M H] [hm : FzS K F p xs] (h : ∀ q F' H', Sm F F' → Hs F' M H' → FzT K F' q xs → Q (.ref q) H') : rTupleOf K [.ref p] H Q := by
  rcases hm.h with e | e
  · have : FzL K F p xs := ⟨e⟩
    exact nTupleOfL fun q F' H' _ h1 h2 h3 _ => h q F' H' h1 h2 h3
  · have : FzT K F p xs := ⟨e⟩
    exact nTupleOfT (h p F H ⟨Same.refl F⟩ hs this)
theorem nCompLT {te' : TE} {σw : L2.St} (I : Nat → Cv) [hs : Hs F M H] [hw : Wp σ vs σw] [hm : FzS K F a xs] (h0 : I 0 [] F M)
    (step : ∀ i x acc D F' M' H', xs[i]? = some x → Sm F F' → Hs F' ((D, HO.lst acc) :: M') H' → I i acc F' M' → CvT g tt te' vs σw F D (I (i + 1)) x H')
    (done : ∀ D acc F' M' H', F D = none → Sm F F' → Hs F' ((D, HO.lst acc) :: M') H' → I xs.length acc F' M' → Q (.ref D) H') : nSeqLT K (.ref a) H fun J H1 => nComp g tt te' vs σ Q J H1 := by
  rcases hm.h with hx | hx
  · have : FzL K F a xs := ⟨hx⟩
    exact .inl (nCompL I h0 step done)
  · have : FzT K F a xs := ⟨hx⟩
    exact .inr (nCompT I h0 step done)
/-- enumerate -/
def nEnum (K : PySem.W.Frag) (vs : List V) (H : Hp) (q : It → Hp → Prop) : Prop := ∃ a xs, vs = [.ref a] ∧ SqL K H a xs ∧ q (Ite K a) H
instance : St1 (tFor (iEnum K tr) g tb (En N R B C) σ H) (tr σ H fun vs H1 => nEnum K vs H1 fun J H1 => nLoop g tb N R σ J H1) := ⟨id⟩
theorem nLoopE (I : Nat → Iv) [hs : Hs F M H] [hx : FzL K F a xs] (h0 : I 0 σ F M)
    (step : ∀ (i : Nat) x T σ' F' M' H', xs[i]? = some x → Sm F F' → Hs F' M' H' → FzT K F' T [.int i, x] → I i σ' F' M' → g (.ref T) σ' H' fun σ2 H2 => tb (En (IvH F (I (i + 1))) R N (IvH F (I (i + 1)))) σ2 H2)
    (done : ∀ σ' F' M' H', Sm F F' → Hs F' M' H' → I xs.length σ' F' M' → N σ' H') (mono : ∀ i σ' F1 F2 M', Same F1 F2 → I i σ' F1 M' → I i σ' F2 M') : nEnum K [.ref a] H fun J H1 => nLoop g tb N R σ J H1 := by
  refine ⟨a, xs, rfl, same_l hs.fz hx.h, ?_⟩
  refine for_it (D := En N R N N) (walk_enum (K := K) (a := a) (xs := xs)) (fun i => IvH F (I i)) ⟨F, M, Same.refl F, hs, h0⟩ (fun i σ' H' _ ⟨F', M', e, hs', _⟩ => same_l hs'.fz (same_l e hx.h)) ?_ ?_
  · rintro i x σ' H1 H2 hi ⟨F', M', e, hs', p⟩ ⟨T, x1, y1, rfl, hT, rfl, h1, h2⟩
    cases h1
    have hf := hs'.free hT
    exact step i y1 T σ' _ M' _ h2 ⟨e.trans (same_upd (o := .tup [.int (i : Nat), y1]) hf)⟩ (hs'.newF hT) ⟨.inl (.inl upd_same)⟩ (mono i σ' _ _ M' (same_upd hf) p)
  · rintro σ' H' ⟨F', M', e, hs', p⟩
    exact done σ' F' M' H' ⟨e⟩ hs' p
/-- try .. except C as e -/
def tTryAs (K : PySem.W.Frag) (c : Value) (i : Nat) (ts : Addr → Value → Option Addr → TS) (tb : WX → TS) : TS := fun D σ H => tb (wAs K c i ts (fun _ _ _ _ => False) D) D σ H
theorem ps_tryAs {X : Cx} {x n : Str} {c : Value} {i : Nat} {body suite : List Stmt} {b₀ : Stmt} {np pos pos' : Pos} {tb : WX → TS} {ts : Addr → Value → Option Addr → TS} (hs : X.stack = X.env :: X.outer) (hf : X.env.frame = some X.env.locals) (hN : X.N.Nodup) (hi : X.N[i]? = some n) (hln : X.env.kindOf n = some .local) (hc : Names X x c)
    (hb : ∀ (W : WX) (pn : List (Addr × Obj)) (xe : Value → Shared → Prop), Takes (X.tr pn xe) W → PassesOwn (model X.prog X.w) X.A X.env xe → PSs (X.tr pn xe) body (tb W))
    (hsu : ∀ (a : Addr) (oe : Obj) (cls : Value) (d : Option Addr) (pn : List (Addr × Obj)), Zc cls d oe → (∃ vs, oe.data = .fields vs) → PSs (X.suite a ((a, oe) :: pn)) (b₀ :: suite) (ts a cls d)) :
    PS X (.Try body [.ExceptHandler (some (.Name x np)) (some n) (b₀ :: suite) pos'] [] [] pos) (tTryAs X.K c i ts tb) :=
  ps_try_as (Wout := fun _ _ _ _ => False) hs hf hN hi hln hc takes0 hb hsu
instance {D : Ends} {c : Value} {n : Nat} {ts : Addr → Value → Option Addr → TS} {tb' : WX → TS} : St1 (tTryAs K c n ts tb' D σ H) (tb' (wAs K c n ts (fun _ _ _ _ => False) D) D σ H) := ⟨id⟩
/-- deep equality, told by data -/
theorem nEqD {x y : V} {d e : PyData} {c : Bool} (h1 : Dp K H x d) (h2 : Dp K H y e) (h3 : SeqAt.shaped d = true) (h4 : SeqAt.shaped e = true) (h5 : PyData.eqv d e = c) (h : Q (.bl c) H) : rEqD K x y H Q := ⟨d, e, h1, h2, h3, h4, by rw [h5]; exact h⟩
end
end Sh


set_option Elab.async false
set_option linter.all false
set_option maxRecDepth 100000
set_option maxHeartbeats 4000000
/-! # enumerate over a tuple -/
namespace Sh
open PySem PySem.Spec PyProof.Rows L2
theorem drawsT {prog : Program} {w : World} {A : Around} (hh : A.handled = none) (it l : Addr) (hne : l ≠ it) (items : Array Value) :
    Draws prog w A it [it, l] items.size (fun i v => items[i]? = some v) (fun i h => h.IsTupleIter it l i ∧ h.IsTuple l items) := by
  refine ⟨?_, ?_, ?_, ?_⟩
  · rintro i h ⟨⟨o, ho, _⟩, _⟩
    exact ⟨o, ho⟩
  · rintro i h h' ⟨h1, o, ho, hr⟩ hk
    exact ⟨h1.at fun u e => hk it (by simp) u e, o, hk l (by simp) o ho, hr⟩
  · rintro i s Q E hi ⟨h1, o, ho, hr⟩ hQ
    refine RZ.nextOf_tuple_item h1 ⟨o, ho, hr⟩ (x := items[i]) (by simp [hi]) fun h' h2 h3 => ?_
    exact hQ _ h' s.toks (by simp [hi]) ⟨h2, o, (h3.2 l hne).trans ho, hr⟩ h3
  · rintro s Q E ⟨h1, h2⟩ hE
    exact RZ.nextOf_tuple_end hh h1 h2 (by simp) hE
theorem meets_enumT (l : Addr) (items : Array Value) :
    Meets (Builtin.«enumerate.__new__» ⟨[.type "enumerate", .ref l], []⟩) (fun _ R s => s.heap.IsTuple l items ∧
      R (.ok (.ret (.ref (s.heap.push { cls := .type "tuple_iterator", data := .fields #[.ref l, .int 0 0] }).objs.size)))
        { s with heap := (s.heap.push { cls := .type "tuple_iterator", data := .fields #[.ref l, .int 0 0] }).push { cls := .type "enumerate", data := .fields #[.none, .bool false, .ref s.heap.objs.size, rawInt 0, .none, .none] } }) :=
  .of_wp fun prog w A R s hyp => by
    obtain ⟨hp, gs, dr, tk, os⟩ := s
    obtain ⟨hT, hq⟩ := hyp
    obtain ⟨oT, hoT, hcT, nT, hdT⟩ := id hT
    have subE := sub_enumerate
    wp_walk using AutoSeq1.wpAny_loadPart' hoT
    refine wpAny_stack_any fun st => wpAny_pure ?_
    split
    · rename_i c _ _ _ _ _
      cases (c == Value.type "enumerate") <;>
      · wp_walk using AutoSeq1.wpAny_loadPart' hoT, wpAny_pyIter_tuple hT
        exact ⟨_, rfl, hq⟩
    · wp_walk using AutoSeq1.wpAny_loadPart' hoT, wpAny_pyIter_tuple hT
      exact ⟨_, rfl, hq⟩
theorem call_enumT {prog : Program} {w : World} {A : Around} {E : Value → Shared → Prop} {s : Shared} {l : Addr} {items : Array Value} {Q : Value → Shared → Prop} (hT : s.heap.IsTuple l items)
    (h : ∀ h', IsEnum h' (s.heap.objs.size + 1) s.heap.objs.size 0 .none → h'.IsTupleIter s.heap.objs.size l 0 → (∀ b o, s.heap.get? b = some o → h'.get? b = some o) → Q (.ref (s.heap.objs.size + 1)) { s with heap := h' }) :
    wpAny (model prog w) A (call (.type "enumerate") [.ref l]) Q E s := by
  refine callType_new F.called_enumerate (by decide) (F.typeCall_enumerate_1 _) (F.newCall_enumerate_1 _) (fun obj => F.args_object_init_2 obj _) F.entry_enumerate_new (meets_enumT l items) ⟨hT, ?_⟩
  have sz1 : (s.heap.push { cls := .type "tuple_iterator", data := .fields #[.ref l, .int 0 0] }).objs.size = s.heap.objs.size + 1 := Heap.size_push ..
  show _ ∧ _
  rw [sz1]
  have isE : IsEnum ((s.heap.push { cls := .type "tuple_iterator", data := .fields #[.ref l, .int 0 0] }).push { cls := .type "enumerate", data := .fields #[.none, .bool false, .ref s.heap.objs.size, rawInt 0, .none, .none] }) (s.heap.objs.size + 1) s.heap.objs.size 0 .none := by
    have g := Heap.get?_push_size (s.heap.push { cls := .type "tuple_iterator", data := .fields #[.ref l, .int 0 0] }) (o := { cls := .type "enumerate", data := .fields #[.none, .bool false, .ref s.heap.objs.size, rawInt 0, .none, .none] }) rfl
    rw [sz1] at g
    exact g
  exact ⟨⟨_, isE, rfl⟩, h _ isE ⟨_, Heap.get?_push_of_some _ (Heap.get?_push_size _ rfl), rfl, rfl⟩ fun b o x => Heap.get?_push_of_some _ (Heap.get?_push_of_some _ x)⟩
/-- the tuple at a, each item in a new pair -/
def IteT (K : PySem.W.Frag) (a : Addr) : It :=
  ⟨fun i H => ∃ (xs : List V) (x : V), SqT K H a xs ∧ xs[i]? = some x, fun i H v H' => ∃ T x, v = .ref T ∧ H T = none ∧ H' = upd H T (.tup [.int (i : Nat), x]) ∧ ∀ xs, SqT K H a xs → xs[i]? = some x, fun i H => ∃ xs : List V, SqT K H a xs ∧ xs.length = i⟩
theorem apartE {h : Heap} {e it l : Addr} {i : Int} {v : Value} {items : Array Value} {j : Nat} (he : IsEnum h e it i v) (hi : h.IsTupleIter it l j) (hl : h.IsTuple l items) : l ≠ it ∧ e ≠ l := by
  obtain ⟨o1, ho1, hc1, _⟩ := hi
  obtain ⟨o2, ho2, hc2, _⟩ := hl
  have hc1 : o1.cls = .type "tuple_iterator" := hc1
  constructor
  · intro z
    subst z
    rw [ho2] at ho1; cases ho1
    rw [hc2] at hc1
    exact absurd hc1 (by decide)
  · intro z
    subst z
    have he' : h.get? e = some _ := he
    rw [ho2] at he'
    have := Option.some.inj he'
    rw [this] at hc2
    have z : Value.type "enumerate" = Value.type "tuple" := hc2
    injection z with t
    exact absurd t (by decide)
theorem turn_enumT {P : Program} {w : World} {K : PySem.W.Frag} {elts : List Expr} {kk : Nat} {tpos : Pos} (a e it : Addr) :
    Turn P w K (.Tuple elts kk tpos) (IteT K a) [e, it] e (fun i h => (∃ old, IsEnum h e it ((i : Nat) : Int) old) ∧ h.IsTupleIter it a i ∧ e ≠ it) := by
  refine ⟨by simp, ?_, ?_, ?_, ?_, ?_⟩
  · rintro i h ⟨⟨old, he⟩, ⟨o, ho, hc, hd⟩, -⟩ b hb
    simp only [List.mem_cons, List.not_mem_nil, or_false] at hb
    rcases hb with rfl | rfl
    · exact ⟨_, he, fun v q => nomatch q⟩
    · exact ⟨o, ho, fun v q => by rw [hd] at q; cases q⟩
  · rintro i h h' ⟨⟨old, he⟩, hi, hne⟩ k
    exact ⟨⟨old, k e (by simp) _ he⟩, hi.at fun o q => k it (by simp) o q, hne⟩
  · intro X hP hw hK hc i pins s σ H E I hf st hg
    subst hP hw hK
    obtain ⟨⟨old, he⟩, hit, hne⟩ := st
    obtain ⟨xs, x, hq, hx⟩ := hg
    obtain ⟨its, rv, p, hz⟩ := I.tuple hq
    obtain ⟨u, hu, ru⟩ := rv.get hx
    obtain ⟨n1, n2⟩ := apartE he hit p
    have hel : e < s.heap.objs.size := Heap.lt_size he
    have hil : it < s.heap.objs.size := by obtain ⟨_, q, _⟩ := hit; exact Heap.lt_size q
    have hlt : i < its.toArray.size := by
      have := (List.getElem?_eq_some_iff.mp hu).1
      simpa using this
    refine wpAny_pyNext_enum_itemD (drawsT (show X.A.in1.handled = none from I.ok.hd hc) it a n1 its.toArray) he ⟨hit, p⟩ hlt hne (by simp [hne, n2]) fun y h' tk hy ho st' hT hsz hk => ?_
    have hyu : y = u := by
      have h1 : its.toArray[i]? = some y := hy
      rw [List.getElem?_toArray, hu] at h1
      exact (Option.some.inj h1).symm
    subst hyu
    refine ⟨_, rfl, wpAny_letOwnedTupleGo_enum (s := { s with heap := h', toks := tk + 1 }) ho fun h'' he' sb => ?_⟩
    have hT2 : h''.get? s.heap.objs.size = some { cls := .type "tuple", data := .seq #[.int i tk, y] } := (sb.2 _ (Nat.ne_of_gt hel)).trans hT
    have new : ObjOk X.prog X.w (upd H s.heap.objs.size (.tup [.int (i : Nat), x])) h'' s.heap.objs.size (.tup [.int (i : Nat), x]) :=
      ⟨by show 2 ≤ sizeLine; decide, [.int i tk, y], .cons ⟨_, rfl⟩ (.cons ru .nil), ⟨_, hT2, rfl, _, rfl⟩⟩
    have J : Inv X pins σ (upd H s.heap.objs.size (.tup [.int (i : Nat), x])) { s with heap := h'', toks := tk + 1 } :=
      I.turnedNew (ch := [e, it]) (fun b ob hb q => (sb.2 b (fun z => hb (by simp [z]))).trans (hk b ob (fun z => hb (by simp [z])) (fun z => hb (by simp [z])) q)) hf (Nat.le_refl _) new
    refine ⟨.ref s.heap.objs.size, _, J, rfl, ⟨_, x, rfl, I.hok.fresh (Nat.le_refl _), rfl, fun ys hy2 => ?_⟩, ⟨⟨y, ?_⟩, st'.1.at fun o q => (sb.2 it (Ne.symm hne)).trans q, hne⟩, fun b hb => ?_⟩
    · rw [I.tuple_inj hy2 hq]; exact hx
    · rw [show ((i + 1 : Nat) : Int) = (i : Int) + 1 by omega]; exact he'
    · have hb' : b < s.heap.objs.size := by
        simp only [List.mem_cons, List.not_mem_nil, or_false] at hb
        rcases hb with rfl | rfl
        · exact hel
        · exact hil
      rw [upd_ne (Nat.ne_of_lt hb')]
      exact (hf b hb).1
  · intro X hP hw hK hc i pins s σ H E I hf st hg
    subst hP hw hK
    obtain ⟨⟨old, he⟩, hit, hne⟩ := st
    obtain ⟨xs, hq, hx⟩ := hg
    obtain ⟨its, rv, p, hz⟩ := I.tuple hq
    obtain ⟨f0, f1, f2, f3, f4, f5⟩ := hf it (by simp)
    have hlen := rv.length
    obtain ⟨n1, n2⟩ := apartE he hit p
    have D := drawsT (prog := X.prog) (w := X.w) (show X.A.in1.handled = none from I.ok.hd hc) it a n1 its.toArray
    rw [show its.toArray.size = i by simp; omega] at D
    exact wpAny_pyNext_enum_endD D he ⟨hit, p⟩ fun h' eb => ⟨rfl, I.turned (t' := s.toks) (fun b o hb q => eb b o hb q) f0 f1 f3 f4 f5⟩
  · intro A i s Q E st h
    obtain ⟨⟨_, he⟩, _⟩ := st
    exact wpAny_pyIter_enum he h
/-- a list or a tuple, enumerated -/
def iEnumLT (K : PySem.W.Frag) (ta : TA) : TI := fun σ H R => ta σ H fun vs H1 => (∃ a xs, vs = [.ref a] ∧ SqL K H1 a xs ∧ R (Ite K a) H1) ∨ (∃ a xs, vs = [.ref a] ∧ SqT K H1 a xs ∧ R (IteT K a) H1)
theorem pi_enumLT {X : Cx} {e : Expr} {ta : TA} {p pos tpos : Pos} {elts : List Expr} {kk : Nat} (hg : Gl X "enumerate") (hm : X.mg "enumerate" = none) (ha : PA X [e] ta) (hs : starEach [e] X.env = [(false, eval e X.env)] := by rfl) :
    PI X (.Tuple elts kk tpos) (.Call (.Name "enumerate" p) [e] [] pos) (iEnumLT X.K ta) := by
  constructor
  intro pins s σ H R I h
  refine Call_ (ld_blt I hg hm boot_enumerate (PyProof.Rows.callWith_type1 (thn (ha.run pos pins s σ H _ I h) ?_) hs rfl))
  rintro us s1 ⟨vs, H1, I1, r1, q1⟩
  have fp : ∀ {b : Addr}, b ∈ [s1.heap.objs.size + 1, s1.heap.objs.size] → FpOk X pins H1 b := by
    intro b hb
    have hle : s1.heap.objs.size ≤ b := by
      simp only [List.mem_cons, List.not_mem_nil, or_false] at hb
      rcases hb with rfl | rfl
      · exact Nat.le_succ _
      · exact Nat.le_refl _
    exact I1.fpOk hle (I1.hok.fresh hle)
  rcases q1 with ⟨a, xs, rfl, hq, q⟩ | ⟨a, xs, rfl, hq, q⟩
  · obtain ⟨u, rfl, ru⟩ := vals1 r1
    cases ru
    obtain ⟨its, rv, p', hz⟩ := I1.list hq
    refine call_enumerate_list p'.isList fun h' he hit hsz hk => wpAny_pyIter_enum he ?_
    have I2 : Inv X pins σ H1 { s1 with heap := h' } := I1.kept (t' := s1.toks) hk
    exact ⟨s1.heap.objs.size + 1, [s1.heap.objs.size + 1, s1.heap.objs.size], _, _, H1, rfl, I2, turn_enum a (s1.heap.objs.size + 1) s1.heap.objs.size, ⟨⟨.none, he⟩, hit, Nat.succ_ne_self _⟩, fun b hb => fp hb, q⟩
  · obtain ⟨u, rfl, ru⟩ := vals1 r1
    cases ru
    obtain ⟨its, rv, p', hz⟩ := I1.tuple hq
    refine call_enumT p' fun h' he hit hk => wpAny_pyIter_enum he ?_
    have I2 : Inv X pins σ H1 { s1 with heap := h' } := I1.kept (t' := s1.toks) hk
    exact ⟨s1.heap.objs.size + 1, [s1.heap.objs.size + 1, s1.heap.objs.size], _, _, H1, rfl, I2, turn_enumT a (s1.heap.objs.size + 1) s1.heap.objs.size, ⟨⟨.none, he⟩, hit, Nat.succ_ne_self _⟩, fun b hb => fp hb, q⟩
theorem walk_enumT {K : PySem.W.Frag} {a : Addr} {xs : List V} : Walk (IteT K a) xs.length (fun H => SqT K H a xs) (YPair (fun i => some (.int (i : Nat))) (fun i => xs[i]?)) := by
  refine ⟨fun i H hi q => ⟨xs, xs[i], q, List.getElem?_eq_getElem hi⟩, fun H q => ⟨xs, q, rfl⟩, ?_⟩
  rintro i H x H' hi q ⟨T, y, h1, h2, h3, h4⟩
  exact ⟨T, .int (i : Nat), y, h1, h2, h3, rfl, h4 xs q⟩
section
variable {K : PySem.W.Frag} {σ : L2.St} {H F : Hp} {M : Ow} {g : TG} {tb : TS} {a : Addr} {xs : List V} {N B C : L2.St → Hp → Prop} {R : VK} {tr : TA}
def nEnumLT (K : PySem.W.Frag) (vs : List V) (H : Hp) (q : It → Hp → Prop) : Prop := (∃ a xs, vs = [.ref a] ∧ SqL K H a xs ∧ q (Ite K a) H) ∨ (∃ a xs, vs = [.ref a] ∧ SqT K H a xs ∧ q (IteT K a) H)
instance : St1 (tFor (iEnumLT K tr) g tb (En N R B C) σ H) (tr σ H fun vs H1 => nEnumLT K vs H1 fun J H1 => nLoop g tb N R σ J H1) := ⟨id⟩
theorem nLoopEL (I : Nat → Iv) [hs : Hs F M H] [hx : FzS K F a xs] (h0 : I 0 σ F M)
    (step : ∀ (i : Nat) x T σ' F' M' H', xs[i]? = some x → Sm F F' → Hs F' M' H' → FzT K F' T [.int i, x] → I i σ' F' M' → g (.ref T) σ' H' fun σ2 H2 => tb (En (IvH F (I (i + 1))) R N (IvH F (I (i + 1)))) σ2 H2)
    (done : ∀ σ' F' M' H', Sm F F' → Hs F' M' H' → I xs.length σ' F' M' → N σ' H') (mono : ∀ i σ' F1 F2 M', Same F1 F2 → I i σ' F1 M' → I i σ' F2 M') : nEnumLT K [.ref a] H fun J H1 => nLoop g tb N R σ J H1 := by
  rcases hx.h with hl | ht
  · have : FzL K F a xs := ⟨hl⟩
    exact .inl (nLoopE I h0 step done mono)
  · refine .inr ⟨a, xs, rfl, same_t hs.fz ht, ?_⟩
    refine for_it (D := En N R N N) (walk_enumT (K := K) (a := a) (xs := xs)) (fun i => IvH F (I i)) ⟨F, M, Same.refl F, hs, h0⟩ (fun i σ' H' _ ⟨F', M', e, hs', _⟩ => same_t hs'.fz (same_t e ht)) ?_ ?_
    · rintro i x σ' H1 H2 hi ⟨F', M', e, hs', p⟩ ⟨T, x1, y1, rfl, hT, rfl, h1, h2⟩
      cases h1
      have hf := hs'.free hT
      exact step i y1 T σ' _ M' _ h2 ⟨e.trans (same_upd (o := .tup [.int (i : Nat), y1]) hf)⟩ (hs'.newF hT) ⟨.inl (.inl upd_same)⟩ (mono i σ' _ _ M' (same_upd hf) p)
    · rintro σ' H' ⟨F', M', e, hs', p⟩
      exact done σ' F' M' H' ⟨e⟩ hs' p
end
end Sh


set_option Elab.async false
set_option linter.all false
set_option maxRecDepth 100000
set_option maxHeartbeats 4000000
/-! # Values as trees: what is owned, what is frozen; readings over trees -/
namespace Sh
open PySem PySem.Spec PyProof.Rows L2
open SX (S)
noncomputable instance decHO : DecidableEq HO := fun _ _ => Classical.propDecidable _
local macro_rules | `(tactic| walk_at "prm") => `(tactic| (refine List.perm_iff_count.mpr fun x => ?_; simp only [List.count_append, List.count_cons, List.count_nil, List.append_assoc, List.nil_append, List.append_nil] <;> omega))
/-! ### the classes of the program -/
inductive Cn where
  | Text | Cutter | Common | Walk | Grammar | Unfolder | Cut | Rounds | Store | Occurrences | Overlaps | Shelf | Builder | Bench
  deriving DecidableEq
def Cn.nm : Cn → Str
  | .Text => "Text" | .Cutter => "Cutter" | .Common => "Common" | .Walk => "Walk" | .Grammar => "Grammar" | .Unfolder => "Unfolder" | .Cut => "Cut" | .Rounds => "Rounds" | .Store => "Store"
  | .Occurrences => "Occurrences" | .Overlaps => "Overlaps" | .Shelf => "Shelf" | .Builder => "Builder" | .Bench => "Bench"
/-- the attributes, in the order in which they are first stored -/
def Cn.ns : Cn → List Str
  | .Text => ["rules", "lengths", "length"] | .Cutter => ["found", "_first", "_step", "_count"] | .Common => ["symbols", "roots", "sizes", "ends"] | .Walk => ["held", "rows"] | .Grammar => ["rows"]
  | .Unfolder => ["grammar", "rules", "lengths", "_known"] | .Cut => ["prefix", "rest", "suffix"] | .Rounds => ["rows", "roots", "many", "symbols", "ends"] | .Store => ["rounds", "symbols", "roots", "ends", "lengths"]
  | .Occurrences => ["size", "length", "held", "pattern", "root", "borders", "cuts", "totals"] | .Overlaps => ["first", "second", "held"] | .Shelf => ["_texts"] | .Builder => ["rules", "lengths"]
  | .Bench => ["_texts", "_questions", "_before", "_after", "_decided", "_counts"]
/-! ### trees -/
inductive Vl where
  | non | bl (b : Bool) | int (i : Int) | str (x : Str) | raw (v : V)
  | tup (xs : List Vl) | lst (o : Bool) (xs : List Vl) | dic (o : Bool) (es : List (Key × Vl)) | obj (o : Bool) (c : Cn) (xs : List Vl)
  /-- dicts whose keys are tuples of ints; of ints and truth values, holding ints -/
  | dit (o : Bool) (es : List (List Int × Vl)) | dix (o : Bool) (es : List (List Int × Int))
  /-- with its address -/
  | adr (a : Addr) (x : Vl)
  /-- the script -/
  | scr (ns : List Int)
  /-- a class of the program -/
  | cls (c : Cn)
  /-- a caught error: itself, its own dict, its class, names and things of its attributes -/
  | err (a : Addr) (d : Option Addr) (C : Str) (ns : List Str) (xs : List Vl)
mutual
/-- nothing in it is owned -/
def Vl.fz : Vl → Bool
  | .tup xs => Vl.fzA xs
  | .lst o _ => !o
  | .dic o _ => !o
  | .obj o _ _ => !o
  | .dit o _ => !o
  | .dix o _ => !o
  | .adr _ x => x.fz
  | _ => true
def Vl.fzA : List Vl → Bool
  | [] => true
  | x :: xs => x.fz && Vl.fzA xs
end
mutual
def Vl.frz : Vl → Vl
  | .tup xs => .tup (Vl.frzA xs)
  | .lst true xs => .lst false (Vl.frzA xs)
  | .dic true es => .dic false (Vl.frzD es)
  | .obj true c xs => .obj false c (Vl.frzA xs)
  | .dit true es => .dit false (Vl.frzT es)
  | .dix true es => .dix false es
  | .adr a x => .adr a x.frz
  | x => x
def Vl.frzA : List Vl → List Vl
  | [] => []
  | x :: xs => x.frz :: Vl.frzA xs
def Vl.frzD : List (Key × Vl) → List (Key × Vl)
  | [] => []
  | (k, x) :: es => (k, x.frz) :: Vl.frzD es
def Vl.frzT : List (List Int × Vl) → List (List Int × Vl)
  | [] => []
  | (k, x) :: es => (k, x.frz) :: Vl.frzT es
end
/-- keys as the hand layer has them -/
def kT {α : Type} (es : List (List Int × α)) : List (List Key × α) := es.map fun p => (p.1.map Sum.inl, p.2)
/-- an item of a key: an int, or a truth value as 0 or 1 -/
def KeyW (v : V) (i : Int) : Prop := v = .int i ∨ ∃ b : Bool, v = .bl b ∧ i = if b then 1 else 0
inductive KeyWs : List V → List Int → Prop
  | nil : KeyWs [] []
  | cons {v : V} {i : Int} {vs : List V} {is : List Int} : KeyW v i → KeyWs vs is → KeyWs (v :: vs) (i :: is)
/-- such a dict at a: of each entry the address of its key, the key, the value -/
def WdO (a : Addr) (E : List (Addr × List Int × Int)) : HO := .ext fun h => ∃ (o : Obj) (es : Array DictEntry) (ep : Nat), h.get? a = some o ∧ o.ExactDict ∧ o.data = .dict es ep ∧ Paired (fun (e : DictEntry) (x : Addr × List Int × Int) => e.key = .ref x.1 ∧ e.hash = reduceHash (Builtin.Tuple.tupleHashOf (x.2.1.map hashInt)) ∧ ∃ t, e.val = .int x.2.2 t) es.toList E ∧ (E.map (·.2.1)).Nodup ∧ (a == sysModules) = false
def KeysX (F : Hp) (E : List (Addr × List Int × Int)) : Prop := ∀ e ∈ E, ∃ vs, F e.1 = some (.tup vs) ∧ KeyWs vs e.2.1
theorem KeysX.mono {F F' : Hp} {E : List (Addr × List Int × Int)} (e : Same F F') (h : KeysX F E) : KeysX F' E := fun x hx => let ⟨vs, h1, h2⟩ := h x hx; ⟨vs, e _ _ h1, h2⟩
theorem sqT {K : PySem.W.Frag} {F : Hp} {a : Addr} {xs : List V} (h : F a = some (.tup xs)) : SqT K F a xs := .inl (.inl h)
mutual
inductive Rep (K : PySem.W.Frag) (F : Hp) : V → Vl → Ow → Prop
  | non : Rep K F .non .non []
  | bl {b : Bool} : Rep K F (.bl b) (.bl b) []
  | int {i : Int} : Rep K F (.int i) (.int i) []
  | str {x : Str} : Rep K F (.str x) (.str x) []
  | raw {v : V} : Rep K F v (.raw v) []
  | tup {a : Addr} {vs : List V} {xs : List Vl} {M : Ow} : F a = some (.tup vs) → RepA K F vs xs M → Rep K F (.ref a) (.tup xs) M
  | lstF {a : Addr} {vs : List V} {xs : List Vl} : F a = some (.lst vs) → RepA K F vs xs [] → Rep K F (.ref a) (.lst false xs) []
  | lstO {a : Addr} {vs : List V} {xs : List Vl} {M : Ow} : RepA K F vs xs M → Rep K F (.ref a) (.lst true xs) ((a, .lst vs) :: M)
  | dicF {a : Addr} {es : List (Key × V)} {xs : List (Key × Vl)} : F a = some (.dK es) → RepD K F es xs [] → Rep K F (.ref a) (.dic false xs) []
  | dicO {a : Addr} {es : List (Key × V)} {xs : List (Key × Vl)} {M : Ow} : RepD K F es xs M → Rep K F (.ref a) (.dic true xs) ((a, .dK es) :: M)
  | objF {a dx : Addr} {c : Cn} {vs : List V} {xs : List Vl} : F a = some (Ob (He.ga K c.nm) dx c.ns vs) → RepA K F vs xs [] → Rep K F (.ref a) (.obj false c xs) []
  | objO {a dx : Addr} {c : Cn} {vs : List V} {xs : List Vl} {M : Ow} : RepA K F vs xs M → Rep K F (.ref a) (.obj true c xs) ((a, Ob (He.ga K c.nm) dx c.ns vs) :: M)
  | err {a dd : Addr} {C : Str} {ns : List Str} {vs : List V} {xs : List Vl} : F dd = some (.xd (ns.zip vs)) → RepA K F vs xs [] → Rep K F (.ref a) (.err a (some dd) C ns xs) []
  | scr {a : Addr} {ns : List Int} : SqL K F a (ns.map V.int) → Rep K F (.ref a) (.scr ns) []
  | cls {c : Cn} : Rep K F (.ref (He.ga K c.nm)) (.cls c) []
  | err0 {a : Addr} {C : Str} : Rep K F (.ref a) (.err a none C [] []) []
  | ditF {a : Addr} {es : List (List Int × V)} {xs : List (List Int × Vl)} : F a = some (.dT (kT es)) → RepT K F es xs [] → Rep K F (.ref a) (.dit false xs) []
  | ditO {a : Addr} {es : List (List Int × V)} {xs : List (List Int × Vl)} {M : Ow} : RepT K F es xs M → Rep K F (.ref a) (.dit true xs) ((a, .dT (kT es)) :: M)
  | dixF {a : Addr} {E : List (Addr × List Int × Int)} {xs : List (List Int × Int)} : F a = some (WdO a E) → KeysX F E → xs = E.map (·.2) → Rep K F (.ref a) (.dix false xs) []
  | dixO {a : Addr} {E : List (Addr × List Int × Int)} {xs : List (List Int × Int)} : KeysX F E → xs = E.map (·.2) → Rep K F (.ref a) (.dix true xs) [(a, WdO a E)]
  | adr {a : Addr} {x : Vl} {M : Ow} : Rep K F (.ref a) x M → Rep K F (.ref a) (.adr a x) M
inductive RepA (K : PySem.W.Frag) (F : Hp) : List V → List Vl → Ow → Prop
  | nil : RepA K F [] [] []
  | cons {v : V} {x : Vl} {vs : List V} {xs : List Vl} {M N : Ow} : Rep K F v x M → RepA K F vs xs N → RepA K F (v :: vs) (x :: xs) (M ++ N)
inductive RepD (K : PySem.W.Frag) (F : Hp) : List (Key × V) → List (Key × Vl) → Ow → Prop
  | nil : RepD K F [] [] []
  | cons {k : Key} {v : V} {x : Vl} {vs : List (Key × V)} {xs : List (Key × Vl)} {M N : Ow} : Rep K F v x M → RepD K F vs xs N → RepD K F ((k, v) :: vs) ((k, x) :: xs) (M ++ N)
inductive RepT (K : PySem.W.Frag) (F : Hp) : List (List Int × V) → List (List Int × Vl) → Ow → Prop
  | nil : RepT K F [] [] []
  | cons {k : List Int} {v : V} {x : Vl} {vs : List (List Int × V)} {xs : List (List Int × Vl)} {M N : Ow} : Rep K F v x M → RepT K F vs xs N → RepT K F ((k, v) :: vs) ((k, x) :: xs) (M ++ N)
end
section
variable {K : PySem.W.Frag} {F F' H : Hp} {M M' N R : Ow} {v : V} {x : Vl} {vs : List V} {xs : List Vl}
mutual
theorem Rep.mono (e : Same F F') : ∀ {v : V} {x : Vl} {M : Ow}, Rep K F v x M → Rep K F' v x M
  | _, _, _, .non => .non
  | _, _, _, .bl => .bl
  | _, _, _, .int => .int
  | _, _, _, .str => .str
  | _, _, _, .raw => .raw
  | _, _, _, .tup h r => .tup (e _ _ h) (r.mono e)
  | _, _, _, .ditF h r => .ditF (e _ _ h) (r.mono e)
  | _, _, _, .ditO r => .ditO (r.mono e)
  | _, _, _, .dixF h r q => .dixF (e _ _ h) (r.mono e) q
  | _, _, _, .dixO r q => .dixO (r.mono e) q
  | _, _, _, .adr r => .adr (r.mono e)
  | _, _, _, .lstF h r => .lstF (e _ _ h) (r.mono e)
  | _, _, _, .lstO r => .lstO (r.mono e)
  | _, _, _, .dicF h r => .dicF (e _ _ h) (r.mono e)
  | _, _, _, .dicO r => .dicO (r.mono e)
  | _, _, _, .objF h r => .objF (e _ _ h) (r.mono e)
  | _, _, _, .objO r => .objO (r.mono e)
  | _, _, _, .err h r => .err (e _ _ h) (r.mono e)
  | _, _, _, .err0 => .err0
  | _, _, _, .cls => .cls
  | _, _, _, .scr h => .scr (same_l e h)
theorem RepA.mono (e : Same F F') : ∀ {vs : List V} {xs : List Vl} {M : Ow}, RepA K F vs xs M → RepA K F' vs xs M
  | _, _, _, .nil => .nil
  | _, _, _, .cons h r => .cons (h.mono e) (r.mono e)
theorem RepD.mono (e : Same F F') : ∀ {vs : List (Key × V)} {xs : List (Key × Vl)} {M : Ow}, RepD K F vs xs M → RepD K F' vs xs M
  | _, _, _, .nil => .nil
  | _, _, _, .cons h r => .cons (h.mono e) (r.mono e)
theorem RepT.mono (e : Same F F') : ∀ {vs : List (List Int × V)} {xs : List (List Int × Vl)} {M : Ow}, RepT K F vs xs M → RepT K F' vs xs M
  | _, _, _, .nil => .nil
  | _, _, _, .cons h r => .cons (h.mono e) (r.mono e)
end
theorem RepT.len : ∀ {vs : List (List Int × V)} {xs : List (List Int × Vl)} {M : Ow}, RepT K F vs xs M → vs.length = xs.length
  | _, _, _, .nil => rfl
  | _, _, _, .cons _ r => congrArg (· + 1) r.len
theorem RepA.len : ∀ {vs : List V} {xs : List Vl} {M : Ow}, RepA K F vs xs M → vs.length = xs.length
  | _, _, _, .nil => rfl
  | _, _, _, .cons _ r => congrArg (· + 1) r.len
theorem RepD.len : ∀ {vs : List (Key × V)} {xs : List (Key × Vl)} {M : Ow}, RepD K F vs xs M → vs.length = xs.length
  | _, _, _, .nil => rfl
  | _, _, _, .cons _ r => congrArg (· + 1) r.len
mutual
theorem Rep.fz_nil : ∀ {v : V} {x : Vl} {M : Ow}, Rep K F v x M → x.fz = true → M = []
  | _, _, _, .non, _ => rfl
  | _, _, _, .bl, _ => rfl
  | _, _, _, .int, _ => rfl
  | _, _, _, .str, _ => rfl
  | _, _, _, .raw, _ => rfl
  | _, _, _, .tup _ r, h => r.fz_nil (by rw [Vl.fz] at h; exact h)
  | _, _, _, .lstF _ _, _ => rfl
  | _, _, _, .dicF _ _, _ => rfl
  | _, _, _, .objF _ _, _ => rfl
  | _, _, _, .err _ _, _ => rfl
  | _, _, _, .err0, _ => rfl
  | _, _, _, .cls, _ => rfl
  | _, _, _, .scr _, _ => rfl
  | _, _, _, .lstO _, h => by simp [Vl.fz] at h
  | _, _, _, .dicO _, h => by simp [Vl.fz] at h
  | _, _, _, .objO _, h => by simp [Vl.fz] at h
  | _, _, _, .ditF _ _, _ => rfl
  | _, _, _, .dixF _ _ _, _ => rfl
  | _, _, _, .ditO _, h => by simp [Vl.fz] at h
  | _, _, _, .dixO _ _, h => by simp [Vl.fz] at h
  | _, _, _, .adr r, h => r.fz_nil (by rw [Vl.fz] at h; exact h)
theorem RepA.fz_nil : ∀ {vs : List V} {xs : List Vl} {M : Ow}, RepA K F vs xs M → Vl.fzA xs = true → M = []
  | _, _, _, .nil, _ => rfl
  | _, _, _, .cons a r, h => by
    rw [Vl.fzA, Bool.and_eq_true] at h
    rw [a.fz_nil h.1, r.fz_nil h.2]; rfl
end
theorem Hs.iff : Hs F M H ↔ Same F H ∧ (∀ x ∈ M, Hat F H x.1 x.2 ∧ F x.1 = none) ∧ (M.map Prod.fst).Nodup := by
  constructor
  · intro h
    refine ⟨h.fz, fun x hx => ?_, ?_⟩
    · obtain ⟨i, hi⟩ := List.mem_iff_getElem?.mp hx
      exact ⟨h.ow i x.1 x.2 hi, h.fr i x.1 x.2 hi⟩
    · refine List.pairwise_iff_getElem.mpr fun i j hi hj hij e => ?_
      rw [List.length_map] at hi hj
      rw [List.getElem_map, List.getElem_map] at e
      have e1 : M[i]? = some (M[i].1, M[i].2) := List.getElem?_eq_getElem hi
      have e2 : M[j]? = some (M[i].1, M[j].2) := by rw [e]; exact List.getElem?_eq_getElem hj
      have := h.nd i j _ _ _ e1 e2
      omega
  · rintro ⟨h1, h2, h3⟩
    refine ⟨h1, fun i p o e => (h2 _ (List.mem_of_getElem? e)).1, fun i p o e => (h2 _ (List.mem_of_getElem? e)).2, fun i j p o o' e e' => ?_⟩
    have key : ∀ (i j : Nat) o o', i < j → M[i]? = some (p, o) → M[j]? = some (p, o') → False := by
      intro i j o o' hij e e'
      obtain ⟨hi, q⟩ := List.getElem?_eq_some_iff.mp e
      obtain ⟨hj, q'⟩ := List.getElem?_eq_some_iff.mp e'
      have := List.pairwise_iff_getElem.mp h3 i j (by simpa using hi) (by simpa using hj) hij
      rw [List.getElem_map, List.getElem_map, q, q'] at this
      exact this rfl
    rcases Nat.lt_trichotomy i j with z | z | z
    · exact (key i j o o' z e e').elim
    · exact z
    · exact (key j i o' o z e' e).elim
theorem Hs.perm (h : Hs F M H) (p : M.Perm N) : Hs F N H := by
  obtain ⟨h1, h2, h3⟩ := Hs.iff.mp h
  exact Hs.iff.mpr ⟨h1, fun x hx => h2 x (p.mem_iff.mpr hx), (p.map _).nodup_iff.mp h3⟩
theorem Hs.sub (h : Hs F (M ++ N) H) : Hs F N H := Hs.dropA' h
where
  Hs.dropA' (h : Hs F (M ++ N) H) : Hs F N H := by
    obtain ⟨h1, h2, h3⟩ := Hs.iff.mp h
    rw [List.map_append] at h3
    exact Hs.iff.mpr ⟨h1, fun x hx => h2 x (List.mem_append.mpr (.inr hx)), (List.nodup_append.mp h3).2.1⟩
/-- the first one owned: changed -/
theorem Hs.put {p : Addr} {o o' : HO} (h : Hs F ((p, o) :: M) H) (hn : NTb o' := by trivial) : Hs F ((p, o') :: M) (upd H p o') := h.set (j := 0) rfl hn
theorem Hs.get {p : Addr} {o : HO} (h : Hs F ((p, o) :: M) H) (hn : NTb o := by trivial) : H p = some o := h.at (j := 0) rfl hn
theorem Hs.cool {p : Addr} {o : HO} (h : Hs F ((p, o) :: M) H) (hn : NTb o := by trivial) : Hs (upd F p o) M H ∧ Same F (upd F p o) := ⟨by simpa using h.freeze (j := 0) rfl hn, h.same_freeze (j := 0) rfl⟩

mutual
theorem Rep.freeze : ∀ {x : Vl} {v : V} {M R : Ow} {F : Hp}, Rep K F v x M → Hs F (M ++ R) H → ∃ F', Same F F' ∧ Rep K F' v x.frz [] ∧ Hs F' R H
  | .non, _, _, _, F, .non, h => ⟨F, Same.refl F, .non, h⟩
  | .bl _, _, _, _, F, .bl, h => ⟨F, Same.refl F, .bl, h⟩
  | .int _, _, _, _, F, .int, h => ⟨F, Same.refl F, .int, h⟩
  | .str _, _, _, _, F, .str, h => ⟨F, Same.refl F, .str, h⟩
  | .raw _, _, _, _, F, .raw, h => ⟨F, Same.refl F, .raw, h⟩
  | .tup xs, _, _, _, F, .tup hT r, h => by
    obtain ⟨F', e, r', h'⟩ := RepA.freeze r h
    exact ⟨F', e, .tup (e _ _ hT) r', h'⟩
  | .dit false xs, _, _, _, F, .ditF hT r, h => ⟨F, Same.refl F, .ditF hT r, h⟩
  | .dit true xs, _, _, R, F, .ditO (M := M') r, h => by
    obtain ⟨h1, e1⟩ := Hs.cool (M := M' ++ R) h
    obtain ⟨F', e, r', h'⟩ := RepT.freeze (r.mono e1) h1
    exact ⟨F', e1.trans e, .ditF (e _ _ upd_same) r', h'⟩
  | .dix false xs, _, _, _, F, .dixF hT r q, h => ⟨F, Same.refl F, .dixF hT r q, h⟩
  | .dix true xs, _, _, R, F, .dixO r q, h => by
    obtain ⟨h1, e1⟩ := Hs.cool (M := R) h
    exact ⟨_, e1, .dixF upd_same (r.mono e1) q, h1⟩
  | .adr a x, _, _, _, F, .adr r, h => by
    obtain ⟨F', e, r', h'⟩ := Rep.freeze r h
    exact ⟨F', e, .adr r', h'⟩
  | .lst false xs, _, _, _, F, .lstF hT r, h => ⟨F, Same.refl F, .lstF hT r, h⟩
  | .lst true xs, _, _, R, F, .lstO (a := a) (vs := vs) (M := M') r, h => by
    obtain ⟨h1, e1⟩ := Hs.cool (M := M' ++ R) h
    obtain ⟨F', e, r', h'⟩ := RepA.freeze (r.mono e1) h1
    exact ⟨F', e1.trans e, .lstF (e _ _ upd_same) r', h'⟩
  | .dic false xs, _, _, _, F, .dicF hT r, h => ⟨F, Same.refl F, .dicF hT r, h⟩
  | .dic true xs, _, _, R, F, .dicO (M := M') r, h => by
    obtain ⟨h1, e1⟩ := Hs.cool (M := M' ++ R) h
    obtain ⟨F', e, r', h'⟩ := RepD.freeze (r.mono e1) h1
    exact ⟨F', e1.trans e, .dicF (e _ _ upd_same) r', h'⟩
  | .err _ _ _ _ _, _, _, _, F, .err h1 r, h => ⟨F, Same.refl F, .err h1 r, h⟩
  | .scr _, _, _, _, F, .scr h1, h => ⟨F, Same.refl F, .scr h1, h⟩
  | .cls _, _, _, _, F, .cls, h => ⟨F, Same.refl F, .cls, h⟩
  | .err _ _ _ _ _, _, _, _, F, .err0, h => ⟨F, Same.refl F, .err0, h⟩
  | .obj false c xs, _, _, _, F, .objF hT r, h => ⟨F, Same.refl F, .objF hT r, h⟩
  | .obj true c xs, _, _, R, F, .objO (M := M') r, h => by
    obtain ⟨h1, e1⟩ := Hs.cool (M := M' ++ R) h
    obtain ⟨F', e, r', h'⟩ := RepA.freeze (r.mono e1) h1
    exact ⟨F', e1.trans e, .objF (e _ _ upd_same) r', h'⟩
theorem RepA.freeze : ∀ {xs : List Vl} {vs : List V} {M R : Ow} {F : Hp}, RepA K F vs xs M → Hs F (M ++ R) H → ∃ F', Same F F' ∧ RepA K F' vs (Vl.frzA xs) [] ∧ Hs F' R H
  | [], _, _, _, F, .nil, h => ⟨F, Same.refl F, .nil, h⟩
  | x :: xs, _, _, R, F, .cons (M := M) (N := N) a r, h => by
    obtain ⟨F1, e1, a1, h1⟩ := Rep.freeze (R := N ++ R) a (h.perm (by walk_at "prm"))
    obtain ⟨F2, e2, r2, h2⟩ := RepA.freeze (r.mono e1) h1
    exact ⟨F2, e1.trans e2, .cons (a1.mono e2) r2, h2⟩
theorem RepD.freeze : ∀ {xs : List (Key × Vl)} {vs : List (Key × V)} {M R : Ow} {F : Hp}, RepD K F vs xs M → Hs F (M ++ R) H → ∃ F', Same F F' ∧ RepD K F' vs (Vl.frzD xs) [] ∧ Hs F' R H
  | [], _, _, _, F, .nil, h => ⟨F, Same.refl F, .nil, h⟩
  | (k, x) :: xs, _, _, R, F, .cons (M := M) (N := N) a r, h => by
    obtain ⟨F1, e1, a1, h1⟩ := Rep.freeze (R := N ++ R) a (h.perm (by walk_at "prm"))
    obtain ⟨F2, e2, r2, h2⟩ := RepD.freeze (r.mono e1) h1
    exact ⟨F2, e1.trans e2, .cons (a1.mono e2) r2, h2⟩
theorem RepT.freeze : ∀ {xs : List (List Int × Vl)} {vs : List (List Int × V)} {M R : Ow} {F : Hp}, RepT K F vs xs M → Hs F (M ++ R) H → ∃ F', Same F F' ∧ RepT K F' vs (Vl.frzT xs) [] ∧ Hs F' R H
  | [], _, _, _, F, .nil, h => ⟨F, Same.refl F, .nil, h⟩
  | (k, x) :: xs, _, _, R, F, .cons (M := M) (N := N) a r, h => by
    obtain ⟨F1, e1, a1, h1⟩ := Rep.freeze (R := N ++ R) a (h.perm (by walk_at "prm"))
    obtain ⟨F2, e2, r2, h2⟩ := RepT.freeze (r.mono e1) h1
    exact ⟨F2, e1.trans e2, .cons (a1.mono e2) r2, h2⟩
end
end
end Sh


set_option Elab.async false
set_option linter.all false
set_option maxRecDepth 100000
set_option maxHeartbeats 4000000
/-! # States over trees; what a reading over trees must give -/
namespace Sh
open PySem PySem.Spec PyProof.Rows L2
open SX (S)
local macro_rules | `(tactic| walk_at "prm") => `(tactic| (refine List.perm_iff_count.mpr fun x => ?_; simp only [List.count_append, List.count_cons, List.count_nil, List.append_assoc, List.nil_append, List.append_nil] <;> omega))
abbrev Ev := List (Option Vl)
theorem permR {M N R : Ow} (h : M.Perm N) : (M ++ R).Perm (N ++ R) := h.append_right R
inductive EnvR (K : PySem.W.Frag) (F : Hp) : L2.St → Ev → Ow → Prop
  | nil : EnvR K F [] [] []
  | no {s : Option V} {σ : L2.St} {env : Ev} {M : Ow} : EnvR K F σ env M → EnvR K F (s :: σ) (none :: env) M
  | yes {v : V} {x : Vl} {σ : L2.St} {env : Ev} {M N : Ow} : Rep K F v x N → EnvR K F σ env M → EnvR K F (some v :: σ) (some x :: env) (N ++ M)
section
variable {K : PySem.W.Frag} {F F' H : Hp} {M M' N R : Ow} {v : V} {x : Vl} {vs : List V} {xs : List Vl} {σ : L2.St} {env : Ev}
theorem EnvR.mono (e : Same F F') : ∀ {σ : L2.St} {env : Ev} {M : Ow}, EnvR K F σ env M → EnvR K F' σ env M
  | _, _, _, .nil => .nil
  | _, _, _, .no r => .no (r.mono e)
  | _, _, _, .yes h r => .yes (h.mono e) (r.mono e)
theorem EnvR.len : ∀ {σ : L2.St} {env : Ev} {M : Ow}, EnvR K F σ env M → σ.length = env.length
  | _, _, _, .nil => rfl
  | _, _, _, .no r => congrArg (· + 1) r.len
  | _, _, _, .yes _ r => congrArg (· + 1) r.len
/-- the slot i, taken out -/
theorem EnvR.take : ∀ {σ : L2.St} {env : Ev} {M : Ow} {i : Nat} {x : Vl}, EnvR K F σ env M → env[i]? = some (some x) → ∃ v N R, σ[i]? = some (some v) ∧ Rep K F v x N ∧ M.Perm (N ++ R) ∧ EnvR K F σ (env.set i none) R
  | _, _, _, _, _, .nil, h => by simp at h
  | _, _, _, 0, _, .no r, h => by simp at h
  | _, _, _, 0, _, .yes a r, h => by
    simp at h; subst h
    exact ⟨_, _, _, rfl, a, .refl _, .no r⟩
  | _, _, _, i + 1, _, .no r, h => by
    obtain ⟨v, N, R, h1, h2, h3, h4⟩ := r.take (i := i) (by simpa using h)
    exact ⟨v, N, R, by simpa using h1, h2, h3, .no h4⟩
  | _, _, _, i + 1, _, .yes (N := N0) a r, h => by
    obtain ⟨v, N, R, h1, h2, h3, h4⟩ := r.take (i := i) (by simpa using h)
    exact ⟨v, N, N0 ++ R, by simpa using h1, h2, ((List.Perm.refl N0).append h3).trans (by walk_at "prm"), .yes a h4⟩
/-- the slot i, dropped -/
theorem EnvR.drop : ∀ {σ : L2.St} {env : Ev} {M : Ow} {i : Nat}, EnvR K F σ env M → ∃ N R, M.Perm (N ++ R) ∧ EnvR K F σ (env.set i none) R
  | _, _, _, _, .nil => ⟨[], [], .refl _, .nil⟩
  | _, _, _, 0, .no r => ⟨[], _, .refl _, .no r⟩
  | _, _, _, 0, .yes a r => ⟨_, _, .refl _, .no r⟩
  | _, _, _, i + 1, .no r => by
    obtain ⟨N, R, h3, h4⟩ := r.drop (i := i)
    exact ⟨N, R, h3, .no h4⟩
  | _, _, _, i + 1, .yes (N := N0) a r => by
    obtain ⟨N, R, h3, h4⟩ := r.drop (i := i)
    exact ⟨N, N0 ++ R, ((List.Perm.refl N0).append h3).trans (by walk_at "prm"), .yes a h4⟩
/-- an empty slot: filled -/
theorem EnvR.put : ∀ {σ : L2.St} {env : Ev} {M N : Ow} {i : Nat} {v : V} {x : Vl}, EnvR K F σ env M → σ[i]? = some (some v) → env[i]? = some none → Rep K F v x N → ∃ M', EnvR K F σ (env.set i (some x)) M' ∧ M'.Perm (N ++ M)
  | _, _, _, _, _, _, _, .nil, h, _, _ => by simp at h
  | _, _, _, _, 0, _, _, .no r, h, _, a => by
    simp at h; subst h
    exact ⟨_, .yes a r, .refl _⟩
  | _, _, _, _, 0, _, _, .yes _ r, _, h, _ => by simp at h
  | _, _, _, _, i + 1, _, _, .no r, h, h', a => by
    obtain ⟨M', h1, h2⟩ := r.put (i := i) (by simpa using h) (by simpa using h') a
    exact ⟨M', .no h1, h2⟩
  | _, _, _, N, i + 1, _, _, .yes (N := N0) b r, h, h', a => by
    obtain ⟨M', h1, h2⟩ := r.put (i := i) (by simpa using h) (by simpa using h') a
    exact ⟨N0 ++ M', .yes b h1, ((List.Perm.refl N0).append h2).trans (by walk_at "prm")⟩
/-- an empty slot may hold anything -/
theorem EnvR.any : ∀ {σ : L2.St} {env : Ev} {M : Ow} {i : Nat} {s : Option V}, EnvR K F σ env M → (env[i]? = some none ∨ env[i]? = none) → EnvR K F (σ.set i s) env M
  | _, _, _, _, _, .nil, _ => .nil
  | _, _, _, 0, _, .no r, _ => .no r
  | _, _, _, 0, _, .yes a r, h => by simp at h
  | _, _, _, i + 1, _, .no r, h => .no (r.any (by simpa using h))
  | _, _, _, i + 1, _, .yes a r, h => .yes a (r.any (by simpa using h))
theorem set_none_get {i : Nat} : (env.set i none)[i]? = some none ∨ (env.set i none)[i]? = none := by
  by_cases h : i < env.length
  · exact .inl (List.getElem?_set_self h)
  · exact .inr (List.getElem?_eq_none (by rw [List.length_set]; omega))
theorem EnvR.asg (r : EnvR K F σ env M) (a : Rep K F v x N) {i : Nat} : ∃ M' R, EnvR K F (σ.set i (some v)) (env.set i (some x)) M' ∧ (N ++ M).Perm (R ++ M') := by
  obtain ⟨N1, R1, h1, h2⟩ := r.drop (i := i)
  have h3 := h2.any (s := some v) set_none_get
  by_cases hi : i < env.length
  · obtain ⟨M', h4, h5⟩ := h3.put (i := i) (v := v) (List.getElem?_set_self (by rw [r.len]; exact hi)) (List.getElem?_set_self hi) a
    rw [List.set_set] at h4
    refine ⟨M', N1, h4, ?_⟩
    exact ((List.Perm.refl N).append h1).trans ((show (N ++ (N1 ++ R1)).Perm (N1 ++ (N ++ R1)) by walk_at "prm").trans ((List.Perm.refl N1).append h5.symm))
  · have hl := r.len
    rw [List.set_eq_of_length_le (by omega : env.length ≤ i), List.set_eq_of_length_le (by omega : σ.length ≤ i)] at h3
    rw [List.set_eq_of_length_le (by omega : env.length ≤ i), List.set_eq_of_length_le (by omega : σ.length ≤ i)]
    exact ⟨R1, N ++ N1, h3, ((List.Perm.refl N).append h1).trans (by walk_at "prm")⟩
theorem RepA.app : ∀ {vs ws : List V} {xs ys : List Vl} {M N : Ow}, RepA K F vs xs M → RepA K F ws ys N → RepA K F (vs ++ ws) (xs ++ ys) (M ++ N)
  | _, _, _, _, _, _, .nil, h => h
  | _, _, _, _, _, N, .cons (M := M0) (N := N0) a r, h => by
    rw [List.append_assoc]
    exact .cons a (r.app h)
theorem RepA.get : ∀ {vs : List V} {xs : List Vl} {M : Ow} {i : Nat} {x : Vl}, RepA K F vs xs M → xs[i]? = some x → ∃ v N R, vs[i]? = some v ∧ Rep K F v x N ∧ M.Perm (N ++ R)
  | _, _, _, _, _, .nil, h => by simp at h
  | _, _, _, 0, _, .cons a r, h => by
    simp at h; subst h
    exact ⟨_, _, _, rfl, a, .refl _⟩
  | _, _, _, i + 1, _, .cons (M := N0) a r, h => by
    obtain ⟨v, N, R, h1, h2, h3⟩ := r.get (i := i) (by simpa using h)
    exact ⟨v, N, N0 ++ R, by simpa using h1, h2, ((List.Perm.refl N0).append h3).trans (by walk_at "prm")⟩
/-- an item is changed: what it owned goes, what the new one owns comes -/
theorem RepA.set : ∀ {vs : List V} {xs : List Vl} {M N : Ow} {i : Nat} {v : V} {x : Vl}, RepA K F vs xs M → Rep K F v x N → i < xs.length → ∃ M' R, RepA K F (vs.set i v) (xs.set i x) M' ∧ (N ++ M).Perm (R ++ M')
  | _, _, _, _, _, _, _, .nil, _, h => by simp at h
  | _, _, _, N, 0, _, _, .cons (M := M0) (N := N0) a r, b, h => ⟨_, M0, .cons b r, by walk_at "prm"⟩
  | _, _, _, N, i + 1, _, _, .cons (M := M0) (N := N0) a r, b, h => by
    obtain ⟨M', R, h1, h2⟩ := r.set (i := i) b (by simpa using h)
    exact ⟨M0 ++ M', R, .cons a h1, (show (N ++ (M0 ++ N0)).Perm (M0 ++ (N ++ N0)) by walk_at "prm").trans (((List.Perm.refl M0).append h2).trans (by walk_at "prm"))⟩
/-- an item, and what may come in its place -/
theorem RepA.at : ∀ {vs : List V} {xs : List Vl} {M : Ow} {i : Nat} {x : Vl}, RepA K F vs xs M → xs[i]? = some x → ∃ v N R, vs[i]? = some v ∧ Rep K F v x N ∧ M.Perm (N ++ R) ∧ ∀ F' x' N', Same F F' → Rep K F' v x' N' → ∃ M', RepA K F' vs (xs.set i x') M' ∧ M'.Perm (N' ++ R)
  | _, _, _, _, _, .nil, h => by simp at h
  | _, _, _, 0, _, .cons a r, h => by
    simp at h; subst h
    exact ⟨_, _, _, rfl, a, .refl _, fun F' x' N' e b => ⟨_, .cons b (r.mono e), .refl _⟩⟩
  | _, _, _, i + 1, _, .cons (M := N0) a r, h => by
    obtain ⟨v, N, R, h1, h2, h3, h4⟩ := r.at (i := i) (by simpa using h)
    refine ⟨v, N, N0 ++ R, by simpa using h1, h2, ((List.Perm.refl N0).append h3).trans (by walk_at "prm"), fun F' x' N' e b => ?_⟩
    obtain ⟨M', h5, h6⟩ := h4 F' x' N' e b
    exact ⟨N0 ++ M', .cons (a.mono e) h5, ((List.Perm.refl N0).append h6).trans (by walk_at "prm")⟩
end
def PinOk (pv : List (Option V)) (σ : L2.St) : Prop := ∀ (i : Nat) (v : V), pv[i]? = some (some v) → σ[i]? = some (some v)
theorem PinOk.set {pv : List (Option V)} {σ : L2.St} {i : Nat} {s : Option V} (h : PinOk pv σ) (hi : pv[i]? = some none ∨ pv[i]? = none) : PinOk pv (σ.set i s) := fun j v e => by
  have : j ≠ i := fun z => by subst z; rcases hi with hi | hi <;> rw [hi] at e <;> cases e
  rw [List.getElem?_set_ne (Ne.symm this)]; exact h j v e
/-- the state: what was frozen, the pins, the slots, what stands aside, what is the callers' -/
def Stt (K : PySem.W.Frag) (F0 : Hp) (pv : List (Option V)) (σ : L2.St) (env : Ev) (vs : List V) (xs : List Vl) (Mf : Ow) (H : Hp) : Prop :=
  ∃ F N M, Same F0 F ∧ PinOk pv σ ∧ RepA K F vs xs N ∧ EnvR K F σ env M ∧ Hs F (N ++ (M ++ Mf)) H
/-- borrowed -/
def Bor (K : PySem.W.Frag) (F : Hp) (M : Ow) (v : V) (x : Vl) : Prop := ∃ N R, Rep K F v x N ∧ M.Perm (N ++ R)
def EnvB (K : PySem.W.Frag) (F : Hp) (M : Ow) (σ : L2.St) (env : Ev) : Prop := ∀ (i : Nat) (x : Vl), env[i]? = some (some x) → ∃ v, σ[i]? = some (some v) ∧ Bor K F M v x
def BorA (K : PySem.W.Frag) (F : Hp) (M : Ow) : List V → List Vl → Prop
  | [], [] => True
  | v :: vs, x :: xs => Bor K F M v x ∧ BorA K F M vs xs
  | _, _ => False
section
variable {K : PySem.W.Frag} {F F' F0 H : Hp} {M M' N R Mf : Ow} {v : V} {x : Vl} {vs ws : List V} {xs ys : List Vl} {σ : L2.St} {env : Ev} {pv : List (Option V)}
theorem Bor.mono (e : Same F F') (h : Bor K F M v x) : Bor K F' M v x := let ⟨N, R, h1, h2⟩ := h; ⟨N, R, h1.mono e, h2⟩
theorem Bor.perm (p : M.Perm M') (h : Bor K F M v x) : Bor K F M' v x := let ⟨N, R, h1, h2⟩ := h; ⟨N, R, h1, p.symm.trans h2⟩
theorem Bor.of (h : Rep K F v x []) : Bor K F M v x := ⟨[], M, h, .refl _⟩
theorem Bor.rep (h : Bor K F M v x) (z : x.fz = true) : Rep K F v x [] := by
  obtain ⟨N, R, h1, h2⟩ := h
  have := h1.fz_nil z
  subst this; exact h1
theorem BorA.mono (e : Same F F') : ∀ {vs : List V} {xs : List Vl}, BorA K F M vs xs → BorA K F' M vs xs
  | [], [], _ => trivial
  | _ :: _, _ :: _, h => ⟨h.1.mono e, BorA.mono e h.2⟩
  | [], _ :: _, h => h.elim
  | _ :: _, [], h => h.elim
theorem EnvB.mono (e : Same F F') (h : EnvB K F M σ env) : EnvB K F' M σ env := fun i x hi => let ⟨v, h1, h2⟩ := h i x hi; ⟨v, h1, h2.mono e⟩
theorem EnvB.of (h : EnvR K F σ env M) (p : M'.Perm (M ++ R)) : EnvB K F M' σ env := fun i x hi => by
  obtain ⟨v, N, R1, h1, h2, h3, _⟩ := h.take hi
  exact ⟨v, h1, N, R1 ++ R, h2, p.trans ((h3.append_right R).trans (by walk_at "prm"))⟩
theorem Stt.pull (h : Stt K F0 pv σ env (v :: vs) (x :: xs) Mf H) : ∃ F N, Same F0 F ∧ Rep K F v x N ∧ Stt K F pv σ env vs xs (N ++ Mf) H := by
  obtain ⟨F, N, M, e, hp, ha, he, hs⟩ := h
  cases ha with
  | cons a r => exact ⟨F, _, e, a, F, _, M, Same.refl F, hp, r, he, hs.perm (by walk_at "prm")⟩
theorem Stt.pullA (h : Stt K F0 pv σ env vs xs Mf H) : ∃ F N, Same F0 F ∧ RepA K F vs xs N ∧ Stt K F pv σ env [] [] (N ++ Mf) H := by
  obtain ⟨F, N, M, e, hp, ha, he, hs⟩ := h
  exact ⟨F, N, e, ha, F, [], M, Same.refl F, hp, .nil, he, hs.perm (by walk_at "prm")⟩
theorem Stt.pushA (e : Same F0 F) (a : RepA K F vs xs N) (h : Stt K F pv σ env ws ys (N ++ Mf) H) : Stt K F0 pv σ env (vs ++ ws) (xs ++ ys) Mf H := by
  obtain ⟨F1, N1, M, e1, hp, ha, he, hs⟩ := h
  exact ⟨F1, N ++ N1, M, e.trans e1, hp, (a.mono e1).app ha, he, hs.perm (by walk_at "prm")⟩
theorem Stt.push (e : Same F0 F) (a : Rep K F v x N) (h : Stt K F pv σ env ws ys (N ++ Mf) H) : Stt K F0 pv σ env (v :: ws) (x :: ys) Mf H := by
  have : RepA K F [v] [x] N := by
    have := RepA.cons a RepA.nil
    rw [List.append_nil] at this; exact this
  exact Stt.pushA e this h
theorem Stt.base (e : Same F0 F) (h : Stt K F pv σ env vs xs Mf H) : Stt K F0 pv σ env vs xs Mf H := by
  obtain ⟨F1, N1, M, e1, r⟩ := h
  exact ⟨F1, N1, M, e.trans e1, r⟩
theorem Stt.dropV (h : Stt K F0 pv σ env vs xs Mf H) : Stt K F0 pv σ env [] [] Mf H := by
  obtain ⟨F, N, M, e, hp, ha, he, hs⟩ := h
  exact ⟨F, [], M, e, hp, .nil, he, hs.sub⟩
theorem Stt.asg {i : Nat} (h : Stt K F0 pv σ env [v] [x] Mf H) (hi : pv[i]? = some none ∨ pv[i]? = none) : Stt K F0 pv (σ.set i (some v)) (env.set i (some x)) [] [] Mf H := by
  obtain ⟨F, N, M, e, hp, ha, he, hs⟩ := h
  cases ha with
  | cons a r =>
    cases r
    obtain ⟨M', R, h1, h2⟩ := he.asg (i := i) a
    refine ⟨F, [], M', e, hp.set hi, .nil, h1, Hs.sub (M := R) (hs.perm ?_)⟩
    exact (show _ from by
      have := h2.append_right Mf
      rw [List.append_nil]
      refine (List.Perm.trans ?_ this).trans ?_ <;> walk_at "prm")
/-- a borrowing read, then the state goes on -/
theorem Stt.bor (h : Stt K F0 pv σ env vs xs Mf H) : ∃ F M, Same F0 F ∧ EnvB K F M σ env ∧ Hs F M H ∧ BorA K F M vs xs ∧ ∀ F' H', Same F F' → Hs F' M H' → Stt K F pv σ env vs xs Mf H' ∧ (∀ v x, Rep K F' v x [] → Stt K F0 pv σ env (v :: vs) (x :: xs) Mf H') := by
  obtain ⟨F, N, M, e, hp, ha, he, hs⟩ := h
  refine ⟨F, N ++ (M ++ Mf), e, EnvB.of he (R := N ++ Mf) (by walk_at "prm"), hs, ?_, fun F' H' e' hs' => ⟨⟨F', N, M, e', hp, ha.mono e', he.mono e', hs'⟩, fun v x r => ⟨F', N, M, e.trans e', hp, .cons r (ha.mono e'), he.mono e', hs'⟩⟩⟩
  have : ∀ {vs : List V} {xs : List Vl} {N R : Ow}, RepA K F vs xs N → BorA K F (N ++ R) vs xs := by
    intro vs
    induction vs with
    | nil => intro xs N R h; cases h; trivial
    | cons v vs ih =>
      intro xs N R h
      cases h with
      | cons a r =>
        rename_i M1 N1
        refine ⟨⟨M1, N1 ++ R, a, by walk_at "prm"⟩, ?_⟩
        have := ih (R := M1 ++ R) r
        have pm : (N1 ++ (M1 ++ R)).Perm (M1 ++ N1 ++ R) := by walk_at "prm"
        have conv : ∀ {ws : List V} {ys : List Vl} {A B : Ow}, A.Perm B → BorA K F A ws ys → BorA K F B ws ys := by
          intro ws
          induction ws with
          | nil => intro ys A B _ h; cases ys with
            | nil => trivial
            | cons _ _ => exact h.elim
          | cons w ws ih => intro ys A B p h; cases ys with
            | nil => exact h.elim
            | cons y ys => exact ⟨h.1.perm p, ih p h.2⟩
        exact conv pm this
  exact this ha
end
end Sh


set_option Elab.async false
set_option linter.all false
set_option maxRecDepth 100000
set_option maxHeartbeats 4000000
/-! # Borrowing reads over trees -/
namespace Sh
open PySem PySem.Spec PyProof.Rows L2
open SX (S)
local macro_rules | `(tactic| walk_at "prm") => `(tactic| (refine List.perm_iff_count.mpr fun x => ?_; simp only [List.count_append, List.count_cons, List.count_nil, List.append_assoc, List.nil_append, List.append_nil] <;> omega))
abbrev WB := Ev → (Vl → Prop) → Prop
abbrev WBT := Ev → (Bool → Prop) → Prop
abbrev WBA := Ev → (List Vl → Prop) → Prop
abbrev W1 := Vl → (Vl → Prop) → Prop
abbrev W2 := Vl → Vl → (Vl → Prop) → Prop
abbrev WN := List Vl → (Vl → Prop) → Prop
structure SB (K : PySem.W.Frag) (te : TE) (β : WB) : Prop where
  run : ∀ F M σ env H P Q, EnvB K F M σ env → Hs F M H → β env P → (∀ F' H' v x, Same F F' → Hs F' M H' → Bor K F' M v x → P x → Q v H') → te σ H Q
structure SBT (K : PySem.W.Frag) (tt : TT) (β : WBT) : Prop where
  run : ∀ F M σ env H P Q, EnvB K F M σ env → Hs F M H → β env P → (∀ F' H' b, Same F F' → Hs F' M H' → P b → Q b H') → tt σ H Q
structure SBA (K : PySem.W.Frag) (ta : TA) (β : WBA) : Prop where
  run : ∀ F M σ env H P Q, EnvB K F M σ env → Hs F M H → β env P → (∀ F' H' vs xs, Same F F' → Hs F' M H' → BorA K F' M vs xs → P xs → Q vs H') → ta σ H Q
structure SR1 (K : PySem.W.Frag) (r : V → Hp → VK → Prop) (ρ : W1) : Prop where
  run : ∀ F M H v x P Q, Hs F M H → Bor K F M v x → ρ x P → (∀ F' H' u z, Same F F' → Hs F' M H' → Bor K F' M u z → P z → Q u H') → r v H Q
structure SR2 (K : PySem.W.Frag) (r : R2) (ρ : W2) : Prop where
  run : ∀ F M H v x w y P Q, Hs F M H → Bor K F M v x → Bor K F M w y → ρ x y P → (∀ F' H' u z, Same F F' → Hs F' M H' → Bor K F' M u z → P z → Q u H') → r v w H Q
structure SRN (K : PySem.W.Frag) (r : List V → Hp → VK → Prop) (ρ : WN) : Prop where
  run : ∀ F M H vs xs P Q, Hs F M H → BorA K F M vs xs → ρ xs P → (∀ F' H' u z, Same F F' → Hs F' M H' → Bor K F' M u z → P z → Q u H') → r vs H Q
section
variable {K : PySem.W.Frag} {F F' F0 H : Hp} {M M' N R Mf : Ow} {v w : V} {x : Vl} {vs ws : List V} {xs ys : List Vl} {σ : L2.St} {env : Ev} {a b c d : WB} {ta tb tc td te : TE} {tt tu : TT} {τ υ : WBT} {i j : Nat}
/-! shapes of what is borrowed -/
theorem Bor.non (h : Bor K F M v .non) : v = .non := by obtain ⟨_, _, h, _⟩ := h; cases h; rfl
theorem Bor.bl {b : Bool} (h : Bor K F M v (.bl b)) : v = .bl b := by obtain ⟨_, _, h, _⟩ := h; cases h; rfl
theorem Bor.int {i : Int} (h : Bor K F M v (.int i)) : v = .int i := by obtain ⟨_, _, h, _⟩ := h; cases h; rfl
theorem Bor.str {i : Str} (h : Bor K F M v (.str i)) : v = .str i := by obtain ⟨_, _, h, _⟩ := h; cases h; rfl
theorem Bor.raw {u : V} (h : Bor K F M v (.raw u)) : v = u := by obtain ⟨_, _, h, _⟩ := h; cases h; rfl
theorem BorA.of : ∀ {vs : List V} {xs : List Vl} {N R : Ow}, RepA K F vs xs N → M.Perm (N ++ R) → BorA K F M vs xs
  | _, _, _, _, .nil, _ => trivial
  | _, _, _, R, .cons (M := M1) (N := N1) a r, p => ⟨⟨M1, N1 ++ R, a, p.trans (by walk_at "prm")⟩, BorA.of (R := M1 ++ R) r (p.trans (by walk_at "prm"))⟩
theorem BorA.len : ∀ {vs : List V} {xs : List Vl}, BorA K F M vs xs → vs.length = xs.length
  | [], [], _ => rfl
  | _ :: _, _ :: _, h => congrArg (· + 1) (BorA.len h.2)
  | [], _ :: _, h => h.elim
  | _ :: _, [], h => h.elim
theorem BorA.at : ∀ {vs : List V} {xs : List Vl} {i : Nat} {x : Vl}, BorA K F M vs xs → xs[i]? = some x → ∃ v, vs[i]? = some v ∧ Bor K F M v x
  | [], [], _, _, _, h => by simp at h
  | _ :: _, _ :: _, 0, _, h, e => by simp at e; subst e; exact ⟨_, rfl, h.1⟩
  | _ :: _, _ :: _, i + 1, _, h, e => by
    obtain ⟨v, h1, h2⟩ := BorA.at (i := i) h.2 (by simpa using e)
    exact ⟨v, by simpa using h1, h2⟩
  | [], _ :: _, _, _, h, _ => h.elim
  | _ :: _, [], _, _, h, _ => h.elim
theorem BorA.fz : ∀ {vs : List V} {xs : List Vl}, BorA K F M vs xs → Vl.fzA xs = true → RepA K F vs xs []
  | [], [], _, _ => .nil
  | _ :: _, _ :: _, h, z => by
    rw [Vl.fzA, Bool.and_eq_true] at z
    exact .cons (M := []) (N := []) (h.1.rep z.1) (BorA.fz h.2 z.2)
  | [], _ :: _, h, _ => h.elim
  | _ :: _, [], h, _ => h.elim
theorem Bor.tup (h : Bor K F M v (.tup xs)) : ∃ a vs, v = .ref a ∧ SqT K F a vs ∧ BorA K F M vs xs := by
  obtain ⟨N, R, h, p⟩ := h
  cases h with | tup h r => exact ⟨_, _, rfl, sqT h, .of r p⟩
theorem Bor.tupX (h : Bor K F M v (.tup xs)) : ∃ a vs, v = .ref a ∧ F a = some (.tup vs) ∧ BorA K F M vs xs := by
  obtain ⟨N, R, h, p⟩ := h
  cases h with | tup h r => exact ⟨_, _, rfl, h, .of r p⟩
theorem Bor.lst {o : Bool} (hs : Hs F M H) (h : Bor K F M v (.lst o xs)) : ∃ a vs, v = .ref a ∧ H a = some (.lst vs) ∧ BorA K F M vs xs := by
  obtain ⟨N, R, h, p⟩ := h
  cases h with
  | lstF h r => exact ⟨_, _, rfl, hs.f h, .of r p⟩
  | lstO r =>
    rename_i a vs M0
    refine ⟨_, _, rfl, (Hs.perm hs p).get (M := M0 ++ R), .of (N := M0) (R := (a, HO.lst vs) :: R) r (p.trans (by walk_at "prm"))⟩
theorem Bor.obj {o : Bool} {cn : Cn} (hs : Hs F M H) (h : Bor K F M v (.obj o cn xs)) : ∃ a dx vs, v = .ref a ∧ H a = some (Ob (He.ga K cn.nm) dx cn.ns vs) ∧ BorA K F M vs xs := by
  obtain ⟨N, R, h, p⟩ := h
  cases h with
  | objF h r => exact ⟨_, _, _, rfl, hs.f h, .of r p⟩
  | objO r =>
    rename_i a dx vs M0
    refine ⟨_, _, _, rfl, (Hs.perm hs p).get (M := M0 ++ R), .of (N := M0) (R := (a, Ob (He.ga K cn.nm) dx cn.ns vs) :: R) r (p.trans (by walk_at "prm"))⟩
theorem EnvB.same (h : EnvB K F M σ env) (e : Same F F') : EnvB K F' M σ env := h.mono e
/-! reads -/
def bVar (i : Nat) : WB := fun env P => ∃ x, env[i]? = some (some x) ∧ P x
theorem sb_var : SB K (tVar i) (bVar i) := ⟨fun F M σ env H P Q he hs ⟨x, hx, hp⟩ k => by
  obtain ⟨v, h1, h2⟩ := he i x hx
  exact ⟨v, h1, k F H v x (Same.refl F) hs h2 hp⟩⟩
def bC (x : Vl) : WB := fun _ P => P x
theorem sb_c (h : ∀ F, Rep K F v x []) : SB K (tC v) (bC x) := ⟨fun F M σ env H P Q he hs hp k => k F H v x (Same.refl F) hs (.of (h F)) hp⟩
theorem sb_int {n : Int} : SB K (tC (.int n)) (bC (.int n)) := sb_c fun _ => .int
theorem sb_str {n : Str} : SB K (tC (.str n)) (bC (.str n)) := sb_c fun _ => .str
theorem sb_bl {n : Bool} : SB K (tC (.bl n)) (bC (.bl n)) := sb_c fun _ => .bl
theorem sb_non : SB K (tC .non) (bC .non) := sb_c fun _ => .non
theorem sb_raw : SB K (tC v) (bC (.raw v)) := sb_c fun _ => .raw
def bOp (ρ : W2) (a b : WB) : WB := fun env P => a env fun x => b env fun y => ρ x y P
theorem sb_op {r : R2} {ρ : W2} (hr : SR2 K r ρ) (ha : SB K ta a) (hb : SB K tb b) : SB K (tOp r ta tb) (bOp ρ a b) := ⟨fun F M σ env H P Q he hs h k =>
  ha.run F M σ env H _ _ he hs h fun F1 H1 v x e1 hs1 b1 h1 => hb.run F1 M σ env H1 _ _ (he.mono e1) hs1 h1 fun F2 H2 w y e2 hs2 b2 h2 =>
    hr.run F2 M H2 v x w y P Q hs2 (b1.mono e2) b2 h2 fun F3 H3 u z e3 hs3 b3 h3 => k F3 H3 u z (e1.trans (e2.trans e3)) hs3 b3 h3⟩
def bUn (ρ : W1) (a : WB) : WB := fun env P => a env fun x => ρ x P
theorem sb_un {r : V → Hp → VK → Prop} {ρ : W1} (hr : SR1 K r ρ) (ha : SB K ta a) : SB K (tUn r ta) (bUn ρ a) := ⟨fun F M σ env H P Q he hs h k =>
  ha.run F M σ env H _ _ he hs h fun F1 H1 v x e1 hs1 b1 h1 => hr.run F1 M H1 v x P Q hs1 b1 h1 fun F3 H3 u z e3 hs3 b3 h3 => k F3 H3 u z (e1.trans e3) hs3 b3 h3⟩
def bNil : WBA := fun _ P => P []
def bCons (a : WB) (as : WBA) : WBA := fun env P => a env fun x => as env fun xs => P (x :: xs)
theorem sb_nil : SBA K tNil bNil := ⟨fun F M σ env H P Q he hs h k => k F H [] [] (Same.refl F) hs trivial h⟩
theorem sb_cons {tas : TA} {as : WBA} (ha : SB K ta a) (hr : SBA K tas as) : SBA K (tCons ta tas) (bCons a as) := ⟨fun F M σ env H P Q he hs h k =>
  ha.run F M σ env H _ _ he hs h fun F1 H1 v x e1 hs1 b1 h1 => hr.run F1 M σ env H1 _ _ (he.mono e1) hs1 h1 fun F2 H2 vs xs e2 hs2 b2 h2 => k F2 H2 (v :: vs) (x :: xs) (e1.trans e2) hs2 ⟨b1.mono e2, b2⟩ h2⟩
def bCB (ρ : WN) (as : WBA) : WB := fun env P => as env fun xs => ρ xs P
theorem sb_cb {r : List V → Hp → VK → Prop} {ρ : WN} {tas : TA} {as : WBA} (hr : SRN K r ρ) (ha : SBA K tas as) : SB K (tCB r tas) (bCB ρ as) := ⟨fun F M σ env H P Q he hs h k =>
  ha.run F M σ env H _ _ he hs h fun F1 H1 v x e1 hs1 b1 h1 => hr.run F1 M H1 v x P Q hs1 b1 h1 fun F3 H3 u z e3 hs3 b3 h3 => k F3 H3 u z (e1.trans e3) hs3 b3 h3⟩
/-- a new tuple of what is frozen -/
def wTup : WN := fun xs P => Vl.fzA xs = true ∧ xs.length ≤ 16777216 ∧ P (.tup xs)
def bTup (as : WBA) : WB := fun env P => as env fun xs => wTup xs P
theorem sb_tup {tas : TA} {as : WBA} (ha : SBA K tas as) : SB K (tTup tas) (bTup as) := ⟨fun F M σ env H P Q he hs h k =>
  ha.run F M σ env H _ _ he hs h fun F1 H1 vs xs e1 hs1 b1 ⟨h1, h2, h3⟩ => ⟨sz (by rw [b1.len]; exact h2), fun p hp => by
    have e2 : Same F1 (upd F1 p (.tup vs)) := same_upd (hs1.free hp)
    exact k _ _ _ _ (e1.trans e2) (hs1.newF hp) (.of (.tup upd_same ((BorA.fz b1 h1).mono e2))) h3⟩⟩
/-! tests -/
def wBl : Vl → (Bool → Prop) → Prop := fun x P => ∃ c, x = .bl c ∧ P c
def bTest (a : WB) : WBT := fun env P => a env fun x => wBl x P
theorem sb_test (ha : SB K ta a) : SBT K (tTest ta) (bTest a) := ⟨fun F M σ env H P Q he hs h k =>
  ha.run F M σ env H _ _ he hs h fun F1 H1 v x e1 hs1 b1 ⟨c, e, h1⟩ => by subst e; exact ⟨c, b1.bl, k F1 H1 c e1 hs1 h1⟩⟩
theorem sb_b (ha : SB K ta a) : SBT K (tB ta) (bTest a) := ⟨fun F M σ env H P Q he hs h k =>
  ha.run F M σ env H _ _ he hs h fun F1 H1 v x e1 hs1 b1 ⟨c, e, h1⟩ => by subst e; exact ⟨c, b1.bl, k F1 H1 c e1 hs1 h1⟩⟩
def bAnd (τ υ : WBT) : WBT := fun env P => τ env fun c => if c = true then υ env P else P false
theorem sb_and (h1 : SBT K tt τ) (h2 : SBT K tu υ) : SBT K (tAnd tt tu) (bAnd τ υ) := ⟨fun F M σ env H P Q he hs h k =>
  h1.run F M σ env H _ _ he hs h fun F1 H1 b e1 hs1 h3 => by
    cases b with
    | true => rw [if_pos rfl] at h3 ⊢; exact h2.run F1 M σ env H1 P Q (he.mono e1) hs1 h3 fun F2 H2 b e2 => k F2 H2 b (e1.trans e2)
    | false => rw [if_neg Bool.false_ne_true] at h3 ⊢; exact k F1 H1 false e1 hs1 h3⟩
def bOr (τ υ : WBT) : WBT := fun env P => τ env fun c => if c = true then P true else υ env P
theorem sb_or (h1 : SBT K tt τ) (h2 : SBT K tu υ) : SBT K (tOr tt tu) (bOr τ υ) := ⟨fun F M σ env H P Q he hs h k =>
  h1.run F M σ env H _ _ he hs h fun F1 H1 b e1 hs1 h3 => by
    cases b with
    | false => rw [if_neg Bool.false_ne_true] at h3 ⊢; exact h2.run F1 M σ env H1 P Q (he.mono e1) hs1 h3 fun F2 H2 b e2 => k F2 H2 b (e1.trans e2)
    | true => rw [if_pos rfl] at h3 ⊢; exact k F1 H1 true e1 hs1 h3⟩
def bNot (τ : WBT) : WBT := fun env P => τ env fun c => P (!c)
theorem sb_not (h1 : SBT K tt τ) : SBT K (tNot tt) (bNot τ) := ⟨fun F M σ env H P Q he hs h k => h1.run F M σ env H _ _ he hs h fun F1 H1 b e1 hs1 h3 => k F1 H1 (!b) e1 hs1 h3⟩
def bIf (τ : WBT) (a b : WB) : WB := fun env P => τ env fun c => if c = true then a env P else b env P
theorem sb_if (h1 : SBT K tt τ) (ha : SB K ta a) (hb : SB K tb b) : SB K (tIf tt ta tb) (bIf τ a b) := ⟨fun F M σ env H P Q he hs h k =>
  h1.run F M σ env H _ _ he hs h fun F1 H1 c e1 hs1 h3 => by
    cases c with
    | true => rw [if_pos rfl] at h3 ⊢; exact ha.run F1 M σ env H1 P Q (he.mono e1) hs1 h3 fun F2 H2 v x e2 => k F2 H2 v x (e1.trans e2)
    | false => rw [if_neg Bool.false_ne_true] at h3 ⊢; exact hb.run F1 M σ env H1 P Q (he.mono e1) hs1 h3 fun F2 H2 v x e2 => k F2 H2 v x (e1.trans e2)⟩
def bAndV (a b : WB) : WB := fun env P => a env fun x => wBl x fun c => if c = true then b env P else P (.bl false)
theorem sb_andV (ha : SB K ta a) (hb : SB K tb b) : SB K (tAndV ta tb) (bAndV a b) := ⟨fun F M σ env H P Q he hs h k =>
  ha.run F M σ env H _ _ he hs h fun F1 H1 v x e1 hs1 b1 ⟨c, e, h1⟩ => by
    subst e
    refine ⟨c, b1.bl, ?_⟩
    cases c with
    | true => rw [if_pos rfl] at h1 ⊢; exact hb.run F1 M σ env H1 P Q (he.mono e1) hs1 h1 fun F2 H2 v x e2 => k F2 H2 v x (e1.trans e2)
    | false => rw [if_neg Bool.false_ne_true] at h1 ⊢; exact k F1 H1 _ _ e1 hs1 (.of .bl) h1⟩
def bOrV (a b : WB) : WB := fun env P => a env fun x => wBl x fun c => if c = true then P (.bl true) else b env P
theorem sb_orV (ha : SB K ta a) (hb : SB K tb b) : SB K (tOrV ta tb) (bOrV a b) := ⟨fun F M σ env H P Q he hs h k =>
  ha.run F M σ env H _ _ he hs h fun F1 H1 v x e1 hs1 b1 ⟨c, e, h1⟩ => by
    subst e
    refine ⟨c, b1.bl, ?_⟩
    cases c with
    | false => rw [if_neg Bool.false_ne_true] at h1 ⊢; exact hb.run F1 M σ env H1 P Q (he.mono e1) hs1 h1 fun F2 H2 v x e2 => k F2 H2 v x (e1.trans e2)
    | true => rw [if_pos rfl] at h1 ⊢; exact k F1 H1 _ _ e1 hs1 (.of .bl) h1⟩
def bNotV (a : WB) : WB := fun env P => a env fun x => wBl x fun c => P (.bl (!c))
theorem sb_notV (ha : SB K ta a) : SB K (tNotV ta) (bNotV a) := ⟨fun F M σ env H P Q he hs h k =>
  ha.run F M σ env H _ _ he hs h fun F1 H1 v x e1 hs1 b1 ⟨c, e, h1⟩ => by subst e; exact ⟨c, b1.bl, k F1 H1 _ _ e1 hs1 (.of .bl) h1⟩⟩
/-- truth -/
def wTru : Vl → (Bool → Prop) → Prop := fun x P => match x with
  | .non => P false
  | .bl b => P b
  | .int i => P (i != 0)
  | .str s => s.length ≤ 16777216 ∧ P ((s.length : Int) != 0)
  | .tup xs => P (!xs.isEmpty)
  | .lst _ xs => P (!xs.isEmpty)
  | _ => False
theorem borA_emp : ∀ {vs : List V} {xs : List Vl}, BorA K F M vs xs → vs.isEmpty = xs.isEmpty
  | [], [], _ => rfl
  | _ :: _, _ :: _, _ => rfl
  | [], _ :: _, h => h.elim
  | _ :: _, [], h => h.elim
theorem wTru_ok {P : Bool → Prop} (hs : Hs F M H) (hb : Bor K F M v x) (h : wTru x P) : ∃ k, TruV K v H k ∧ P k := by
  cases x with
  | non => cases hb.non; exact ⟨_, rfl, h⟩
  | bl b => cases hb.bl; exact ⟨_, rfl, h⟩
  | int i => cases hb.int; exact ⟨_, rfl, h⟩
  | str s => cases hb.str; exact ⟨_, ⟨sz h.1, rfl⟩, h.2⟩
  | tup xs =>
    obtain ⟨a, vs, rfl, h1, h2⟩ := hb.tup
    exact ⟨_, .inr (.inl ⟨vs, same_t hs.fz h1, rfl⟩), by rw [borA_emp h2]; exact h⟩
  | lst o xs =>
    obtain ⟨a, vs, rfl, h1, h2⟩ := hb.lst hs
    exact ⟨_, .inl ⟨vs, SqL.of h1, rfl⟩, by rw [borA_emp h2]; exact h⟩
  | raw _ => exact h.elim
  | dic _ _ => exact h.elim
  | obj _ _ _ => exact h.elim
  | err _ _ _ _ _ => exact h.elim
  | cls _ => exact h.elim
  | scr _ => exact h.elim
  | dit _ _ => exact h.elim
  | dix _ _ => exact h.elim
  | adr _ _ => exact h.elim
def bTru (a : WB) : WBT := fun env P => a env fun x => wTru x P
theorem sb_tru (ha : SB K ta a) : SBT K (tTru K ta) (bTru a) := ⟨fun F M σ env H P Q he hs h k =>
  ha.run F M σ env H _ _ he hs h fun F1 H1 v x e1 hs1 b1 h1 => by
    obtain ⟨c, h2, h3⟩ := wTru_ok hs1 b1 h1
    exact ⟨c, h2, k F1 H1 c e1 hs1 h3⟩⟩
/-! chains -/
def wCh (ρ : W2) (x y : Vl) (P : Vl → Prop) (go : Prop) : Prop := ρ x y fun z => wBl z fun k => if k = true then go else P (.bl false)
def bChain (ρ ρ' : W2) (a b c : WB) : WB := fun env P => a env fun x => b env fun y => wCh ρ x y P (c env fun z => ρ' y z P)
theorem sb_chain {r r' : R2} {ρ ρ' : W2} (h1 : SR2 K r ρ) (h2 : SR2 K r' ρ') (ha : SB K ta a) (hb : SB K tb b) (hc : SB K tc c) : SB K (tChain r r' ta tb tc) (bChain ρ ρ' a b c) := ⟨fun F M σ env H P Q he hs h k =>
  ha.run F M σ env H _ _ he hs h fun F1 H1 v x e1 hs1 b1 g1 => hb.run F1 M σ env H1 _ _ (he.mono e1) hs1 g1 fun F2 H2 w y e2 hs2 b2 g2 =>
    h1.run F2 M H2 v x w y _ _ hs2 (b1.mono e2) b2 g2 fun F3 H3 u z e3 hs3 b3 ⟨c', e, g3⟩ => by
      subst e
      refine ⟨c', b3.bl, ?_⟩
      cases c' with
      | false => rw [if_neg Bool.false_ne_true] at g3 ⊢; exact k F3 H3 _ _ (e1.trans (e2.trans e3)) hs3 (.of .bl) g3
      | true =>
        rw [if_pos rfl] at g3 ⊢
        exact hc.run F3 M σ env H3 _ _ (he.mono (e1.trans (e2.trans e3))) hs3 g3 fun F4 H4 u4 z4 e4 hs4 b4 g4 => h2.run F4 M H4 w y u4 z4 P Q hs4 (b2.mono (e3.trans e4)) b4 g4 fun F5 H5 u5 z5 e5 hs5 b5 g5 =>
          k F5 H5 u5 z5 (e1.trans (e2.trans (e3.trans (e4.trans e5)))) hs5 b5 g5⟩
def bChain3 (ρ ρ' ρ'' : W2) (a b c d : WB) : WB := fun env P => a env fun x => b env fun y => wCh ρ x y P (c env fun z => wCh ρ' y z P (d env fun w => ρ'' z w P))
theorem sb_chain3 {r r' r'' : R2} {ρ ρ' ρ'' : W2} (h1 : SR2 K r ρ) (h2 : SR2 K r' ρ') (h3 : SR2 K r'' ρ'') (ha : SB K ta a) (hb : SB K tb b) (hc : SB K tc c) (hd : SB K td d) : SB K (tChain3 r r' r'' ta tb tc td) (bChain3 ρ ρ' ρ'' a b c d) := ⟨fun F M σ env H P Q he hs h k =>
  ha.run F M σ env H _ _ he hs h fun F1 H1 v x e1 hs1 b1 g1 => hb.run F1 M σ env H1 _ _ (he.mono e1) hs1 g1 fun F2 H2 w y e2 hs2 b2 g2 =>
    h1.run F2 M H2 v x w y _ _ hs2 (b1.mono e2) b2 g2 fun F3 H3 u z e3 hs3 b3 ⟨c', e, g3⟩ => by
      subst e
      refine ⟨c', b3.bl, ?_⟩
      cases c' with
      | false => rw [if_neg Bool.false_ne_true] at g3 ⊢; exact k F3 H3 _ _ (e1.trans (e2.trans e3)) hs3 (.of .bl) g3
      | true =>
        rw [if_pos rfl] at g3 ⊢
        exact hc.run F3 M σ env H3 _ _ (he.mono (e1.trans (e2.trans e3))) hs3 g3 fun F4 H4 u4 z4 e4 hs4 b4 g4 => h2.run F4 M H4 w y u4 z4 _ _ hs4 (b2.mono (e3.trans e4)) b4 g4 fun F5 H5 u5 z5 e5 hs5 b5 ⟨c2, ee, g5⟩ => by
          subst ee
          refine ⟨c2, b5.bl, ?_⟩
          cases c2 with
          | false => rw [if_neg Bool.false_ne_true] at g5 ⊢; exact k F5 H5 _ _ (e1.trans (e2.trans (e3.trans (e4.trans e5)))) hs5 (.of .bl) g5
          | true =>
            rw [if_pos rfl] at g5 ⊢
            exact hd.run F5 M σ env H5 _ _ (he.mono (e1.trans (e2.trans (e3.trans (e4.trans e5))))) hs5 g5 fun F6 H6 u6 z6 e6 hs6 b6 g6 => h3.run F6 M H6 u4 z4 u6 z6 P Q hs6 (b4.mono (e5.trans e6)) b6 g6 fun F7 H7 u7 z7 e7 hs7 b7 g7 =>
              k F7 H7 u7 z7 (e1.trans (e2.trans (e3.trans (e4.trans (e5.trans (e6.trans e7)))))) hs7 b7 g7⟩
/-! attributes -/
def bFld (cn : Cn) (i : Nat) (a : WB) : WB := fun env P => a env fun x => ∃ o xs y, x = .obj o cn xs ∧ xs[i]? = some y ∧ P y
theorem sb_fld {cn : Cn} {f : Str} {i : Nat} (cl : ClsF K (He.ga K cn.nm) cn.ns) (hi : cn.ns[i]? = some f) (ha : SB K ta a) : SB K (tFld K ta f) (bFld cn i a) := ⟨fun F M σ env H P Q he hs h k =>
  ha.run F M σ env H _ _ he hs h fun F1 H1 v x e1 hs1 b1 ⟨o, xs, y, e, hy, h1⟩ => by
    subst e
    obtain ⟨p, dx, vs, rfl, hp, hv⟩ := b1.obj hs1
    obtain ⟨u, hu, bu⟩ := hv.at hy
    exact ⟨p, _, dx, _, u, rfl, hp, cl.cl, cl.no f (List.mem_of_getElem? hi), fld_get cl.nd hi hu, k F1 H1 u y e1 hs1 bu h1⟩⟩
/-! operators -/
def wI (C : Int → Int → Prop) (g : Int → Int → Vl) : W2 := fun x y P => ∃ i j, x = .int i ∧ y = .int j ∧ C i j ∧ P (g i j)
def wI0 (g : Int → Int → Vl) : W2 := fun x y P => ∃ i j, x = .int i ∧ y = .int j ∧ P (g i j)
theorem sr_I {C : Int → Int → Prop} {g : Int → Int → V} {g' : Int → Int → Vl} (h : ∀ F i j, Rep K F (g i j) (g' i j) []) : SR2 K (rI C g) (wI C g') := ⟨fun F M H v x w y P Q hs hv hw ⟨i, j, e1, e2, hc, hp⟩ k => by
  subst e1 e2; exact ⟨i, j, hv.int, hw.int, hc, k F H _ _ (Same.refl F) hs (.of (h F i j)) hp⟩⟩
theorem sr_I0 {g : Int → Int → V} {g' : Int → Int → Vl} (h : ∀ F i j, Rep K F (g i j) (g' i j) []) : SR2 K (rI0 g) (wI0 g') := ⟨fun F M H v x w y P Q hs hv hw ⟨i, j, e1, e2, hp⟩ k => by
  subst e1 e2; exact ⟨i, j, hv.int, hw.int, k F H _ _ (Same.refl F) hs (.of (h F i j)) hp⟩⟩
def wAddI : W2 := wI0 fun i j => .int (i + j)
def wSubI : W2 := wI0 fun i j => .int (i - j)
def wMulI : W2 := wI CMul fun i j => .int (i * j)
def wDivI : W2 := wI CDivW fun i j => .int (i / j)
def wModI : W2 := wI (fun _ j => 0 < j) fun i j => .int (i % j)
def wPowI : W2 := wI CPow fun i j => .int (i ^ j.toNat)
def wLtI : W2 := wI0 fun i j => .bl (decide (i < j))
def wLeI : W2 := wI0 fun i j => .bl (decide (i ≤ j))
def wGtI : W2 := wI0 fun i j => .bl (decide (j < i))
def wGeI : W2 := wI0 fun i j => .bl (decide (j ≤ i))
theorem sr_addI : SR2 K rAddI wAddI := sr_I0 fun _ _ _ => .int
theorem sr_subI : SR2 K rSubI wSubI := sr_I0 fun _ _ _ => .int
theorem sr_mulI : SR2 K rMulI wMulI := sr_I fun _ _ _ => .int
theorem sr_divI : SR2 K rDivI wDivI := sr_I fun _ _ _ => .int
theorem sr_modI : SR2 K rModI wModI := sr_I fun _ _ _ => .int
theorem sr_powI : SR2 K rPowI wPowI := sr_I fun _ _ _ => .int
theorem sr_ltI : SR2 K rLtI wLtI := sr_I0 fun _ _ _ => .bl
theorem sr_leI : SR2 K rLeI wLeI := sr_I0 fun _ _ _ => .bl
theorem sr_gtI : SR2 K rGtI wGtI := sr_I0 fun _ _ _ => .bl
theorem sr_geI : SR2 K rGeI wGeI := sr_I0 fun _ _ _ => .bl
def wNegI : W1 := fun x P => ∃ i, x = .int i ∧ P (.int (-i))
theorem sr_negI : SR1 K rNegI wNegI := ⟨fun F M H v x P Q hs hv ⟨i, e1, hp⟩ k => by subst e1; exact ⟨i, hv.int, k F H _ _ (Same.refl F) hs (.of .int) hp⟩⟩
/-- None, truth, numbers, texts: both of a kind -/
def wEqB (neg : Bool) : W2 := fun x y P => (∃ i j, x = .int i ∧ y = .int j ∧ P (.bl (decide (i = j) ^^ neg))) ∨ (∃ i j, x = .str i ∧ y = .str j ∧ P (.bl (decide (i = j) ^^ neg))) ∨ (∃ i j, x = .bl i ∧ y = .bl j ∧ P (.bl (decide (i = j) ^^ neg)))
theorem sr_eq : SR2 K rEq (wEqB false) := ⟨fun F M H v x w y P Q hs hv hw h k => by
  rcases h with ⟨i, j, e1, e2, hp⟩ | ⟨i, j, e1, e2, hp⟩ | ⟨i, j, e1, e2, hp⟩ <;> subst e1 e2
  · cases hv.int; cases hw.int; exact ⟨rfl, by rw [dI]; exact k F H _ _ (Same.refl F) hs (.of .bl) (by rw [Bool.xor_false] at hp; exact hp)⟩
  · cases hv.str; cases hw.str; exact ⟨rfl, by rw [dS]; exact k F H _ _ (Same.refl F) hs (.of .bl) (by rw [Bool.xor_false] at hp; exact hp)⟩
  · cases hv.bl; cases hw.bl; exact ⟨rfl, by rw [dB]; exact k F H _ _ (Same.refl F) hs (.of .bl) (by rw [Bool.xor_false] at hp; exact hp)⟩⟩
theorem sr_ne : SR2 K rNe (wEqB true) := ⟨fun F M H v x w y P Q hs hv hw h k => by
  rcases h with ⟨i, j, e1, e2, hp⟩ | ⟨i, j, e1, e2, hp⟩ | ⟨i, j, e1, e2, hp⟩ <;> subst e1 e2
  · cases hv.int; cases hw.int; exact ⟨rfl, by rw [dI]; exact k F H _ _ (Same.refl F) hs (.of .bl) (by rw [Bool.xor_true] at hp; exact hp)⟩
  · cases hv.str; cases hw.str; exact ⟨rfl, by rw [dS]; exact k F H _ _ (Same.refl F) hs (.of .bl) (by rw [Bool.xor_true] at hp; exact hp)⟩
  · cases hv.bl; cases hw.bl; exact ⟨rfl, by rw [dB]; exact k F H _ _ (Same.refl F) hs (.of .bl) (by rw [Bool.xor_true] at hp; exact hp)⟩⟩
def Vl.isNon : Vl → Option Bool
  | .non => some true
  | .raw _ => none
  | _ => some false
def wIsN (neg : Bool) : W2 := fun x y P => y = .non ∧ ∃ b, x.isNon = some b ∧ P (.bl (b ^^ neg))
theorem isNon_ok {b : Bool} (hb : Bor K F M v x) (h : x.isNon = some b) : decide (v = .non) = b := by
  obtain ⟨N, R, hb, _⟩ := hb
  cases hb <;> simp only [Vl.isNon, Option.some.injEq, reduceCtorEq] at h <;> subst h <;> first | rfl | exact decide_eq_false (fun z => nomatch z)
theorem sr_isN : SR2 K rIsNone (wIsN false) := ⟨fun F M H v x w y P Q hs hv hw ⟨e, b, h1, h2⟩ k => by
  subst e
  exact ⟨hw.non, k F H _ _ (Same.refl F) hs (.of .bl) (by rw [isNon_ok hv h1]; rw [Bool.xor_false] at h2; exact h2)⟩⟩
theorem sr_notN : SR2 K rNotNone (wIsN true) := ⟨fun F M H v x w y P Q hs hv hw ⟨e, b, h1, h2⟩ k => by
  subst e
  exact ⟨hw.non, k F H _ _ (Same.refl F) hs (.of .bl) (by rw [isNon_ok hv h1]; rw [Bool.xor_true] at h2; exact h2)⟩⟩
/-! items, lengths -/
def wIx : W2 := fun x y P => ∃ i, y = .int i ∧ ((∃ o xs z, x = .lst o xs ∧ atI xs i = some z ∧ P z) ∨ (∃ xs z, x = .tup xs ∧ atI xs i = some z ∧ P z) ∨ (∃ s c, x = .str (S s) ∧ s.length ≤ 16777216 ∧ atI s i = some c ∧ P (.str (S [c]))))
theorem BorA.atI {i : Int} {z : Vl} (h : BorA K F M vs xs) (e : L2.atI xs i = some z) : ∃ u, L2.atI vs i = some u ∧ Bor K F M u z := by
  unfold L2.atI at e ⊢
  rw [h.len]
  cases hj : ixN xs.length i with
  | none => rw [hj] at e; simp at e
  | some j =>
    rw [hj] at e
    obtain ⟨u, h1, h2⟩ := h.at (i := j) (by simpa using e)
    exact ⟨u, by simpa using h1, h2⟩
theorem sr_ix : SR2 K (rIx K) wIx := ⟨fun F M H v x w y P Q hs hv hw ⟨i, ey, h⟩ k => by
  subst ey
  cases hw.int
  rcases h with ⟨o, xs, z, e1, e2, hp⟩ | ⟨xs, z, e1, e2, hp⟩ | ⟨s, c, e1, e2, e3, hp⟩ <;> subst e1
  · obtain ⟨a, vs, rfl, h1, h2⟩ := hv.lst hs
    obtain ⟨u, h3, h4⟩ := h2.atI e2
    exact .inl ⟨a, vs, i, u, rfl, rfl, SqL.of h1, h3, k F H u z (Same.refl F) hs h4 hp⟩
  · obtain ⟨a, vs, rfl, h1, h2⟩ := hv.tup
    obtain ⟨u, h3, h4⟩ := h2.atI e2
    exact .inr (.inl ⟨a, vs, i, u, rfl, rfl, same_t hs.fz h1, h3, k F H u z (Same.refl F) hs h4 hp⟩)
  · cases hv.str
    exact nIxS (z := S s) (by rw [SX.S_len]; exact e2) e3 (k F H _ _ (Same.refl F) hs (.of .str) hp)⟩
def wLen : WN := fun xs P => ∃ x, xs = [x] ∧ ((∃ o ys, x = .lst o ys ∧ P (.int (ys.length : Int))) ∨ (∃ ys, x = .tup ys ∧ P (.int (ys.length : Int))) ∨ ∃ s, x = .str (S s) ∧ s.length ≤ 16777216 ∧ P (.int (s.length : Int)))
theorem bor1 (h : BorA K F M vs [x]) : ∃ v, vs = [v] ∧ Bor K F M v x := by
  match vs, h with
  | [v], h => exact ⟨v, rfl, h.1⟩
theorem bor2 {y : Vl} (h : BorA K F M vs [x, y]) : ∃ v w, vs = [v, w] ∧ Bor K F M v x ∧ Bor K F M w y := by
  match vs, h with
  | [v, w], h => exact ⟨v, w, rfl, h.1, h.2.1⟩
theorem sr_len : SRN K (rLn K) wLen := ⟨fun F M H vs xs P Q hs hv ⟨x, e, h⟩ k => by
  subst e
  obtain ⟨v, rfl, hb⟩ := bor1 hv
  rcases h with ⟨o, ys, e1, hp⟩ | ⟨ys, e1, hp⟩ | ⟨s, e1, e2, hp⟩ <;> subst e1
  · obtain ⟨a, ws, rfl, h1, h2⟩ := hb.lst hs
    exact ⟨.ref a, _, rfl, .inl ⟨ws, SqL.of h1, rfl⟩, by rw [h2.len]; exact k F H _ _ (Same.refl F) hs (.of .int) hp⟩
  · obtain ⟨a, ws, rfl, h1, h2⟩ := hb.tup
    exact ⟨.ref a, _, rfl, .inr ⟨ws, same_t hs.fz h1, rfl⟩, by rw [h2.len]; exact k F H _ _ (Same.refl F) hs (.of .int) hp⟩
  · cases hb.str
    exact nLnT e2 (k F H _ _ (Same.refl F) hs (.of .int) hp)⟩
end
end Sh


set_option Elab.async false
set_option linter.all false
set_option maxRecDepth 100000
set_option maxHeartbeats 4000000
/-! # Expressions and statements over trees -/
namespace Sh
open PySem PySem.Spec PyProof.Rows L2
open SX (S)
local macro_rules | `(tactic| walk_at "prm") => `(tactic| (refine List.perm_iff_count.mpr fun x => ?_; simp only [List.count_append, List.count_cons, List.count_nil, List.append_assoc, List.nil_append, List.append_nil] <;> omega))
abbrev WE := Ev → (Vl → Ev → Prop) → Prop
abbrev WT := Ev → (Bool → Ev → Prop) → Prop
abbrev WA := Ev → (List Vl → Ev → Prop) → Prop
abbrev WG := Vl → Ev → (Ev → Prop) → Prop
abbrev WGs := List Vl → Ev → (Ev → Prop) → Prop
structure VE where
  nx : Ev → Prop
  rt : Vl → Ev → Prop
  bk : Ev → Prop
  ct : Ev → Prop
abbrev WS := VE → Ev → Prop
abbrev EKt := L2.St → XK
abbrev Xi := Str → List (Str × Vl) → Ev → Prop
def ErrRep (K : PySem.W.Frag) (F : Hp) (cls : Value) (d : Option Addr) (C : Str) (fs : List (Str × Vl)) : Prop :=
  cls = .ref (He.ga K C) ∧ ((fs = [] ∧ d = none) ∨ (fs ≠ [] ∧ ∃ dd vs, d = some dd ∧ F dd = some (.xd ((fs.map (·.1)).zip vs)) ∧ RepA K F vs (fs.map (·.2)) []))
/-- the table of the codes of the one lambda is among what is kept -/
def tabP (K : PySem.W.Frag) : Addr := (He.cT K ("Rounds", some "pairs")).2
def hasP (K : PySem.W.Frag) : Bool := PySem.W.codeHdIn K (He.cT K ("Rounds", some "pairs")).1 (He.cT K ("Rounds", some "pairs")).2
def TabIn (K : PySem.W.Frag) (Mf : Ow) : Prop := hasP K = true → ∃ ps, (tabP K, HO.tbl ps) ∈ Mf
theorem TabIn.up {K : PySem.W.Frag} {N Mf : Ow} (h : TabIn K Mf) : TabIn K (N ++ Mf) := fun e => let ⟨ps, h⟩ := h e; ⟨ps, List.mem_append.mpr (.inr h)⟩
theorem TabIn.cons {K : PySem.W.Frag} {x : Addr × HO} {Mf : Ow} (h : TabIn K Mf) : TabIn K (x :: Mf) := TabIn.up (N := [x]) h
def ErrOk (K : PySem.W.Frag) (F0 : Hp) (pv : List (Option V)) (Mf : Ow) (EK : EKt) (ξ : Xi) : Prop :=
  TabIn K Mf ∧ ∀ C fs env σ H cls d, ξ C fs env → (∃ F M, Same F0 F ∧ PinOk pv σ ∧ EnvR K F σ env M ∧ Hs F (M ++ Mf) H ∧ ErrRep K F cls d C fs) → EK σ cls d H
section
variable (K : PySem.W.Frag) (pv : List (Option V)) (EK : EKt) (ξ : Xi)
structure SE (te : TE) (ε : WE) : Prop where
  run : ∀ F0 Mf env P σ H Q, ErrOk K F0 pv Mf EK ξ → Stt K F0 pv σ env [] [] Mf H → ε env P → (∀ x env' v H', P x env' → Stt K F0 pv σ env' [v] [x] Mf H' → Q v H') → te σ H Q
structure ST (tt : TT) (τ : WT) : Prop where
  run : ∀ F0 Mf env P σ H Q, ErrOk K F0 pv Mf EK ξ → Stt K F0 pv σ env [] [] Mf H → τ env P → (∀ b env' H', P b env' → Stt K F0 pv σ env' [] [] Mf H' → Q b H') → tt σ H Q
structure SA (ta : TA) (α : WA) : Prop where
  run : ∀ F0 Mf env P σ H Q, ErrOk K F0 pv Mf EK ξ → Stt K F0 pv σ env [] [] Mf H → α env P → (∀ xs env' vs H', P xs env' → Stt K F0 pv σ env' vs xs Mf H' → Q vs H') → ta σ H Q
structure SG (as : List Nat) (g : TG) (γ : WG) : Prop where
  run : ∀ F0 Mf env P σ H v x N, Stt K F0 pv σ env [v] [x] Mf H → γ x env P → (∀ env' σ' H', P env' → (∀ k, k ∉ as → σ'[k]? = σ[k]?) → σ'.length = σ.length → Stt K F0 pv σ' env' [] [] Mf H' → N σ' H') → g v σ H N
structure SGs (as : List Nat) (g : TGs) (γ : WGs) : Prop where
  run : ∀ F0 Mf env P σ H vs xs N, Stt K F0 pv σ env vs xs Mf H → γ xs env P → (∀ env' σ' H', P env' → (∀ k, k ∉ as → σ'[k]? = σ[k]?) → σ'.length = σ.length → Stt K F0 pv σ' env' [] [] Mf H' → N σ' H') → g vs σ H N
structure EndsOk (F0 : Hp) (Mf : Ow) (VD : VE) (D : Ends) : Prop where
  nx : ∀ env σ H, VD.nx env → Stt K F0 pv σ env [] [] Mf H → D.nx σ H
  rt : ∀ x env v σ H, VD.rt x env → Stt K F0 pv σ env [v] [x] Mf H → D.rt v H
  bk : ∀ env σ H, VD.bk env → Stt K F0 pv σ env [] [] Mf H → D.bk σ H
  ct : ∀ env σ H, VD.ct env → Stt K F0 pv σ env [] [] Mf H → D.ct σ H
structure SS (t : TS) (s : WS) : Prop where
  run : ∀ F0 Mf env VD D σ H, ErrOk K F0 pv Mf EK ξ → Stt K F0 pv σ env [] [] Mf H → EndsOk K pv F0 Mf VD D → s VD env → t D σ H
end
section
variable {K : PySem.W.Frag} {pv : List (Option V)} {EK : EKt} {ξ : Xi} {F F' F0 H : Hp} {M M' N R Mf : Ow} {v w : V} {x : Vl} {vs ws : List V} {xs ys : List Vl} {σ : L2.St} {env : Ev} {a b c d : WE} {ta tb tc td te : TE} {tt tu : TT} {τ υ : WT} {i j : Nat} {t u : TS} {s r : WS}
theorem Stt.sub (e : Same F0 F) (h : Stt K F pv σ env [] [] (N ++ Mf) H) : Stt K F0 pv σ env [] [] Mf H := by
  obtain ⟨F1, N1, M, e1, hp, ha, he, hs⟩ := h
  cases ha
  exact ⟨F1, [], M, e.trans e1, hp, .nil, he, Hs.sub (M := N) (hs.perm (by walk_at "prm"))⟩
theorem ErrOk.up (e : Same F0 F) (h : ErrOk K F0 pv Mf EK ξ) : ErrOk K F pv (N ++ Mf) EK ξ := ⟨h.1.up, fun C fs env σ H cls d hx ⟨F1, M, e1, hp, he, hs, hr⟩ =>
  h.2 C fs env σ H cls d hx ⟨F1, M, e.trans e1, hp, he, Hs.sub (M := N) (hs.perm (by walk_at "prm")), hr⟩⟩
theorem ErrOk.base (e : Same F0 F) (h : ErrOk K F0 pv Mf EK ξ) : ErrOk K F pv Mf EK ξ := ⟨h.1, fun C fs env σ H cls d hx ⟨F1, M, e1, r⟩ => h.2 C fs env σ H cls d hx ⟨F1, M, e.trans e1, r⟩⟩
theorem Stt.top (h : Stt K F0 pv σ env (v :: vs) (x :: xs) Mf H) : Stt K F0 pv σ env [v] [x] Mf H := by
  obtain ⟨F, N, e, r, h⟩ := h.pull
  exact Stt.push e r h.dropV
/-- all that is known of a state -/
theorem Stt.all (h : Stt K F0 pv σ env vs xs Mf H) : ∃ F N M, Same F0 F ∧ PinOk pv σ ∧ RepA K F vs xs N ∧ EnvR K F σ env M ∧ Hs F (N ++ (M ++ Mf)) H ∧ EnvB K F (N ++ (M ++ Mf)) σ env ∧ BorA K F (N ++ (M ++ Mf)) vs xs := by
  obtain ⟨F, N, M, e, hp, ha, he, hs⟩ := h
  exact ⟨F, N, M, e, hp, ha, he, hs, EnvB.of he (R := N ++ Mf) (by walk_at "prm"), .of ha (.refl _)⟩
theorem RepA.one (h : Rep K F v x N) : RepA K F [v] [x] N := by
  have := RepA.cons h RepA.nil
  rw [List.append_nil] at this; exact this
/-! ### expressions: what borrows, in a state that goes on -/
def eB (β : WB) : WE := fun env P => β env fun x => x.fz = true ∧ P x env
theorem se_b {β : WB} (h : SB K te β) : SE K pv EK ξ te (eB β) := ⟨fun F0 Mf env P σ H Q hE st hb k => by
  obtain ⟨F, N, M, e, hp, ha, he, hs, hB, _⟩ := st.all
  exact h.run F _ σ env H _ Q hB hs hb fun F' H' v x e' hs' b1 ⟨hz, hP⟩ => k x env v H' hP ⟨F', [], M, e.trans e', hp, RepA.one (b1.rep hz), he.mono e', by cases ha; exact hs'⟩⟩
def tB0 (β : WBT) : WT := fun env P => β env fun c => P c env
theorem st_b {β : WBT} (h : SBT K tt β) : ST K pv EK ξ tt (tB0 β) := ⟨fun F0 Mf env P σ H Q hE st hb k => by
  obtain ⟨F, N, M, e, hp, ha, he, hs, hB, _⟩ := st.all
  exact h.run F _ σ env H _ Q hB hs hb fun F' H' c e' hs' hP => k c env H' hP ⟨F', N, M, e.trans e', hp, ha.mono e', he.mono e', hs'⟩⟩
/-- the slot i, moved out -/
def eMov (i : Nat) : WE := fun env P => ∃ x, env[i]? = some (some x) ∧ P x (env.set i none)
theorem se_mov : SE K pv EK ξ (tVar i) (eMov i) := ⟨fun F0 Mf env P σ H Q hE st ⟨x, hx, hP⟩ k => by
  obtain ⟨F, N, M, e, hp, ha, he, hs⟩ := st
  cases ha
  obtain ⟨v, N1, R, h1, h2, h3, h4⟩ := he.take hx
  exact ⟨v, h1, k x _ v H hP ⟨F, N1, R, e, hp, RepA.one h2, h4, hs.perm ((h3.append_right Mf).trans (by walk_at "prm"))⟩⟩⟩
/-- the slot i, frozen -/
def eFrz (i : Nat) : WE := fun env P => ∃ x, env[i]? = some (some x) ∧ P x.frz (env.set i (some x.frz))
theorem se_frz : SE K pv EK ξ (tVar i) (eFrz i) := ⟨fun F0 Mf env P σ H Q hE st ⟨x, hx, hP⟩ k => by
  obtain ⟨F, N, M, e, hp, ha, he, hs⟩ := st
  cases ha
  obtain ⟨v, N1, R, h1, h2, h3, h4⟩ := he.take hx
  obtain ⟨F', e', r', hs'⟩ := h2.freeze (R := R ++ Mf) (hs.perm ((h3.append_right Mf).trans (by walk_at "prm")))
  have hl : i < env.length := (List.getElem?_eq_some_iff.mp hx).1
  obtain ⟨M', h5, h6⟩ := (h4.mono e').put (i := i) h1 (List.getElem?_set_self hl) r'
  rw [List.set_set] at h5
  exact ⟨v, h1, k _ _ v H hP ⟨F', [], M', e.trans e', hp, RepA.one r', h5, hs'.perm ((h6.symm.append_right Mf).trans (by walk_at "prm"))⟩⟩⟩
def aNil : WA := fun env P => P [] env
def aCons (a : WE) (as : WA) : WA := fun env P => a env fun x env1 => as env1 fun xs env2 => P (x :: xs) env2
theorem sa_nil : SA K pv EK ξ tNil aNil := ⟨fun F0 Mf env P σ H Q hE st h k => k [] env [] H h st⟩
theorem sa_cons {tas : TA} {as : WA} (ha : SE K pv EK ξ ta a) (hr : SA K pv EK ξ tas as) : SA K pv EK ξ (tCons ta tas) (aCons a as) := ⟨fun F0 Mf env P σ H Q hE st h k =>
  ha.run F0 Mf env _ σ H _ hE st h fun x env1 v H1 h1 st1 => by
    obtain ⟨F, N, e, r, st2⟩ := st1.pull
    exact hr.run F (N ++ Mf) env1 _ σ H1 _ (hE.up e) st2 h1 fun xs env2 vs H2 h2 st3 => k _ _ _ _ h2 (Stt.push e r st3)⟩
def aB (β : WBA) : WA := fun env P => β env fun xs => Vl.fzA xs = true ∧ P xs env
theorem sa_b {tas : TA} {β : WBA} (h : SBA K tas β) : SA K pv EK ξ tas (aB β) := ⟨fun F0 Mf env P σ H Q hE st hb k => by
  obtain ⟨F, N, M, e, hp, ha, he, hs, hB, _⟩ := st.all
  exact h.run F _ σ env H _ Q hB hs hb fun F' H' v x e' hs' b1 ⟨hz, hP⟩ => k x env v H' hP ⟨F', [], M, e.trans e', hp, b1.fz hz, he.mono e', by cases ha; exact hs'⟩⟩
/-- an operator over what was reckoned -/
def wz (P : Vl → Prop) : Vl → Prop := fun z => z.fz = true ∧ P z
def eOp (ρ : W2) (a b : WE) : WE := fun env P => a env fun x env1 => b env1 fun y env2 => ρ x y (wz fun z => P z env2)
theorem se_op {r : R2} {ρ : W2} (hr : SR2 K r ρ) (ha : SE K pv EK ξ ta a) (hb : SE K pv EK ξ tb b) : SE K pv EK ξ (tOp r ta tb) (eOp ρ a b) := ⟨fun F0 Mf env P σ H Q hE st h k =>
  ha.run F0 Mf env _ σ H _ hE st h fun x env1 v H1 h1 st1 => by
    obtain ⟨F, N, e, rv, st2⟩ := st1.pull
    refine hb.run F (N ++ Mf) env1 _ σ H1 _ (hE.up e) st2 h1 fun y env2 w H2 h2 st3 => ?_
    obtain ⟨F3, N3, M3, e3, hp, hA, he, hs, hB, hBA⟩ := (Stt.push e rv st3).all
    obtain ⟨bv, bw⟩ : Bor K F3 _ v x ∧ Bor K F3 _ w y := ⟨hBA.1, hBA.2.1⟩
    exact hr.run F3 _ H2 v x w y _ Q hs bv bw h2 fun F4 H4 u z e4 hs4 b4 ⟨hz, hP⟩ => k z env2 u H4 hP ⟨F4, [], M3, e3.trans e4, hp, RepA.one (b4.rep hz), he.mono e4, Hs.sub (M := N3) hs4⟩⟩
def eUn (ρ : W1) (a : WE) : WE := fun env P => a env fun x env1 => ρ x (wz fun z => P z env1)
theorem se_un {r : V → Hp → VK → Prop} {ρ : W1} (hr : SR1 K r ρ) (ha : SE K pv EK ξ ta a) : SE K pv EK ξ (tUn r ta) (eUn ρ a) := ⟨fun F0 Mf env P σ H Q hE st h k =>
  ha.run F0 Mf env _ σ H _ hE st h fun x env1 v H1 h1 st1 => by
    obtain ⟨F3, N3, M3, e3, hp, hA, he, hs, hB, hBA⟩ := st1.all
    exact hr.run F3 _ H1 v x _ Q hs hBA.1 h1 fun F4 H4 u z e4 hs4 b4 ⟨hz, hP⟩ => k z env1 u H4 hP ⟨F4, [], M3, e3.trans e4, hp, RepA.one (b4.rep hz), he.mono e4, Hs.sub (M := N3) hs4⟩⟩
def eCB (ρ : WN) (as : WA) : WE := fun env P => as env fun xs env1 => ρ xs (wz fun z => P z env1)
theorem se_cb {r : List V → Hp → VK → Prop} {ρ : WN} {tas : TA} {as : WA} (hr : SRN K r ρ) (ha : SA K pv EK ξ tas as) : SE K pv EK ξ (tCB r tas) (eCB ρ as) := ⟨fun F0 Mf env P σ H Q hE st h k =>
  ha.run F0 Mf env _ σ H _ hE st h fun xs env1 vs H1 h1 st1 => by
    obtain ⟨F3, N3, M3, e3, hp, hA, he, hs, hB, hBA⟩ := st1.all
    exact hr.run F3 _ H1 vs xs _ Q hs hBA h1 fun F4 H4 u z e4 hs4 b4 ⟨hz, hP⟩ => k z env1 u H4 hP ⟨F4, [], M3, e3.trans e4, hp, RepA.one (b4.rep hz), he.mono e4, Hs.sub (M := N3) hs4⟩⟩
/-- a new tuple, a new list of one's own -/
def eTup (as : WA) : WE := fun env P => as env fun xs env1 => xs.length ≤ 16777216 ∧ P (.tup xs) env1
theorem se_tup {tas : TA} {as : WA} (ha : SA K pv EK ξ tas as) : SE K pv EK ξ (tTup tas) (eTup as) := ⟨fun F0 Mf env P σ H Q hE st h k =>
  ha.run F0 Mf env _ σ H _ hE st h fun xs env1 vs H1 ⟨hl, h1⟩ st1 => by
    obtain ⟨F, N, M, e, hp, hA, he, hs⟩ := st1
    refine ⟨sz (by rw [hA.len]; exact hl), fun p hpn => k _ _ _ _ h1 ?_⟩
    have e2 : Same F (upd F p (.tup vs)) := same_upd (hs.free hpn)
    exact ⟨_, N, M, e.trans e2, hp, RepA.one (.tup upd_same (hA.mono e2)), he.mono e2, hs.newF hpn⟩⟩
def eLst (as : WA) : WE := fun env P => as env fun xs env1 => xs.length ≤ 16777216 ∧ P (.lst true xs) env1
theorem se_lst {tas : TA} {as : WA} (ha : SA K pv EK ξ tas as) : SE K pv EK ξ (tLst tas) (eLst as) := ⟨fun F0 Mf env P σ H Q hE st h k =>
  ha.run F0 Mf env _ σ H _ hE st h fun xs env1 vs H1 ⟨hl, h1⟩ st1 => by
    obtain ⟨F, N, M, e, hp, hA, he, hs⟩ := st1
    exact ⟨sz (by rw [hA.len]; exact hl), fun p hpn => k _ _ _ _ h1 ⟨F, (p, .lst vs) :: N, M, e, hp, RepA.one (.lstO hA), he, hs.new hpn⟩⟩⟩
/-! tests, choices -/
def tTst (a : WE) : WT := fun env P => a env fun x env1 => wBl x fun c => P c env1
theorem st_test (ha : SE K pv EK ξ ta a) : ST K pv EK ξ (tTest ta) (tTst a) := ⟨fun F0 Mf env P σ H Q hE st h k =>
  ha.run F0 Mf env _ σ H _ hE st h fun x env1 v H1 ⟨c, e, h1⟩ st1 => by
    subst e
    obtain ⟨F3, N3, M3, e3, hp, hA, he, hs, hB, hBA⟩ := st1.all
    exact ⟨c, hBA.1.bl, k c env1 H1 h1 st1.dropV⟩⟩
theorem st_tb (ha : SE K pv EK ξ ta a) : ST K pv EK ξ (tB ta) (tTst a) := ⟨fun F0 Mf env P σ H Q hE st h k =>
  ha.run F0 Mf env _ σ H _ hE st h fun x env1 v H1 ⟨c, e, h1⟩ st1 => by
    subst e
    obtain ⟨F3, N3, M3, e3, hp, hA, he, hs, hB, hBA⟩ := st1.all
    exact ⟨c, hBA.1.bl, k c env1 H1 h1 st1.dropV⟩⟩
def tTr (a : WE) : WT := fun env P => a env fun x env1 => wTru x fun c => P c env1
theorem st_tru (ha : SE K pv EK ξ ta a) : ST K pv EK ξ (tTru K ta) (tTr a) := ⟨fun F0 Mf env P σ H Q hE st h k =>
  ha.run F0 Mf env _ σ H _ hE st h fun x env1 v H1 h1 st1 => by
    obtain ⟨F3, N3, M3, e3, hp, hA, he, hs, hB, hBA⟩ := st1.all
    obtain ⟨c, h2, h3⟩ := wTru_ok hs hBA.1 h1
    exact ⟨c, h2, k c env1 H1 h3 st1.dropV⟩⟩
def tAn (τ υ : WT) : WT := fun env P => τ env fun c env1 => if c = true then υ env1 P else P false env1
theorem st_and (h1 : ST K pv EK ξ tt τ) (h2 : ST K pv EK ξ tu υ) : ST K pv EK ξ (tAnd tt tu) (tAn τ υ) := ⟨fun F0 Mf env P σ H Q hE st h k =>
  h1.run F0 Mf env _ σ H _ hE st h fun c env1 H1 h3 st1 => by
    cases c with
    | true => rw [if_pos rfl] at h3 ⊢; exact h2.run F0 Mf env1 P σ H1 Q hE st1 h3 k
    | false => rw [if_neg Bool.false_ne_true] at h3 ⊢; exact k false env1 H1 h3 st1⟩
def tOrr (τ υ : WT) : WT := fun env P => τ env fun c env1 => if c = true then P true env1 else υ env1 P
theorem st_or (h1 : ST K pv EK ξ tt τ) (h2 : ST K pv EK ξ tu υ) : ST K pv EK ξ (tOr tt tu) (tOrr τ υ) := ⟨fun F0 Mf env P σ H Q hE st h k =>
  h1.run F0 Mf env _ σ H _ hE st h fun c env1 H1 h3 st1 => by
    cases c with
    | false => rw [if_neg Bool.false_ne_true] at h3 ⊢; exact h2.run F0 Mf env1 P σ H1 Q hE st1 h3 k
    | true => rw [if_pos rfl] at h3 ⊢; exact k true env1 H1 h3 st1⟩
def tNo (τ : WT) : WT := fun env P => τ env fun c env1 => P (!c) env1
theorem st_not (h1 : ST K pv EK ξ tt τ) : ST K pv EK ξ (tNot tt) (tNo τ) := ⟨fun F0 Mf env P σ H Q hE st h k => h1.run F0 Mf env _ σ H _ hE st h fun c env1 H1 h3 st1 => k _ _ _ h3 st1⟩
def tYs : WT := fun env P => P true env
theorem st_yes : ST K pv EK ξ tYes tYs := ⟨fun F0 Mf env P σ H Q hE st h k => k _ _ _ h st⟩
def eIf (τ : WT) (a b : WE) : WE := fun env P => τ env fun c env1 => if c = true then a env1 P else b env1 P
theorem se_if (h1 : ST K pv EK ξ tt τ) (ha : SE K pv EK ξ ta a) (hb : SE K pv EK ξ tb b) : SE K pv EK ξ (tIf tt ta tb) (eIf τ a b) := ⟨fun F0 Mf env P σ H Q hE st h k =>
  h1.run F0 Mf env _ σ H _ hE st h fun c env1 H1 h3 st1 => by
    cases c with
    | true => rw [if_pos rfl] at h3 ⊢; exact ha.run F0 Mf env1 P σ H1 Q hE st1 h3 k
    | false => rw [if_neg Bool.false_ne_true] at h3 ⊢; exact hb.run F0 Mf env1 P σ H1 Q hE st1 h3 k⟩
def eAndV (a b : WE) : WE := fun env P => a env fun x env1 => wBl x fun c => if c = true then b env1 P else P (.bl false) env1
theorem se_andV (ha : SE K pv EK ξ ta a) (hb : SE K pv EK ξ tb b) : SE K pv EK ξ (tAndV ta tb) (eAndV a b) := ⟨fun F0 Mf env P σ H Q hE st h k =>
  ha.run F0 Mf env _ σ H _ hE st h fun x env1 v H1 ⟨c, e, h1⟩ st1 => by
    subst e
    obtain ⟨F3, N3, M3, e3, hp, hA, he, hs, hB, hBA⟩ := st1.all
    have ev := hBA.1.bl
    subst ev
    refine ⟨c, rfl, ?_⟩
    cases c with
    | true => rw [if_pos rfl] at h1 ⊢; exact hb.run F0 Mf env1 P σ H1 Q hE st1.dropV h1 k
    | false => rw [if_neg Bool.false_ne_true] at h1 ⊢; exact k _ env1 _ H1 h1 st1⟩
def eOrV (a b : WE) : WE := fun env P => a env fun x env1 => wBl x fun c => if c = true then P (.bl true) env1 else b env1 P
theorem se_orV (ha : SE K pv EK ξ ta a) (hb : SE K pv EK ξ tb b) : SE K pv EK ξ (tOrV ta tb) (eOrV a b) := ⟨fun F0 Mf env P σ H Q hE st h k =>
  ha.run F0 Mf env _ σ H _ hE st h fun x env1 v H1 ⟨c, e, h1⟩ st1 => by
    subst e
    obtain ⟨F3, N3, M3, e3, hp, hA, he, hs, hB, hBA⟩ := st1.all
    have ev := hBA.1.bl
    subst ev
    refine ⟨c, rfl, ?_⟩
    cases c with
    | false => rw [if_neg Bool.false_ne_true] at h1 ⊢; exact hb.run F0 Mf env1 P σ H1 Q hE st1.dropV h1 k
    | true => rw [if_pos rfl] at h1 ⊢; exact k _ env1 _ H1 h1 st1⟩
def eNotV (a : WE) : WE := fun env P => a env fun x env1 => wBl x fun c => P (.bl (!c)) env1
theorem se_notV (ha : SE K pv EK ξ ta a) : SE K pv EK ξ (tNotV ta) (eNotV a) := ⟨fun F0 Mf env P σ H Q hE st h k =>
  ha.run F0 Mf env _ σ H _ hE st h fun x env1 v H1 ⟨c, e, h1⟩ st1 => by
    subst e
    obtain ⟨F3, N3, M3, e3, hp, hA, he, hs, hB, hBA⟩ := st1.all
    exact ⟨c, hBA.1.bl, k _ env1 _ H1 h1 ⟨F3, [], M3, e3, hp, RepA.one .bl, he, Hs.sub (M := N3) hs⟩⟩⟩
/-! ### targets -/
def gNm (i : Nat) : WG := fun x env P => P (env.set i (some x))
theorem sg_name (hi : pv[i]? = some none ∨ pv[i]? = none) : SG K pv [i] (gName i) (gNm i) := ⟨fun F0 Mf env P σ H v x N st h k =>
  k _ _ _ h (fun k hk => by rw [List.getElem?_set_ne (by intro z; exact hk (by rw [z]; exact List.mem_cons_self))]) (by rw [List.length_set]) (st.asg hi)⟩
def gN : WGs := fun xs env P => xs = [] ∧ P env
def gC (γ : WG) (γs : WGs) : WGs := fun xs env P => ∃ x ys, xs = x :: ys ∧ γ x env fun env1 => γs ys env1 P
theorem sg_nil : SGs K pv [] gNil gN := ⟨fun F0 Mf env P σ H vs xs N st ⟨e, h⟩ k => by
  subst e
  obtain ⟨F, N1, M, e1, hp, hA, he, hs⟩ := st
  cases hA
  exact ⟨rfl, k env σ H h (fun _ _ => rfl) rfl ⟨F, [], M, e1, hp, .nil, he, hs⟩⟩⟩
theorem sg_cons {as bs : List Nat} {g : TG} {gs : TGs} {γ : WG} {γs : WGs} (hg : SG K pv as g γ) (hr : SGs K pv bs gs γs) : SGs K pv (as ++ bs) (gCons g gs) (gC γ γs) := ⟨fun F0 Mf env P σ H vs xs N st ⟨x, ys, e, h⟩ k => by
  subst e
  cases vs with
  | nil => obtain ⟨F, N1, M, e1, hp, hA, he, hs⟩ := st; cases hA
  | cons v vs =>
    refine ⟨v, vs, rfl, ?_⟩
    obtain ⟨F, N1, M, e1, hp, hA, he, hs⟩ := st
    cases hA with
    | cons a r =>
      rename_i A B
      refine hg.run F (B ++ Mf) env _ σ H v x _ ⟨F, A, M, Same.refl F, hp, RepA.one a, he, hs.perm (by walk_at "prm")⟩ h fun env1 σ1 H1 h1 k1 l1 st1 => ?_
      refine hr.run F0 Mf env1 P σ1 H1 vs ys N ?_ h1 fun env2 σ2 H2 h2 k2 l2 st2 => k env2 σ2 H2 h2 (fun z hz => ?_) (l2.trans l1) st2
      · have := Stt.pushA (ws := []) (ys := []) e1 r st1
        rw [List.append_nil, List.append_nil] at this
        exact this
      · rw [k2 z fun q => hz (List.mem_append.mpr (.inr q)), k1 z fun q => hz (List.mem_append.mpr (.inl q))]⟩
def gTp (n : Nat) (γs : WGs) : WG := fun x env P => ∃ xs, x = .tup xs ∧ xs.length = n ∧ γs xs env P
theorem sg_tup {as : List Nat} {n : Nat} {gs : TGs} {γs : WGs} (hr : SGs K pv as gs γs) : SG K pv as (gTup K n gs) (gTp n γs) := ⟨fun F0 Mf env P σ H v x N st ⟨xs, e, hl, h⟩ k => by
  subst e
  obtain ⟨F, N1, M, e1, hp, hA, he, hs⟩ := st
  cases hA with
  | cons a r =>
    cases r
    cases a with
    | tup hT r =>
      refine ⟨_, _, rfl, same_t hs.fz (sqT hT), by rw [r.len]; exact hl, ?_⟩
      exact hr.run F0 Mf env P σ H _ xs N ⟨F, _, M, e1, hp, r, he, hs.perm (by walk_at "prm")⟩ h k⟩
/-! ### statements -/
def sSeq (s r : WS) : WS := fun VD env => s { VD with nx := r VD } env
theorem ss_seq (h1 : SS K pv EK ξ t s) (h2 : SS K pv EK ξ u r) : SS K pv EK ξ (tSeq t u) (sSeq s r) := ⟨fun F0 Mf env VD D σ H hE st hD h =>
  h1.run F0 Mf env { VD with nx := r VD } _ σ H hE st ⟨fun env1 σ1 H1 g st1 => h2.run F0 Mf env1 VD D σ1 H1 hE st1 hD g, hD.rt, hD.bk, hD.ct⟩ h⟩
/-- what follows is shown once -/
def sCut (s r : WS) : WS := fun VD env => ∃ I : Ev → Prop, s { VD with nx := I } env ∧ ∀ env1, I env1 → r VD env1
theorem ss_cut (h1 : SS K pv EK ξ t s) (h2 : SS K pv EK ξ u r) : SS K pv EK ξ (Evl.tCut t u) (sCut s r) := ⟨fun F0 Mf env VD D σ H hE st hD ⟨I, h, g⟩ =>
  ⟨fun σ1 H1 => ∃ env1, I env1 ∧ Stt K F0 pv σ1 env1 [] [] Mf H1, h1.run F0 Mf env { VD with nx := I } _ σ H hE st ⟨fun env1 σ1 H1 g st1 => ⟨env1, g, st1⟩, hD.rt, hD.bk, hD.ct⟩ h, fun σ1 H1 ⟨env1, i1, st1⟩ => h2.run F0 Mf env1 VD D σ1 H1 hE st1 hD (g env1 i1)⟩⟩
def sNext : WS := fun VD env => VD.nx env
theorem ss_next : SS K pv EK ξ tNext sNext := ⟨fun F0 Mf env VD D σ H hE st hD h => hD.nx env σ H h st⟩
def sBreak : WS := fun VD env => VD.bk env
theorem ss_break : SS K pv EK ξ tBreak sBreak := ⟨fun F0 Mf env VD D σ H hE st hD h => hD.bk env σ H h st⟩
def sCont : WS := fun VD env => VD.ct env
theorem ss_cont : SS K pv EK ξ tCont sCont := ⟨fun F0 Mf env VD D σ H hE st hD h => hD.ct env σ H h st⟩
def sDead : WS := fun _ _ => False
theorem ss_dead : SS K pv EK ξ tDead sDead := ⟨fun F0 Mf env VD D σ H hE st hD h => h.elim⟩
def sDrop (a : WE) : WS := fun VD env => a env fun _ env1 => VD.nx env1
theorem ss_drop (ha : SE K pv EK ξ ta a) : SS K pv EK ξ (tDrop ta) (sDrop a) := ⟨fun F0 Mf env VD D σ H hE st hD h => ha.run F0 Mf env _ σ H _ hE st h fun x env1 v H1 g st1 => hD.nx env1 σ H1 g st1.dropV⟩
def sRet (a : WE) : WS := fun VD env => a env VD.rt
theorem ss_ret (ha : SE K pv EK ξ ta a) : SS K pv EK ξ (tRet ta) (sRet a) := ⟨fun F0 Mf env VD D σ H hE st hD h => ha.run F0 Mf env _ σ H _ hE st h fun x env1 v H1 g st1 => hD.rt x env1 v σ H1 g st1⟩
def sRetN : WS := fun VD env => VD.rt .non env
theorem ss_retN : SS K pv EK ξ tRetN sRetN := ⟨fun F0 Mf env VD D σ H hE st hD h => hD.rt .non env .non σ H h (Stt.push (N := []) (Same.refl F0) .non st)⟩
def sIf (τ : WT) (s r : WS) : WS := fun VD env => τ env fun c env1 => if c = true then s VD env1 else r VD env1
theorem ss_if (hc : ST K pv EK ξ tt τ) (h1 : SS K pv EK ξ t s) (h2 : SS K pv EK ξ u r) : SS K pv EK ξ (tIfS tt t u) (sIf τ s r) := ⟨fun F0 Mf env VD D σ H hE st hD h =>
  hc.run F0 Mf env _ σ H _ hE st h fun c env1 H1 h3 st1 => by
    cases c with
    | true => rw [if_pos rfl] at h3 ⊢; exact h1.run F0 Mf env1 VD D σ H1 hE st1 hD h3
    | false => rw [if_neg Bool.false_ne_true] at h3 ⊢; exact h2.run F0 Mf env1 VD D σ H1 hE st1 hD h3⟩
def sAsg (a : WE) (γ : WG) : WS := fun VD env => a env fun x env1 => γ x env1 VD.nx
theorem ss_asg {as : List Nat} {g : TG} {γ : WG} (ha : SE K pv EK ξ ta a) (hg : SG K pv as g γ) : SS K pv EK ξ (tAsg ta g) (sAsg a γ) := ⟨fun F0 Mf env VD D σ H hE st hD h =>
  ha.run F0 Mf env _ σ H _ hE st h fun x env1 v H1 g1 st1 => hg.run F0 Mf env1 _ σ H1 v x _ st1 g1 fun env2 σ2 H2 g2 _ _ st2 => hD.nx env2 σ2 H2 g2 st2⟩
/-- x op= e, of numbers -/
def sAug (i : Nat) (f : Int → Int → Int) (a : WE) : WS := fun VD env => ∃ n, env[i]? = some (some (.int n)) ∧ a env fun y env1 => ∃ m, y = .int m ∧ VD.nx (env1.set i (some (.int (f n m))))
theorem ss_aug {f : Int → Int → Int} (hi : pv[i]? = some none ∨ pv[i]? = none) (ha : SE K pv EK ξ ta a) : SS K pv EK ξ (tAug i ta (ipI f)) (sAug i f a) := ⟨fun F0 Mf env VD D σ H hE st hD ⟨n, hn, h⟩ => by
  obtain ⟨F3, N3, M3, e3, hp, hA, he, hs, hB, hBA⟩ := st.all
  obtain ⟨v, hv, bv⟩ := hB i _ hn
  cases bv.int
  refine ⟨.int n, hv, ha.run F0 Mf env _ σ H _ hE st h fun y env1 w H1 ⟨m, em, g1⟩ st1 => ?_⟩
  subst em
  obtain ⟨F4, N4, M4, e4, hp4, hA4, he4, hs4, hB4, hBA4⟩ := st1.all
  cases hBA4.1.int
  refine ⟨n, m, rfl, rfl, hD.nx _ _ _ g1 (Stt.asg (v := .int (f n m)) (x := .int (f n m)) ?_ hi)⟩
  exact Stt.push (N := []) (Same.refl F0) .int st1.dropV⟩
/-- a, b = e1, e2 -/
def sPar (i j : Nat) (as : WA) : WS := fun VD env => as env fun xs env1 => ∃ x y, xs = [x, y] ∧ VD.nx ((env1.set i (some x)).set j (some y))
theorem ss_par {tas : TA} {as : WA} (hi : pv[i]? = some none ∨ pv[i]? = none) (hj : pv[j]? = some none ∨ pv[j]? = none) (ha : SA K pv EK ξ tas as) : SS K pv EK ξ (tPar i j tas) (sPar i j as) := ⟨fun F0 Mf env VD D σ H hE st hD h =>
  ha.run F0 Mf env _ σ H _ hE st h fun xs env1 vs H1 ⟨x, y, e, g1⟩ st1 => by
    subst e
    obtain ⟨F, N, M, e1, hp, hA, he, hs⟩ := st1
    cases hA with
    | cons a r =>
      rename_i v vs A B
      cases r with
      | cons b r =>
        rename_i w vs' B C
        cases r
        refine ⟨v, w, rfl, hD.nx _ _ _ g1 ?_⟩
        have s1 : Stt K F pv σ env1 [v] [x] (B ++ Mf) H1 := ⟨F, A, M, Same.refl F, hp, RepA.one a, he, hs.perm (by walk_at "prm")⟩
        have s2 := s1.asg hi
        exact Stt.asg (Stt.push e1 b s2) hj⟩
/-- while -/
def sWhile (τ : WT) (s : WS) : WS := fun VD env => ∃ I : Nat → Ev → Prop, (∃ m, I m env) ∧ ∀ m env, I m env → τ env fun c env1 => if c = true then s ⟨fun e => ∃ m', m' < m ∧ I m' e, VD.rt, VD.nx, fun e => ∃ m', m' < m ∧ I m' e⟩ env1 else VD.nx env1
theorem ss_while (hc : ST K pv EK ξ tt τ) (h1 : SS K pv EK ξ t s) : SS K pv EK ξ (tWhile tt t) (sWhile τ s) := ⟨fun F0 Mf env VD D σ H hE st hD ⟨I, ⟨m0, i0⟩, step⟩ => by
  refine ⟨fun m σ H => ∃ env, I m env ∧ Stt K F0 pv σ env [] [] Mf H, ⟨m0, env, i0, st⟩, fun m σ1 H1 ⟨env1, i1, st1⟩ => ?_⟩
  refine hc.run F0 Mf env1 _ σ1 H1 _ hE st1 (step m env1 i1) fun c env2 H2 h3 st2 => ?_
  cases c with
  | false => rw [if_neg Bool.false_ne_true] at h3 ⊢; exact hD.nx env2 σ1 H2 h3 st2
  | true =>
    rw [if_pos rfl] at h3 ⊢
    refine ⟨fun σ' H' => ∃ m', m' < m ∧ ∃ env, I m' env ∧ Stt K F0 pv σ' env [] [] Mf H', fun σ' H' ⟨m', l, r⟩ => ⟨m', l, r⟩, ?_⟩
    exact h1.run F0 Mf env2 ⟨fun e => ∃ m', m' < m ∧ I m' e, VD.rt, VD.nx, fun e => ∃ m', m' < m ∧ I m' e⟩ _ σ1 H2 hE st2 ⟨fun e σ' H' ⟨m', l, i'⟩ st' => ⟨m', l, e, i', st'⟩, hD.rt, hD.nx, fun e σ' H' ⟨m', l, i'⟩ st' => ⟨m', l, e, i', st'⟩⟩ h3⟩
end
end Sh


set_option Elab.async false
set_option linter.all false
set_option maxRecDepth 100000
set_option maxHeartbeats 4000000
/-! # Calls, objects and lists changed in place, over trees -/
namespace Sh
open PySem PySem.Spec PyProof.Rows L2
open SX (S)
local macro_rules | `(tactic| walk_at "prm") => `(tactic| (refine List.perm_iff_count.mpr fun x => ?_; simp only [List.count_append, List.count_cons, List.count_nil, List.append_assoc, List.nil_append, List.append_nil] <;> omega))
abbrev WF := List Vl → (Vl → Ev → Prop) → Xi → Prop
/-! ### arguments: some of them the names of what is lent -/
def fillK : List (Option Nat) → List V → List Vl → List Vl
  | some _ :: ks, v :: vs, _ :: xs => .raw v :: fillK ks vs xs
  | none :: ks, _ :: vs, x :: xs => x :: fillK ks vs xs
  | _, _, _ => []
def IoOk : List (Option Nat) → List V → List Vl → L2.St → Prop
  | some i :: ks, v :: vs, _ :: xs, σ => σ[i]? = some (some v) ∧ IoOk ks vs xs σ
  | none :: ks, _ :: vs, _ :: xs, σ => IoOk ks vs xs σ
  | [], [], [], _ => True
  | _, _, _, _ => False
def takeK : List (Option Nat) → List Vl → Ev → (List Vl → Ev → Prop) → Prop
  | some i :: ks, _ :: xs, env, P => ∃ x, env[i]? = some (some x) ∧ takeK ks xs (env.set i none) fun ys env' => P (x :: ys) env'
  | none :: ks, x :: xs, env, P => takeK ks xs env fun ys env' => P (x :: ys) env'
  | [], [], env, P => P [] env
  | _, _, _, _ => False
def putBack : List (Option Nat) → Ev → Ev → Ev
  | some i :: ks, some x :: ev, env => putBack ks ev (env.set i (some x))
  | some _ :: ks, none :: ev, env => putBack ks ev env
  | none :: ks, _ :: ev, env => putBack ks ev env
  | _, _, env => env
/-- .. and on -/
def nPB (ks : List (Option Nat)) (ev env : Ev) (q : Ev → Prop) : Prop := q (putBack ks ev env)
section
variable {K : PySem.W.Frag} {pv : List (Option V)} {EK : EKt} {ξ : Xi} {F F' F0 H : Hp} {M M' N R Mf : Ow} {v w : V} {x : Vl} {vs ws : List V} {xs ys : List Vl} {σ : L2.St} {env : Ev}
theorem takeK_ok : ∀ {ks : List (Option Nat)} {vs : List V} {xs : List Vl} {env : Ev} {M N : Ow} {P : List Vl → Ev → Prop}, EnvR K F σ env M → RepA K F vs (fillK ks vs xs) N → IoOk ks vs xs σ → takeK ks xs env P →
    ∃ ys env' M' N', P ys env' ∧ EnvR K F σ env' M' ∧ RepA K F vs ys N' ∧ (N ++ M).Perm (N' ++ M')
  | some i :: ks, v :: vs, y :: xs, env, M, N, P, he, hr, ⟨hi, hio⟩, ⟨x, hx, ht⟩ => by
    obtain ⟨v', N1, R, h1, h2, h3, h4⟩ := he.take hx
    rw [hi] at h1
    cases h1
    cases hr with
    | cons a r =>
      cases a
      obtain ⟨ys, env', M', N', hP, he', hr', hp⟩ := takeK_ok h4 r hio ht
      refine ⟨_, env', M', N1 ++ N', hP, he', .cons h2 hr', ?_⟩
      refine ((List.Perm.refl _).append h3).trans ((show _ from ?_ : List.Perm _ (N1 ++ (_ ++ R))).trans (((List.Perm.refl N1).append hp).trans ?_)) <;> walk_at "prm"
  | none :: ks, v :: vs, y :: xs, env, M, N, P, he, hr, hio, ht => by
    cases hr with
    | cons a r =>
      rename_i A B
      obtain ⟨ys, env', M', N', hP, he', hr', hp⟩ := takeK_ok he r hio ht
      refine ⟨_, env', M', A ++ N', hP, he', .cons a hr', ?_⟩
      exact (show (A ++ B ++ M).Perm (A ++ (B ++ M)) by walk_at "prm").trans (((List.Perm.refl A).append hp).trans (by walk_at "prm"))
  | [], [], [], env, M, N, P, he, hr, _, ht => ⟨[], env, M, N, ht, he, hr, .refl _⟩
  | [], _ :: _, _, _, _, _, _, _, _, h, _ => h.elim
  | [], [], _ :: _, _, _, _, _, _, _, h, _ => h.elim
  | none :: _, [], _, _, _, _, _, _, _, h, _ => h.elim
  | some _ :: _, [], _, _, _, _, _, _, _, h, _ => h.elim
  | none :: _, _ :: _, [], _, _, _, _, _, _, h, _ => h.elim
  | some _ :: _, _ :: _, [], _, _, _, _, _, _, h, _ => h.elim
theorem putBack_ok : ∀ {ks : List (Option Nat)} {vs : List V} {xs : List Vl} {ev env : Ev} {M M2 : Ow}, EnvR K F (vs.map some) ev M2 → EnvR K F σ env M → IoOk ks vs xs σ → ∃ M3 R, EnvR K F σ (putBack ks ev env) M3 ∧ (M2 ++ M).Perm (R ++ M3)
  | some i :: ks, v :: vs, _ :: xs, _, env, M, _, .no r, he, ⟨_, hio⟩ => putBack_ok (ks := ks) r he hio
  | some i :: ks, v :: vs, _ :: xs, _, env, M, _, .yes (M := B) (N := A) a r, he, ⟨hi, hio⟩ => by
    obtain ⟨M', D, h1, h2⟩ := he.asg (i := i) a
    have e : σ.set i (some v) = σ := by
      obtain ⟨hl, hv⟩ := List.getElem?_eq_some_iff.mp hi
      rw [← hv]; exact List.set_getElem_self hl
    rw [e] at h1
    obtain ⟨M3, R, h3, h4⟩ := putBack_ok r h1 hio
    refine ⟨M3, D ++ R, h3, ?_⟩
    exact (show (A ++ B ++ M).Perm (B ++ (A ++ M)) by walk_at "prm").trans (((List.Perm.refl B).append h2).trans ((show (B ++ (D ++ M')).Perm (D ++ (B ++ M')) by walk_at "prm").trans (((List.Perm.refl D).append h4).trans (by walk_at "prm"))))
  | none :: ks, v :: vs, _ :: xs, _, env, M, _, .no r, he, hio => putBack_ok (ks := ks) r he hio
  | none :: ks, v :: vs, _ :: xs, _, env, M, _, .yes (M := B) (N := A) a r, he, hio => by
    obtain ⟨M3, R, h3, h4⟩ := putBack_ok (ks := ks) r he hio
    exact ⟨M3, A ++ R, h3, (show (A ++ B ++ M).Perm (A ++ (B ++ M)) by walk_at "prm").trans (((List.Perm.refl A).append h4).trans (by walk_at "prm"))⟩
  | [], [], [], _, env, M, M2, h, he, _ => ⟨M, M2, by cases h; exact he, .refl _⟩
  | [], _ :: _, _, _, _, _, _, _, _, h => h.elim
  | [], [], _ :: _, _, _, _, _, _, _, h => h.elim
  | none :: _, [], _, _, _, _, _, _, _, h => h.elim
  | some _ :: _, [], _, _, _, _, _, _, _, h => h.elim
  | none :: _, _ :: _, [], _, _, _, _, _, _, h => h.elim
  | some _ :: _, _ :: _, [], _, _, _, _, _, _, h => h.elim
end
structure SK (K : PySem.W.Frag) (pv : List (Option V)) (EK : EKt) (ξ : Xi) (ks : List (Option Nat)) (ta : TA) (α : WA) : Prop where
  run : ∀ F0 Mf env P σ H Q, ErrOk K F0 pv Mf EK ξ → Stt K F0 pv σ env [] [] Mf H → α env P → (∀ xs env' vs H', P xs env' → Stt K F0 pv σ env' vs (fillK ks vs xs) Mf H' → IoOk ks vs xs σ → Q vs H') → ta σ H Q
/-- a def's promise: φ of the trees -/
def spOf (K : PySem.W.Frag) (n : Nat) (φ : WF) : Sp := fun vs H Q E => ∃ F0 Mf xs P PX, vs.length = n ∧ TabIn K Mf ∧ Stt K F0 [] [] [] vs xs Mf H ∧ φ xs P PX ∧ (∀ x ev v H', P x ev → Stt K F0 [] (vs.map some) ev [v] [x] Mf H' → Q v H') ∧
  ∀ C fs ev cls d H', PX C fs ev → (∃ F M, Same F0 F ∧ EnvR K F (vs.map some) ev M ∧ Hs F (M ++ Mf) H' ∧ ErrRep K F cls d C fs) → E cls d H'
theorem PinOk.nil {σ : L2.St} : PinOk [] σ := fun i v h => by simp at h
section
variable {K : PySem.W.Frag} {pv : List (Option V)} {EK : EKt} {ξ : Xi} {F F' F0 H : Hp} {M M' N R Mf : Ow} {v w : V} {x : Vl} {vs ws : List V} {xs ys : List Vl} {σ : L2.St} {env : Ev} {a b c d : WE} {ta tb tc td te : TE} {tt tu : TT} {τ υ : WT} {i j : Nat} {t u : TS} {s r : WS} {ks : List (Option Nat)} {as : WA} {tas : TA}
theorem sk_nil : SK K pv EK ξ [] tNil aNil := ⟨fun F0 Mf env P σ H Q hE st h k => k [] env [] H h st trivial⟩
theorem sk_ex (ha : SE K pv EK ξ ta a) (hr : SK K pv EK ξ ks tas as) : SK K pv EK ξ (none :: ks) (tCons ta tas) (aCons a as) := ⟨fun F0 Mf env P σ H Q hE st h k =>
  ha.run F0 Mf env _ σ H _ hE st h fun x env1 v H1 h1 st1 => by
    obtain ⟨F, N, e, r, st2⟩ := st1.pull
    exact hr.run F (N ++ Mf) env1 _ σ H1 _ (hE.up e) st2 h1 fun xs env2 vs H2 h2 st3 hio => k _ _ _ _ h2 (Stt.push e r st3) hio⟩
/-- a name whose thing is lent -/
def aIo (i : Nat) (as : WA) : WA := fun env P => (∃ x, env[i]? = some (some x)) ∧ as env fun xs env1 => P (.non :: xs) env1
theorem sk_io (hr : SK K pv EK ξ ks tas as) : SK K pv EK ξ (some i :: ks) (tCons (tVar i) tas) (aIo i as) := ⟨fun F0 Mf env P σ H Q hE st ⟨⟨x, hx⟩, h⟩ k => by
  obtain ⟨F3, N3, M3, e3, hp, hA, he, hs, hB, hBA⟩ := st.all
  obtain ⟨v, hv, bv⟩ := hB i _ hx
  exact ⟨v, hv, hr.run F0 Mf env _ σ H _ hE st h fun xs env2 vs H2 h2 st3 hio => k _ _ (v :: vs) _ h2 (Stt.push (N := []) (Same.refl F0) .raw st3) ⟨hv, hio⟩⟩⟩
/-- what a call does, the arguments being reckoned -/
def wCall (φ : WF) (ks : List (Option Nat)) (ξ : Xi) (xs : List Vl) (env1 : Ev) (P : Vl → Ev → Prop) : Prop := takeK ks xs env1 fun ys env2 => φ ys (fun x ev => nPB ks ev env2 (P x)) fun C fs ev => nPB ks ev env2 (ξ C fs)
def eCall (φ : WF) (ks : List (Option Nat)) (ξ : Xi) (as : WA) : WE := fun env P => as env fun xs env1 => wCall φ ks ξ xs env1 P
theorem call_core {φ : WF} {P : Vl → Ev → Prop} {Q : VK} {E : XK} (hE : ErrOk K F0 pv Mf EK ξ) (st : Stt K F0 pv σ env vs (fillK ks vs xs) Mf H) (hio : IoOk ks vs xs σ) (h : wCall φ ks ξ xs env P) (hEE : ∀ cls d H, EK σ cls d H → E cls d H)
    (k : ∀ x env' v H', P x env' → Stt K F0 pv σ env' [v] [x] Mf H' → Q v H') : spOf K vs.length φ vs H Q E := by
  obtain ⟨F, N, M, e, hp, hA, he, hs⟩ := st
  obtain ⟨ys, env2, M2, N2, hφ, he2, hr2, hpm⟩ := takeK_ok he hA hio h
  have hs2 : Hs F (N2 ++ (M2 ++ Mf)) H := hs.perm ((show (N ++ (M ++ Mf)).Perm ((N ++ M) ++ Mf) by walk_at "prm").trans ((hpm.append_right Mf).trans (by walk_at "prm")))
  refine ⟨F, M2 ++ Mf, ys, _, _, rfl, hE.1.up, ⟨F, N2, [], Same.refl F, .nil, hr2, .nil, hs2⟩, hφ, ?_, ?_⟩
  · rintro x ev v H' hP ⟨F', N', M', e', -, hA', he', hs'⟩
    obtain ⟨M3, R, h3, h4⟩ := putBack_ok he' (he2.mono e') hio
    refine k x _ v H' hP ⟨F', N', M3, e.trans e', hp, hA', h3, Hs.sub (M := R) (hs'.perm ?_)⟩
    exact (show (N' ++ (M' ++ (M2 ++ Mf))).Perm ((M' ++ M2) ++ (N' ++ Mf)) by walk_at "prm").trans ((h4.append_right _).trans (by walk_at "prm"))
  · rintro C fs ev cls d H' hP ⟨F', M', e', he', hs', hR⟩
    obtain ⟨M3, R, h3, h4⟩ := putBack_ok he' (he2.mono e') hio
    refine hEE _ _ _ (hE.2 C fs _ σ H' cls d hP ⟨F', M3, e.trans e', hp, h3, Hs.sub (M := R) (hs'.perm ?_), hR⟩)
    exact (show (M' ++ (M2 ++ Mf)).Perm ((M' ++ M2) ++ Mf) by walk_at "prm").trans ((h4.append_right _).trans (by walk_at "prm"))
def xNo : Xi := fun _ _ _ => False
theorem errNo (h : TabIn K Mf) : ErrOk K F0 pv Mf EK xNo := ⟨h, fun _ _ _ _ _ _ _ h _ => h.elim⟩
theorem IoOk.len : ∀ {ks : List (Option Nat)} {vs : List V} {xs : List Vl}, IoOk ks vs xs σ → vs.length = ks.length
  | some _ :: _, _ :: _, _ :: _, h => congrArg (· + 1) (IoOk.len h.2)
  | none :: _, _ :: _, _ :: _, h => congrArg (· + 1) (IoOk.len h)
  | [], [], [], _ => rfl
  | [], _ :: _, _, h => h.elim
  | [], [], _ :: _, h => h.elim
  | none :: _, [], _, h => h.elim
  | some _ :: _, [], _, h => h.elim
  | none :: _, _ :: _, [], h => h.elim
  | some _ :: _, _ :: _, [], h => h.elim
/-- a call of a def out of which nothing comes -/
theorem se_call {φ : WF} {E : XK} {n : Nat} (hn : ks.length = n) (ha : SK K pv EK ξ ks tas as) : SE K pv EK ξ (tCall (spOf K n φ) [] E tas) (eCall φ ks xNo as) := ⟨fun F0 Mf env P σ H Q hE st h k =>
  ha.run F0 Mf env _ σ H _ hE st h fun xs env1 vs H1 h1 st1 hio => by
    show spOf K n φ (vs ++ []) H1 Q E
    rw [List.append_nil, ← hn, ← hio.len]
    exact call_core (EK := fun _ _ _ _ => False) (errNo hE.1) st1 hio h1 (fun _ _ _ z => z.elim) k⟩
/-- a call of a def that may raise -/
theorem se_callX {φ : WF} {n : Nat} (hn : ks.length = n) (ha : SK K pv EK ξ ks tas as) : SE K pv EK ξ (tCallS (spOf K n φ) EK tas) (eCall φ ks ξ as) := ⟨fun F0 Mf env P σ H Q hE st h k =>
  ha.run F0 Mf env _ σ H _ hE st h fun xs env1 vs H1 h1 st1 hio => by
    show spOf K n φ vs H1 Q (EK σ)
    rw [← hn, ← hio.len]
    exact call_core hE st1 hio h1 (fun _ _ _ z => z) k⟩
/-! methods: the receiver lent by name, or what an expression gives -/
def eMethIo (i : Nat) (cn : Cn) (φ : WF) (ks : List (Option Nat)) (ξ : Xi) (as : WA) : WE := fun env P => (∃ o xs, env[i]? = some (some (.obj o cn xs))) ∧ as env fun xs env1 => wCall φ (some i :: ks) ξ (.non :: xs) env1 P
theorem se_methIo {φ : WF} {E : XK} {n : Nat} {cn : Cn} {m : Str} (hm : Nf cn.ns m) (hn : ks.length + 1 = n) (ha : SK K pv EK ξ ks tas as) : SE K pv EK ξ (tMeth (He.ga K cn.nm) m (spOf K n φ) [] E (tVar i) tas) (eMethIo i cn φ ks xNo as) := ⟨fun F0 Mf env P σ H Q hE st ⟨⟨o, zs, hz⟩, h⟩ k => by
  obtain ⟨F3, N3, M3, e3, hp, hA, he, hs, hB, hBA⟩ := st.all
  obtain ⟨v, hv, bv⟩ := hB i _ hz
  obtain ⟨p, dx, us, rfl, h1, h2⟩ := bv.obj hs
  refine ⟨_, hv, p, dx, _, rfl, h1, fld_none hm.h, ha.run F0 Mf env _ σ H _ hE st h fun xs env1 vs H1 h1 st1 hio => ?_⟩
  show spOf K n φ (.ref p :: (vs ++ [])) H1 Q E
  have hio' : IoOk (some i :: ks) (.ref p :: vs) (.non :: xs) σ := ⟨hv, hio⟩
  rw [List.append_nil, ← hn, show ks.length + 1 = (some i :: ks).length from rfl, ← hio'.len]
  exact call_core (EK := fun _ _ _ _ => False) (ks := some i :: ks) (errNo hE.1) (Stt.push (N := []) (Same.refl F0) .raw st1) hio' h1 (fun _ _ _ z => z.elim) k⟩
theorem se_methIoX {φ : WF} {n : Nat} {cn : Cn} {m : Str} (hm : Nf cn.ns m) (hn : ks.length + 1 = n) (ha : SK K pv EK ξ ks tas as) : SE K pv EK ξ (tMethE (He.ga K cn.nm) m (spOf K n φ) EK (tVar i) tas) (eMethIo i cn φ ks ξ as) := ⟨fun F0 Mf env P σ H Q hE st ⟨⟨o, zs, hz⟩, h⟩ k => by
  obtain ⟨F3, N3, M3, e3, hp, hA, he, hs, hB, hBA⟩ := st.all
  obtain ⟨v, hv, bv⟩ := hB i _ hz
  obtain ⟨p, dx, us, rfl, h1, h2⟩ := bv.obj hs
  refine ⟨_, hv, p, dx, _, rfl, h1, fld_none hm.h, ha.run F0 Mf env _ σ H _ hE st h fun xs env1 vs H1 h1 st1 hio => ?_⟩
  show spOf K n φ (.ref p :: vs) H1 Q (EK σ)
  have hio' : IoOk (some i :: ks) (.ref p :: vs) (.non :: xs) σ := ⟨hv, hio⟩
  rw [← hn, show ks.length + 1 = (some i :: ks).length from rfl, ← hio'.len]
  exact call_core (ks := some i :: ks) hE (Stt.push (N := []) (Same.refl F0) .raw st1) hio' h1 (fun _ _ _ z => z) k⟩
def eMethEx (r : WE) (cn : Cn) (φ : WF) (ks : List (Option Nat)) (ξ : Xi) (as : WA) : WE := fun env P => r env fun x env0 => (∃ o xs, x = .obj o cn xs) ∧ as env0 fun xs env1 => wCall φ (none :: ks) ξ (x :: xs) env1 P
theorem se_methEx {φ : WF} {E : XK} {n : Nat} {cn : Cn} {m : Str} {r : WE} {tr : TE} (hm : Nf cn.ns m) (hn : ks.length + 1 = n) (hr : SE K pv EK ξ tr r) (ha : SK K pv EK ξ ks tas as) : SE K pv EK ξ (tMeth (He.ga K cn.nm) m (spOf K n φ) [] E tr tas) (eMethEx r cn φ ks xNo as) := ⟨fun F0 Mf env P σ H Q hE st h k =>
  hr.run F0 Mf env _ σ H _ hE st h fun x env0 v H0 ⟨⟨o, zs, hz⟩, h⟩ st0 => by
    subst hz
    obtain ⟨F3, N3, M3, e3, hp, hA, he, hs, hB, hBA⟩ := st0.all
    obtain ⟨p, dx, us, rfl, h1, h2⟩ := hBA.1.obj hs
    obtain ⟨F, N, e, rv, st2⟩ := st0.pull
    refine ⟨p, dx, _, rfl, h1, fld_none hm.h, ha.run F (N ++ Mf) env0 _ σ H0 _ (hE.up e) st2 h fun xs env1 vs H1 h1 st1 hio => ?_⟩
    show spOf K n φ (.ref p :: (vs ++ [])) H1 Q E
    have hio' : IoOk (none :: ks) (.ref p :: vs) (.obj o cn zs :: xs) σ := hio
    rw [List.append_nil, ← hn, show ks.length + 1 = (none :: ks : List (Option Nat)).length from rfl, ← hio'.len]
    exact call_core (EK := fun _ _ _ _ => False) (ks := none :: ks) (errNo hE.1) (Stt.push e rv st1) hio' h1 (fun _ _ _ z => z.elim) k⟩
theorem se_methExX {φ : WF} {n : Nat} {cn : Cn} {m : Str} {r : WE} {tr : TE} (hm : Nf cn.ns m) (hn : ks.length + 1 = n) (hr : SE K pv EK ξ tr r) (ha : SK K pv EK ξ ks tas as) : SE K pv EK ξ (tMethE (He.ga K cn.nm) m (spOf K n φ) EK tr tas) (eMethEx r cn φ ks ξ as) := ⟨fun F0 Mf env P σ H Q hE st h k =>
  hr.run F0 Mf env _ σ H _ hE st h fun x env0 v H0 ⟨⟨o, zs, hz⟩, h⟩ st0 => by
    subst hz
    obtain ⟨F3, N3, M3, e3, hp, hA, he, hs, hB, hBA⟩ := st0.all
    obtain ⟨p, dx, us, rfl, h1, h2⟩ := hBA.1.obj hs
    obtain ⟨F, N, e, rv, st2⟩ := st0.pull
    refine ⟨p, dx, _, rfl, h1, fld_none hm.h, ha.run F (N ++ Mf) env0 _ σ H0 _ (hE.up e) st2 h fun xs env1 vs H1 h1 st1 hio => ?_⟩
    show spOf K n φ (.ref p :: vs) H1 Q (EK σ)
    have hio' : IoOk (none :: ks) (.ref p :: vs) (.obj o cn zs :: xs) σ := hio
    rw [← hn, show ks.length + 1 = (none :: ks : List (Option Nat)).length from rfl, ← hio'.len]
    exact call_core (ks := none :: ks) hE (Stt.push e rv st1) hio' h1 (fun _ _ _ z => z) k⟩
/-- C(..) -/
def wMake (cn : Cn) (φ : WF) (ks : List (Option Nat)) (ξ : Xi) (xs : List Vl) (env1 : Ev) (P : Vl → Ev → Prop) : Prop :=
  wCall φ (none :: ks) ξ (.obj true cn [] :: xs) env1 fun _ _ => False
def nMk (ev : Ev) (q : Vl → Ev → Prop) : Prop := ∃ o ev', ev = some o :: ev' ∧ q o ev'
def eMake (cn : Cn) (φ : WF) (ks : List (Option Nat)) (ξ : Xi) (as : WA) : WE := fun env P => as env fun xs env1 => takeK ks xs env1 fun ys env2 => φ (.obj true cn [] :: ys) (fun x ev => x = .non ∧ nMk ev fun o ev' => nPB ks ev' env2 (P o)) fun C fs ev => ∃ o ev', ev = o :: ev' ∧ nPB ks ev' env2 (ξ C fs)
theorem make_core {φ : WF} {cn : Cn} {P : Vl → Ev → Prop} {Q : VK} {E : XK} (hE : ErrOk K F0 pv Mf EK ξ) (st : Stt K F0 pv σ env vs (fillK ks vs xs) Mf H) (hio : IoOk ks vs xs σ)
    (h : takeK ks xs env fun ys env2 => φ (.obj true cn [] :: ys) (fun x ev => x = .non ∧ ∃ o ev', ev = some o :: ev' ∧ P o (putBack ks ev' env2)) fun C fs ev => ∃ o ev', ev = o :: ev' ∧ ξ C fs (putBack ks ev' env2)) (hEE : ∀ cls d H, EK σ cls d H → E cls d H)
    (k : ∀ x env' v H', P x env' → Stt K F0 pv σ env' [v] [x] Mf H' → Q v H') : nMake (He.ga K cn.nm) (spOf K (vs.length + 1) φ) E vs H Q := by
  intro p dx hp1 hp2 hp3
  obtain ⟨F, N, M, e, hp, hA, he, hs⟩ := st
  obtain ⟨ys, env2, M2, N2, hφ, he2, hr2, hpm⟩ := takeK_ok he hA hio h
  have hs2 : Hs F (N2 ++ (M2 ++ Mf)) H := hs.perm ((show (N ++ (M ++ Mf)).Perm ((N ++ M) ++ Mf) by walk_at "prm").trans ((hpm.append_right Mf).trans (by walk_at "prm")))
  obtain ⟨hs3, e3⟩ := hs2.make (C := He.ga K cn.nm) (ns := cn.ns) hp1 hp2 hp3
  refine ⟨_, M2 ++ Mf, .obj true cn [] :: ys, _, _, rfl, hE.1.up, ⟨_, _, [], Same.refl _, .nil, .cons (.objO (dx := dx) .nil) (hr2.mono e3), .nil, hs3⟩, hφ, ?_, ?_⟩
  · rintro x ev v H' ⟨hx, o, ev', rfl, hP⟩ ⟨F', N', M', e', -, hA', he', hs'⟩
    subst hx
    cases hA' with
    | cons a r =>
      cases a
      cases r
      cases he' with
      | yes b he' =>
        rename_i A B
        obtain ⟨M3, R, h3, h4⟩ := putBack_ok he' (he2.mono (e3.trans e')) hio
        refine ⟨rfl, k o _ _ H' hP ⟨F', B, M3, e.trans (e3.trans e'), hp, RepA.one b, h3, Hs.sub (M := R) (hs'.perm ?_)⟩⟩
        refine List.Perm.trans (l₂ := (A ++ M2) ++ (B ++ Mf)) ?_ ((h4.append_right _).trans (by walk_at "prm"))
        walk_at "prm"
  · rintro C fs ev cls d H' ⟨o, ev', rfl, hP⟩ ⟨F', M', e', he', hs', hR⟩
    have : ∃ A B, EnvR K F' (vs.map some) ev' A ∧ M'.Perm (A ++ B) := by
      cases he' with
      | no r => exact ⟨_, [], r, by walk_at "prm"⟩
      | yes b r =>
        rename_i A B
        exact ⟨A, B, r, by walk_at "prm"⟩
    obtain ⟨A, B, he'', hpp⟩ := this
    obtain ⟨M3, R, h3, h4⟩ := putBack_ok he'' (he2.mono (e3.trans e')) hio
    refine hEE _ _ _ (hE.2 C fs _ σ H' cls d hP ⟨F', M3, e.trans (e3.trans e'), hp, h3, Hs.sub (M := B ++ R) (hs'.perm ?_), hR⟩)
    exact (hpp.append_right _).trans ((show (A ++ B ++ (M2 ++ Mf)).Perm (B ++ ((A ++ M2) ++ Mf)) by walk_at "prm").trans (((List.Perm.refl B).append (h4.append_right _)).trans (by walk_at "prm")))
theorem se_make {φ : WF} {E : XK} {n : Nat} {cn : Cn} (hn : ks.length + 1 = n) (ha : SK K pv EK ξ ks tas as) : SE K pv EK ξ (tMake (He.ga K cn.nm) (spOf K n φ) [] E tas) (eMake cn φ ks xNo as) := ⟨fun F0 Mf env P σ H Q hE st h k =>
  ha.run F0 Mf env _ σ H _ hE st h fun xs env1 vs H1 h1 st1 hio => by
    show nMake (He.ga K cn.nm) (spOf K n φ) E (vs ++ []) H1 Q
    rw [List.append_nil, ← hn, ← hio.len]
    exact make_core (EK := fun _ _ _ _ => False) (ξ := xNo) (errNo hE.1) st1 hio h1 (fun _ _ _ z => z.elim) k⟩
theorem se_makeX {φ : WF} {n : Nat} {cn : Cn} (hn : ks.length + 1 = n) (ha : SK K pv EK ξ ks tas as) : SE K pv EK ξ (tMakeE (He.ga K cn.nm) (spOf K n φ) EK tas) (eMake cn φ ks ξ as) := ⟨fun F0 Mf env P σ H Q hE st h k =>
  ha.run F0 Mf env _ σ H _ hE st h fun xs env1 vs H1 h1 st1 hio => by
    show nMake (He.ga K cn.nm) (spOf K n φ) (EK σ) vs H1 Q
    rw [← hn, ← hio.len]
    exact make_core hE st1 hio h1 (fun _ _ _ z => z) k⟩
/-- what an expression gives, frozen -/
def eFz (a : WE) : WE := fun env P => a env fun x env1 => P x.frz env1
theorem se_fz (ha : SE K pv EK ξ ta a) : SE K pv EK ξ ta (eFz a) := ⟨fun F0 Mf env P σ H Q hE st h k =>
  ha.run F0 Mf env _ σ H _ hE st h fun x env1 v H1 h1 st1 => by
    obtain ⟨F, N, M, e, hp, hA, he, hs⟩ := st1
    cases hA with
    | cons b r =>
      cases r
      obtain ⟨F', e', r', hs'⟩ := b.freeze (R := M ++ Mf) (hs.perm (by walk_at "prm"))
      exact k _ _ _ _ h1 ⟨F', [], M, e.trans e', hp, RepA.one r', he.mono e', hs'⟩⟩
/-! ### a def's body -/
def outs : List Bool → Ev → Ev
  | b :: bs, e :: es => (if b = true then e else none) :: outs bs es
  | _ :: bs, [] => none :: outs bs []
  | [], _ => []
def pinL : List Bool → List V → List (Option V)
  | b :: bs, v :: vs => (if b = true then some v else none) :: pinL bs vs
  | _, _ => []
def wf (s : Xi → WS) (pn : List Bool) (n : Nat) : WF := fun xs P PX => s (fun C fs env => PX C fs (outs pn env)) ⟨fun env => P .non (outs pn env), fun x env => P x (outs pn env), fun _ => False, fun _ => False⟩ (xs.map some ++ List.replicate (n - xs.length) none)
theorem outs_ok : ∀ {pn : List Bool} {vs : List V} {σ : L2.St} {env : Ev} {M : Ow}, pn.length = vs.length → PinOk (pinL pn vs) σ → EnvR K F σ env M → ∃ M' R, EnvR K F (vs.map some) (outs pn env) M' ∧ M.Perm (R ++ M')
  | [], [], _, _, M, _, _, _ => ⟨[], M, .nil, by walk_at "prm"⟩
  | [], _ :: _, _, _, _, h, _, _ => by simp at h
  | _ :: _, [], _, _, _, h, _, _ => by simp at h
  | b :: bs, v :: vs, _, _, _, hl, hp, .nil => by
    obtain ⟨M', R, h1, h2⟩ := outs_ok (pn := bs) (vs := vs) (σ := []) (by simpa using hl) (fun i u h => by
      have := hp (i + 1) u (by simpa [pinL] using h); simpa using this) EnvR.nil
    exact ⟨M', R, .no h1, h2⟩
  | b :: bs, v :: vs, s :: σ, _, _, hl, hp, .no r => by
    obtain ⟨M', R, h1, h2⟩ := outs_ok (pn := bs) (vs := vs) (by simpa using hl) (fun i u h => by
      have := hp (i + 1) u (by simpa [pinL] using h); simpa using this) r
    refine ⟨M', R, ?_, h2⟩
    have : ∀ e, outs (b :: bs) (none :: e) = none :: outs bs e := fun e => by
      show (if b = true then none else none) :: _ = _
      split <;> rfl
    rw [this]
    exact .no h1
  | b :: bs, v :: vs, some u :: σ, _, _, hl, hp, .yes (N := A) a r => by
    obtain ⟨M', R, h1, h2⟩ := outs_ok (pn := bs) (vs := vs) (by simpa using hl) (fun i u h => by
      have := hp (i + 1) u (by simpa [pinL] using h); simpa using this) r
    cases b with
    | false => exact ⟨M', A ++ R, .no h1, ((List.Perm.refl A).append h2).trans (by walk_at "prm")⟩
    | true =>
      have := hp 0 v rfl
      simp at this
      subst this
      exact ⟨A ++ M', R, .yes a h1, ((List.Perm.refl A).append h2).trans (by walk_at "prm")⟩
theorem envR_start : ∀ {vs : List V} {xs : List Vl} {M : Ow} {n : Nat}, RepA K F vs xs M → EnvR K F (vs.map some ++ List.replicate n none) (xs.map some ++ List.replicate n none) M
  | _, _, _, n, .nil => by
    induction n with
    | zero => exact .nil
    | succ n ih => exact .no ih
  | _, _, _, n, .cons a r => .yes a (envR_start r)
theorem pin_start : ∀ {pn : List Bool} {vs : List V} {n : Nat}, PinOk (pinL pn vs) (vs.map some ++ List.replicate n none)
  | [], _, _ => fun i v h => by simp [pinL] at h
  | _ :: _, [], _ => fun i v h => by simp [pinL] at h
  | b :: bs, u :: vs, n => fun i v h => by
    cases i with
    | zero =>
      cases b with
      | true => simp [pinL] at h; subst h; rfl
      | false => simp [pinL] at h
    | succ i => exact pin_start (pn := bs) (vs := vs) i v (by simpa [pinL] using h)
theorem body_ok {N : List Str} {pn : List Bool} {s : Xi → WS} {t : XK → TS} (h : ∀ vs : List V, vs.length = pn.length → ∀ E ξ, SS K (pinL pn vs) (fun _ => E) ξ (t E) (s ξ)) {Q : VK} {E : XK} (hsp : spOf K pn.length (wf s pn N.length) vs H Q E) :
    t E { nx := fun _ H' => Q .non H', rt := Q } (start N vs) H := by
  obtain ⟨F0, Mf, xs, P, PX, hl, hti, ⟨F, A, M, e, -, hA, he, hs⟩, hw, k1, k2⟩ := hsp
  cases he
  have hlx := hA.len
  refine (h vs hl E _).run F0 Mf _ ⟨fun env => P .non (outs pn env), fun x env => P x (outs pn env), fun _ => False, fun _ => False⟩ _ _ H ?_ ⟨F, [], A, e, pin_start, .nil, envR_start (n := N.length - vs.length) hA, hs.perm (by walk_at "prm")⟩ ⟨?_, ?_, fun _ _ _ z => z.elim, fun _ _ _ z => z.elim⟩ (by rw [hlx]; exact hw)
  · refine ⟨hti, ?_⟩
    rintro C fs env σ H' cls d hx ⟨F', M', e', hp, he', hs', hr⟩
    obtain ⟨M2, R, h1, h2⟩ := outs_ok hl.symm hp he'
    exact k2 C fs _ cls d H' hx ⟨F', M2, e', h1, Hs.sub (M := R) (hs'.perm ((h2.append_right Mf).trans (by walk_at "prm"))), hr⟩
  · rintro env σ H' hx ⟨F', B, M', e', hp, hB, he', hs'⟩
    cases hB
    obtain ⟨M2, R, h1, h2⟩ := outs_ok hl.symm hp he'
    exact k1 _ _ _ H' hx ⟨F', [], M2, e', .nil, RepA.one .non, h1, Hs.sub (M := R) (hs'.perm (((List.Perm.refl _).append (h2.append_right Mf)).trans (by walk_at "prm")))⟩
  · rintro x env v σ H' hx ⟨F', B, M', e', hp, hB, he', hs'⟩
    obtain ⟨M2, R, h1, h2⟩ := outs_ok hl.symm hp he'
    exact k1 _ _ _ H' hx ⟨F', B, M2, e', .nil, hB, h1, Hs.sub (M := R) (hs'.perm (((List.Perm.refl _).append (h2.append_right Mf)).trans (by walk_at "prm")))⟩
end
end Sh


set_option Elab.async false
set_option linter.all false
set_option maxRecDepth 100000
set_option maxHeartbeats 4000000
/-! # Loops and list comprehensions over trees -/
namespace Sh
open PySem PySem.Spec PyProof.Rows L2
open SX (S)
local macro_rules | `(tactic| walk_at "prm") => `(tactic| (refine List.perm_iff_count.mpr fun x => ?_; simp only [List.count_append, List.count_cons, List.count_nil, List.append_assoc, List.nil_append, List.append_nil] <;> omega))
/-- what a loop draws: n things, the i-th being such -/
abbrev WI := Ev → (Nat → (Nat → Vl → Prop) → Ev → Prop) → Prop
structure ItOk (K : PySem.W.Frag) (F : Hp) (J : It) (n : Nat) (item : Nat → Vl → Prop) : Prop where
  ex : ∃ (G : Hp → Prop) (Y : Nat → Hp → V → Hp → Prop), Walk J n G Y ∧ (∀ F' M H, Same F F' → Hs F' M H → G H) ∧
    ∀ i F' M H x H', i < n → Same F F' → Hs F' M H → Y i H x H' → ∃ F'' xv, Same F' F'' ∧ Hs F'' M H' ∧ item i xv ∧ Rep K F'' x xv []
structure SI (K : PySem.W.Frag) (pv : List (Option V)) (EK : EKt) (ξ : Xi) (wi : TI) (ι : WI) : Prop where
  run : ∀ F0 Mf env P σ H Q, ErrOk K F0 pv Mf EK ξ → Stt K F0 pv σ env [] [] Mf H → ι env P → (∀ n item env' F J H', P n item env' → Same F0 F → Stt K F pv σ env' [] [] Mf H' → ItOk K F J n item → Q J H') → wi σ H Q
def LoopI (n : Nat) (item : Nat → Vl → Prop) (γ : WG) (s : WS) (VD : VE) (env : Ev) : Prop := ∃ I : Nat → Ev → Prop, I 0 env ∧ (∀ i x env1, i < n → item i x → I i env1 → γ x env1 fun env2 => s ⟨I (i + 1), VD.rt, VD.nx, I (i + 1)⟩ env2) ∧ ∀ env1, I n env1 → VD.nx env1
def sFor (ι : WI) (γ : WG) (s : WS) : WS := fun VD env => ι env fun n item env1 => LoopI n item γ s VD env1
section
variable {K : PySem.W.Frag} {pv : List (Option V)} {EK : EKt} {ξ : Xi} {F F' F0 H : Hp} {M M' N R Mf : Ow} {v w : V} {x : Vl} {vs ws : List V} {xs ys : List Vl} {σ : L2.St} {env : Ev} {a b c d : WE} {ta tb tc td te : TE} {tt tu : TT} {τ υ : WT} {i j : Nat} {t u : TS} {s r : WS} {as : WA} {tas : TA}
theorem EndsOk.base {VD : VE} {D : Ends} (e : Same F0 F) (h : EndsOk K pv F0 Mf VD D) : EndsOk K pv F Mf VD D := ⟨fun _ _ _ g st => h.nx _ _ _ g (Stt.base e st), fun _ _ _ _ _ g st => h.rt _ _ _ _ _ g (Stt.base e st), fun _ _ _ g st => h.bk _ _ _ g (Stt.base e st), fun _ _ _ g st => h.ct _ _ _ g (Stt.base e st)⟩
theorem Stt.at_ (h : Stt K F0 pv σ env [] [] Mf H) : ∃ F M, Same F0 F ∧ PinOk pv σ ∧ EnvR K F σ env M ∧ Hs F (M ++ Mf) H := by
  obtain ⟨F, N, M, e, hp, hA, he, hs⟩ := h
  cases hA
  exact ⟨F, M, e, hp, he, hs⟩
theorem ss_for {wi : TI} {ι : WI} {gs : List Nat} {g : TG} {γ : WG} (hi : SI K pv EK ξ wi ι) (hg : SG K pv gs g γ) (hb : SS K pv EK ξ t s) : SS K pv EK ξ (tFor wi g t) (sFor ι γ s) := ⟨fun F0 Mf env VD D σ H hE st hD h =>
  hi.run F0 Mf env _ σ H _ hE st h fun n item env1 F J H1 ⟨I, i0, step, done⟩ e st1 ok => by
    obtain ⟨G, Y, wk, hG, hY⟩ := ok.ex
    refine for_it wk (fun i σ H => ∃ env, I i env ∧ Stt K F pv σ env [] [] Mf H) ⟨env1, i0, st1⟩ ?_ ?_ ?_
    · rintro i σ' H' _ ⟨env', _, st'⟩
      obtain ⟨F', M', e', hp, he, hs⟩ := st'.at_
      exact hG F' _ H' e' hs
    · rintro i x σ' H2 H3 hlt ⟨env', ii, st'⟩ hy
      obtain ⟨F', M', e', hp, he, hs⟩ := st'.at_
      obtain ⟨F'', xv, e'', hs2, hx, hr⟩ := hY i F' _ H2 x H3 hlt e' hs hy
      refine hg.run F Mf env' _ σ' H3 x xv _ ⟨F'', [], M', e'.trans e'', hp, RepA.one hr, he.mono e'', hs2⟩ (step i xv env' hlt hx ii) fun env2 σ2 H4 g2 _ _ st2 => ?_
      exact hb.run F Mf env2 ⟨I (i + 1), VD.rt, VD.nx, I (i + 1)⟩ _ σ2 H4 (hE.base e) st2 ⟨fun e3 _ _ g3 st3 => ⟨e3, g3, st3⟩, (hD.base e).rt, (hD.base e).nx, fun e3 _ _ g3 st3 => ⟨e3, g3, st3⟩⟩ g2
    · rintro σ' H' ⟨env', ii, st'⟩
      exact (hD.base e).nx env' σ' H' (done env' ii) st'⟩
/-! ### what is walked -/
theorem RepA.get0 (h : RepA K F vs xs []) {i : Nat} (hv : vs[i]? = some v) : ∃ x, xs[i]? = some x ∧ Rep K F v x [] := by
  have hl := h.len
  have hi := (List.getElem?_eq_some_iff.mp hv).1
  obtain ⟨v', N, R, h1, h2, h3⟩ := h.get (i := i) (List.getElem?_eq_getElem (by omega))
  rw [hv] at h1; cases h1
  have : N = [] := by
    have := h3.length_eq
    rw [List.length_append] at this
    exact List.length_eq_zero_iff.mp (by simp at this; omega)
  subst this
  exact ⟨_, List.getElem?_eq_getElem (by omega), h2⟩
theorem itList {a : Addr} (h : F a = some (.lst vs)) (hr : RepA K F vs xs []) : ItOk K F (Itl K a) xs.length fun i y => xs[i]? = some y := ⟨_, _, by rw [← hr.len]; exact walk_list (K := K) (a := a) (xs := vs), fun F' M H e hs => SqL.of (hs.f (e _ _ h)), by
  rintro i F' M H x H' hlt e hs ⟨rfl, hx⟩
  obtain ⟨y, h1, h2⟩ := hr.get0 hx
  exact ⟨F', y, Same.refl F', hs, h1, h2.mono e⟩⟩
theorem itTup {a : Addr} (h : SqT K F a vs) (hr : RepA K F vs xs []) : ItOk K F (Itt K a) xs.length fun i y => xs[i]? = some y := ⟨_, _, by rw [← hr.len]; exact walk_tup (K := K) (a := a) (xs := vs), fun F' M H e hs => same_t hs.fz (same_t e h), by
  rintro i F' M H x H' hlt e hs ⟨rfl, hx⟩
  obtain ⟨y, h1, h2⟩ := hr.get0 hx
  exact ⟨F', y, Same.refl F', hs, h1, h2.mono e⟩⟩
def iL (a : WE) : WI := fun env P => a env fun x env1 => (∃ xs, x = .lst false xs ∧ P xs.length (fun i y => xs[i]? = some y) env1) ∨ ∃ ns : List Int, x = .scr ns ∧ P ns.length (fun i y => ∃ n, ns[i]? = some n ∧ y = .int n) env1
theorem itScr {a : Addr} {ns : List Int} (h : SqL K F a (ns.map V.int)) : ItOk K F (Itl K a) ns.length fun i y => ∃ n, ns[i]? = some n ∧ y = .int n := ⟨_, _, by rw [show ns.length = (ns.map V.int).length by simp]; exact walk_list (K := K) (a := a) (xs := ns.map V.int), fun F' M H e hs => same_l hs.fz (same_l e h), by
  rintro i F' M H x H' hlt e hs ⟨rfl, hx⟩
  rw [List.getElem?_map] at hx
  obtain ⟨n, h1, rfl⟩ := Option.map_eq_some_iff.mp hx
  exact ⟨F', _, Same.refl F', hs, ⟨n, h1, rfl⟩, .int⟩⟩
theorem si_list (ha : SE K pv EK ξ ta a) : SI K pv EK ξ (iList K ta) (iL a) := ⟨fun F0 Mf env P σ H Q hE st h k =>
  ha.run F0 Mf env _ σ H _ hE st h fun x env1 v H1 h1 st1 => by
    rcases h1 with ⟨xs, e, h1⟩ | ⟨ns, e, h1⟩ <;> subst e
    · obtain ⟨F, N, e, r, st2⟩ := st1.pull
      cases r with
      | lstF hF hr =>
        obtain ⟨F2, M2, e2, hp, he, hs⟩ := st2.at_
        exact ⟨_, rfl, ⟨_, SqL.of (hs.f (e2 _ _ hF))⟩, k _ _ env1 F _ H1 h1 e st2 (itList hF hr)⟩
    · obtain ⟨F, N, e, r, st2⟩ := st1.pull
      cases r with
      | scr hF =>
        obtain ⟨F2, M2, e2, hp, he, hs⟩ := st2.at_
        exact ⟨_, rfl, ⟨_, same_l hs.fz (same_l e2 hF)⟩, k _ _ env1 F _ H1 h1 e st2 (itScr hF)⟩⟩
def iT (a : WE) : WI := fun env P => a env fun x env1 => ∃ xs, x = .tup xs ∧ Vl.fzA xs = true ∧ P xs.length (fun i y => xs[i]? = some y) env1
theorem si_tup (ha : SE K pv EK ξ ta a) : SI K pv EK ξ (iTup K ta) (iT a) := ⟨fun F0 Mf env P σ H Q hE st h k =>
  ha.run F0 Mf env _ σ H _ hE st h fun x env1 v H1 ⟨xs, e, hz, h1⟩ st1 => by
    subst e
    obtain ⟨F, N, e, r, st2⟩ := st1.pull
    cases r with
    | tup hF hr =>
      have := hr.fz_nil hz
      subst this
      obtain ⟨F2, M2, e2, hp, he, hs⟩ := st2.at_
      exact ⟨_, rfl, ⟨_, same_t hs.fz (same_t e2 (sqT hF))⟩, k _ _ env1 F _ H1 h1 e st2 (itTup (sqT hF) hr)⟩⟩
def iLTv (a : WE) : WI := fun env P => a env fun x env1 => (∃ xs, x = .lst false xs ∧ P xs.length (fun i y => xs[i]? = some y) env1) ∨ ∃ xs, x = .tup xs ∧ Vl.fzA xs = true ∧ P xs.length (fun i y => xs[i]? = some y) env1
theorem si_lt (ha : SE K pv EK ξ ta a) : SI K pv EK ξ (iLT K ta) (iLTv a) := ⟨fun F0 Mf env P σ H Q hE st h k =>
  ha.run F0 Mf env _ σ H _ hE st h fun x env1 v H1 h1 st1 => by
    rcases h1 with ⟨xs, e, h1⟩ | ⟨xs, e, hz, h1⟩ <;> subst e
    · obtain ⟨F, N, e, r, st2⟩ := st1.pull
      cases r with
      | lstF hF hr =>
        obtain ⟨F2, M2, e2, hp, he, hs⟩ := st2.at_
        exact .inl ⟨_, rfl, ⟨_, SqL.of (hs.f (e2 _ _ hF))⟩, k _ _ env1 F _ H1 h1 e st2 (itList hF hr)⟩
    · obtain ⟨F, N, e, r, st2⟩ := st1.pull
      cases r with
      | tup hF hr =>
        have := hr.fz_nil hz
        subst this
        obtain ⟨F2, M2, e2, hp, he, hs⟩ := st2.at_
        exact .inr ⟨_, rfl, ⟨_, same_t hs.fz (same_t e2 (sqT hF))⟩, k _ _ env1 F _ H1 h1 e st2 (itTup (sqT hF) hr)⟩⟩
theorem itRange {lo : Int} {n : Nat} : ItOk K F (Itr lo n) n fun i y => y = .int (lo + i) := ⟨_, _, walk_range, fun _ _ _ _ _ => trivial, by
  rintro i F' M H x H' hlt e hs ⟨rfl, rfl⟩
  exact ⟨F', _, Same.refl F', hs, rfl, .int⟩⟩
def iR1 (as : WA) : WI := fun env P => as env fun xs env1 => ∃ j : Int, xs = [.int j] ∧ -4611686018427387904 ≤ j ∧ j < 4611686018427387904 ∧ P j.toNat (fun i y => y = .int (0 + (i : Int))) env1
theorem vals_int1 {j : Int} (h : BorA K F M vs [.int j]) : vs = [.int j] := by
  obtain ⟨v, rfl, b⟩ := bor1 h
  rw [b.int]
theorem vals_int2 {i j : Int} (h : BorA K F M vs [.int i, .int j]) : vs = [.int i, .int j] := by
  obtain ⟨v, w, rfl, b, b'⟩ := bor2 h
  rw [b.int, b'.int]
theorem si_rng1 (ha : SA K pv EK ξ tas as) : SI K pv EK ξ (iRng1 tas) (iR1 as) := ⟨fun F0 Mf env P σ H Q hE st h k =>
  ha.run F0 Mf env _ σ H _ hE st h fun xs env1 vs H1 ⟨j, e, h0, h1, h2⟩ st1 => by
    subst e
    obtain ⟨F3, N3, M3, e3, hp, hA, he, hs, hB, hBA⟩ := st1.all
    exact ⟨j, vals_int1 hBA, h0, h1, k _ _ env1 F0 _ H1 h2 (Same.refl F0) st1.dropV itRange⟩⟩
def iR2 (as : WA) : WI := fun env P => as env fun xs env1 => ∃ i j : Int, xs = [.int i, .int j] ∧ (-4611686018427387904 ≤ i ∧ i < 4611686018427387904 ∧ -4611686018427387904 ≤ j ∧ j < 4611686018427387904) ∧ P (j - i).toNat (fun k y => y = .int (i + (k : Int))) env1
theorem si_rng2 (ha : SA K pv EK ξ tas as) : SI K pv EK ξ (iRng2 tas) (iR2 as) := ⟨fun F0 Mf env P σ H Q hE st h k =>
  ha.run F0 Mf env _ σ H _ hE st h fun xs env1 vs H1 ⟨i, j, e, h0, h2⟩ st1 => by
    subst e
    obtain ⟨F3, N3, M3, e3, hp, hA, he, hs, hB, hBA⟩ := st1.all
    exact ⟨i, j, vals_int2 hBA, h0, k _ _ env1 F0 _ H1 h2 (Same.refl F0) st1.dropV itRange⟩⟩
def iR3 (as : WA) : WI := fun env P => as env fun xs env1 => ∃ (i j c : Int) (n : Nat), xs = [.int i, .int j, .int c] ∧ RgC i j c n ∧ P n (fun k y => y = .int (i + (k : Int) * c)) env1
theorem si_rng3 (ha : SA K pv EK ξ tas as) : SI K pv EK ξ (iRng3 tas) (iR3 as) := ⟨fun F0 Mf env P σ H Q hE st h k =>
  ha.run F0 Mf env _ σ H _ hE st h fun xs env1 vs H1 ⟨i, j, c, n, e, h0, h2⟩ st1 => by
    subst e
    obtain ⟨F3, N3, M3, e3, hp, hA, he, hs, hB, hBA⟩ := st1.all
    have : vs = [.int i, .int j, .int c] := by
      match vs, hBA with
      | [v1, v2, v3], hBA => rw [hBA.1.int, hBA.2.1.int, hBA.2.2.1.int]
    exact ⟨i, j, c, n, this, h0, k _ _ env1 F0 _ H1 h2 (Same.refl F0) st1.dropV ⟨_, _, walk_rangeC, fun _ _ _ _ _ => trivial, by
      rintro i F' M H x H' hlt e hs ⟨rfl, rfl⟩
      exact ⟨F', _, Same.refl F', hs, rfl, .int⟩⟩⟩⟩
def iS (a : WE) : WI := fun env P => a env fun x env1 => ∃ z : List Nat, x = .str (S z) ∧ P z.length (fun i y => ∃ c, z[i]? = some c ∧ y = .str (S [c])) env1
theorem si_str (ha : SE K pv EK ξ ta a) : SI K pv EK ξ (iStr ta) (iS a) := ⟨fun F0 Mf env P σ H Q hE st h k =>
  ha.run F0 Mf env _ σ H _ hE st h fun x env1 v H1 ⟨z, e, h1⟩ st1 => by
    subst e
    obtain ⟨F3, N3, M3, e3, hp, hA, he, hs, hB, hBA⟩ := st1.all
    refine ⟨S z, hBA.1.str, k _ _ env1 F0 _ H1 h1 (Same.refl F0) st1.dropV ⟨_, _, by rw [show z.length = (S z).cps.size by simp]; exact walk_str (z := S z), fun _ _ _ _ _ => trivial, ?_⟩⟩
    rintro i F' M H x H' hlt e hs ⟨rfl, c, hc, rfl⟩
    exact ⟨F', _, Same.refl F', hs, ⟨c, sign_of hc, rfl⟩, .str⟩⟩
def iE (as : WA) : WI := fun env P => as env fun zs env1 => ∃ xs, zs = [.lst false xs] ∧ P xs.length (fun i y => ∃ z, xs[i]? = some z ∧ y = .tup [.int (i : Int), z]) env1
theorem rep_pair {T : Addr} {x y : V} {a b : Vl} (h : F T = some (.tup [x, y])) (hx : Rep K F x a []) (hy : Rep K F y b []) : Rep K F (.ref T) (.tup [a, b]) [] :=
  .tup (M := []) h (RepA.cons (M := []) (N := []) hx (RepA.one hy))
theorem si_enum (ha : SA K pv EK ξ tas as) : SI K pv EK ξ (iEnum K tas) (iE as) := ⟨fun F0 Mf env P σ H Q hE st h k =>
  ha.run F0 Mf env _ σ H _ hE st h fun xs env1 vs H1 ⟨zs, e, h1⟩ st1 => by
    subst e
    obtain ⟨F, N, M, e, hp, hA, he, hs⟩ := st1
    cases hA with
    | cons r r' =>
      cases r'
      cases r with
      | lstF hF hr =>
        rename_i a vs
        refine ⟨a, vs, rfl, SqL.of (hs.f hF), k _ _ env1 F _ H1 h1 e ⟨F, [], M, Same.refl F, hp, .nil, he, hs⟩ ⟨_, _, by rw [← hr.len]; exact walk_enum (K := K) (a := a) (xs := vs), fun F' M H e hs => SqL.of (hs.f (e _ _ hF)), ?_⟩⟩
        rintro i F' M H x H' hlt e hs ⟨T, x1, y1, rfl, hT, rfl, h1, h2⟩
        cases h1
        obtain ⟨y, h3, h4⟩ := hr.get0 h2
        have e2 : Same F' (upd F' T (.tup [V.int (i : Nat), y1])) := same_upd (hs.free hT)
        exact ⟨_, _, e2, hs.newF hT, ⟨y, h3, rfl⟩, rep_pair upd_same .int (h4.mono (e.trans e2))⟩⟩
def iELT (as : WA) : WI := fun env P => as env fun zs env1 => ∃ xs, (zs = [.lst false xs] ∨ (zs = [.tup xs] ∧ Vl.fzA xs = true)) ∧ P xs.length (fun i y => ∃ z, xs[i]? = some z ∧ y = .tup [.int (i : Int), z]) env1
theorem si_enumLT (ha : SA K pv EK ξ tas as) : SI K pv EK ξ (iEnumLT K tas) (iELT as) := ⟨fun F0 Mf env P σ H Q hE st h k =>
  ha.run F0 Mf env _ σ H _ hE st h fun xs env1 vs H1 ⟨zs, e, h1⟩ st1 => by
    obtain ⟨F, N, M, e', hp, hA, he, hs⟩ := st1
    rcases e with e | ⟨e, hz⟩ <;> subst e
    · cases hA with
      | cons r r' =>
        cases r'
        cases r with
        | lstF hF hr =>
          rename_i a vs
          refine .inl ⟨a, vs, rfl, SqL.of (hs.f hF), k _ _ env1 F _ H1 h1 e' ⟨F, [], M, Same.refl F, hp, .nil, he, hs⟩ ⟨_, _, by rw [← hr.len]; exact walk_enum (K := K) (a := a) (xs := vs), fun F' M H e hs => SqL.of (hs.f (e _ _ hF)), ?_⟩⟩
          rintro i F' M H x H' hlt e hs ⟨T, x1, y1, rfl, hT, rfl, h1, h2⟩
          cases h1
          obtain ⟨y, h3, h4⟩ := hr.get0 h2
          have e2 : Same F' (upd F' T (.tup [V.int (i : Nat), y1])) := same_upd (hs.free hT)
          exact ⟨_, _, e2, hs.newF hT, ⟨y, h3, rfl⟩, rep_pair upd_same .int (h4.mono (e.trans e2))⟩
    · cases hA with
      | cons r r' =>
        cases r'
        cases r with
        | tup hF hr =>
          rename_i a vs
          have := hr.fz_nil hz
          subst this
          refine .inr ⟨a, vs, rfl, same_t hs.fz (sqT hF), k _ _ env1 F _ H1 h1 e' ⟨F, [], M, Same.refl F, hp, .nil, he, hs⟩ ⟨_, _, by rw [← hr.len]; exact walk_enumT (K := K) (a := a) (xs := vs), fun F' M H e hs => same_t hs.fz (same_t e (sqT hF)), ?_⟩⟩
          rintro i F' M H x H' hlt e hs ⟨T, x1, y1, rfl, hT, rfl, h1, h2⟩
          cases h1
          obtain ⟨y, h3, h4⟩ := hr.get0 h2
          have e2 : Same F' (upd F' T (.tup [V.int (i : Nat), y1])) := same_upd (hs.free hT)
          exact ⟨_, _, e2, hs.newF hT, ⟨y, h3, rfl⟩, rep_pair upd_same .int (h4.mono (e.trans e2))⟩⟩
/-! ### comprehensions -/
def wipeE (env : Ev) : List Nat → Ev
  | [] => env
  | v :: vs => (wipeE env vs).set v none
def restE : List Nat → Ev → Ev → Ev
  | [], _, env1 => env1
  | v :: vs, env, env1 => restE vs env (env1.set v ((wipeE env vs)[v]?.getD none))
theorem wipe_ok : ∀ {ks : List Nat} {env : Ev} {M : Ow}, EnvR K F σ env M → ∃ M1 R, M.Perm (M1 ++ R) ∧ EnvR K F (wipe σ ks) (wipeE env ks) M1 ∧
    ∀ F' env1 M1', Same F F' → EnvR K F' (wipe σ ks) env1 M1' → ∃ M' D, EnvR K F' σ (restE ks env env1) M' ∧ (M1' ++ R).Perm (D ++ M')
  | [], env, M, h => ⟨M, [], by walk_at "prm", h, fun F' env1 M1' e h1 => ⟨M1', [], h1, by walk_at "prm"⟩⟩
  | k :: ks, env, M, h => by
    obtain ⟨M1, R, h1, h2, h3⟩ := wipe_ok (ks := ks) h
    have hwl := h2.len
    cases hx : (wipeE env ks)[k]? with
    | none =>
      have hge : (wipeE env ks).length ≤ k := List.getElem?_eq_none_iff.mp hx
      refine ⟨M1, R, h1, ?_, fun F' env1 M1' e h4 => ?_⟩
      · show EnvR K F ((wipe σ ks).set k none) ((wipeE env ks).set k none) M1
        rw [List.set_eq_of_length_le (by omega), List.set_eq_of_length_le (by omega)]; exact h2
      · have h4 : EnvR K F' ((wipe σ ks).set k none) env1 M1' := h4
        rw [List.set_eq_of_length_le (by omega)] at h4
        obtain ⟨M', D, h5, h6⟩ := h3 F' env1 M1' e h4
        have := h4.len
        refine ⟨M', D, ?_, h6⟩
        show EnvR K F' σ (restE ks env (env1.set k ((wipeE env ks)[k]?.getD none))) M'
        rw [List.set_eq_of_length_le (by omega)]; exact h5
    | some o =>
      have hlt : k < (wipeE env ks).length := (List.getElem?_eq_some_iff.mp hx).1
      cases o with
      | none =>
        refine ⟨M1, R, h1, ?_, fun F' env1 M1' e h4 => ?_⟩
        · show EnvR K F ((wipe σ ks).set k none) ((wipeE env ks).set k none) M1
          have e : (wipeE env ks).set k none = wipeE env ks := by
            obtain ⟨hl, hv⟩ := List.getElem?_eq_some_iff.mp hx
            conv => lhs; rw [← hv]
            exact List.set_getElem_self hl
          rw [e]
          exact h2.any (.inl hx)
        · have h4 : EnvR K F' ((wipe σ ks).set k none) env1 M1' := h4
          obtain ⟨D1, R1, h5, h6⟩ := h4.drop (i := k)
          have h7 := h6.any (i := k) (s := (wipe σ ks)[k]'(by omega)) set_none_get
          rw [List.set_set, List.set_getElem_self] at h7
          obtain ⟨M', D, h8, h9⟩ := h3 F' _ _ e h7
          refine ⟨M', D1 ++ D, ?_, ?_⟩
          · show EnvR K F' σ (restE ks env (env1.set k ((wipeE env ks)[k]?.getD none))) M'
            rw [hx]; exact h8
          · exact (h5.append_right R).trans ((show ((D1 ++ R1) ++ R).Perm (D1 ++ (R1 ++ R)) by walk_at "prm").trans (((List.Perm.refl D1).append h9).trans (by walk_at "prm")))
      | some x =>
        obtain ⟨v, N, R1, g1, g2, g3, g4⟩ := h2.take hx
        refine ⟨R1, N ++ R, h1.trans ((g3.append_right R).trans (by walk_at "prm")), g4.any set_none_get, fun F' env1 M1' e h4 => ?_⟩
        have h4 : EnvR K F' ((wipe σ ks).set k none) env1 M1' := h4
        have hl1 := h4.len
        rw [List.length_set] at hl1
        obtain ⟨D1, R2, h5, h6⟩ := h4.drop (i := k)
        have h7 := h6.any (i := k) (s := (wipe σ ks)[k]'(by omega)) set_none_get
        rw [List.set_set, List.set_getElem_self] at h7
        obtain ⟨M2, p1, p2⟩ := h7.put (i := k) g1 (List.getElem?_set_self (by omega)) (g2.mono e)
        rw [List.set_set] at p1
        obtain ⟨M', D, h8, h9⟩ := h3 F' _ _ e p1
        refine ⟨M', D1 ++ D, ?_, ?_⟩
        · show EnvR K F' σ (restE ks env (env1.set k ((wipeE env ks)[k]?.getD none))) M'
          rw [hx]; exact h8
        · exact (h5.append_right _).trans ((show ((D1 ++ R2) ++ (N ++ R)).Perm (D1 ++ ((N ++ R2) ++ R)) by walk_at "prm").trans (((List.Perm.refl D1).append ((p2.symm.append_right R).trans h9)).trans (by walk_at "prm")))
theorem wipe_get : ∀ {ks : List Nat} {σ : L2.St} {k : Nat}, (wipe σ ks)[k]? = if k ∈ ks then (if k < σ.length then some none else none) else σ[k]?
  | [], σ, k => by simp [wipe]
  | a :: ks, σ, k => by
    show ((wipe σ ks).set a none)[k]? = _
    have hl : (wipe σ ks).length = σ.length := by
      have : ∀ (ks : List Nat), (wipe σ ks).length = σ.length := by
        intro ks
        induction ks with
        | nil => rfl
        | cons a ks ih => show ((wipe σ ks).set a none).length = _; rw [List.length_set, ih]
      exact this ks
    by_cases h : a = k
    · subst h
      by_cases h2 : a < σ.length
      · rw [List.getElem?_set_self (by omega), if_pos List.mem_cons_self, if_pos h2]
      · rw [List.getElem?_eq_none (by rw [List.length_set]; omega), if_pos List.mem_cons_self, if_neg h2]
    · rw [List.getElem?_set_ne h, wipe_get (ks := ks)]
      by_cases h3 : k ∈ ks
      · rw [if_pos h3, if_pos (List.mem_cons_of_mem _ h3)]
      · rw [if_neg h3, if_neg (by intro z; rcases List.mem_cons.mp z with z | z; exact h z.symm; exact h3 z)]
theorem wipe_same {ks : List Nat} {σ2 : L2.St} (h : ∀ k, k ∉ ks → σ2[k]? = (wipe σ ks)[k]?) (hl : σ2.length = (wipe σ ks).length) : wipe σ2 ks = wipe σ ks := by
  have hl2 : ∀ (σ : L2.St) (ks : List Nat), (wipe σ ks).length = σ.length := by
    intro σ ks
    induction ks with
    | nil => rfl
    | cons a ks ih => show ((wipe σ ks).set a none).length = _; rw [List.length_set, ih]
  refine List.ext_getElem? fun k => ?_
  rw [wipe_get]
  by_cases hk : k ∈ ks
  · rw [if_pos hk, wipe_get, if_pos hk, hl, hl2]
  · rw [if_neg hk]; exact h k hk
def CompI (n : Nat) (item : Nat → Vl → Prop) (γ : WG) (τ : WT) (a : WE) (ks : List Nat) (env : Ev) (P : Vl → Ev → Prop) : Prop := n ≤ 16777216 ∧ ∃ I : Nat → List Vl → Ev → Prop, I 0 [] (wipeE env ks) ∧
  (∀ i x acc env1, i < n → item i x → acc.length ≤ i → I i acc env1 → γ x env1 fun env2 => τ env2 fun c env3 => if c = true then a env3 fun y env4 => I (i + 1) (acc ++ [y]) (wipeE env4 ks) else I (i + 1) acc (wipeE env3 ks)) ∧ ∀ acc env1, acc.length ≤ n → I n acc env1 → P (.lst true acc) (restE ks env env1)
def eLc (ι : WI) (γ : WG) (τ : WT) (a : WE) (ks : List Nat) : WE := fun env P => ι env fun n item env1 => CompI n item γ τ a ks env1 P
theorem wipeE_none : ∀ {ks : List Nat} {env : Ev} {M : Ow} {σ : L2.St}, EnvR K F σ env M → ∃ D M', M.Perm (D ++ M') ∧ EnvR K F σ (wipeE env ks) M' ∧ EnvR K F (wipe σ ks) (wipeE env ks) M'
  | [], env, M, σ, h => ⟨[], M, .refl _, h, h⟩
  | k :: ks, env, M, σ, h => by
    obtain ⟨D, M', h1, h2, h3⟩ := wipeE_none (ks := ks) h
    obtain ⟨D2, M2, h4, h5⟩ := h2.drop (i := k)
    obtain ⟨D3, M3, h6, h7⟩ := h3.drop (i := k)
    have key : ∀ {σ σ' : L2.St} {env : Ev} {A B : Ow}, EnvR K F σ env A → EnvR K F σ' env B → True := fun _ _ => trivial
    -- the same trees, the same footprints
    have : ∀ {σ : L2.St} {env : Ev} {A : Ow}, EnvR K F σ env A → ∀ {s : Option V} {k : Nat}, (env[k]? = some none ∨ env[k]? = none) → EnvR K F (σ.set k s) env A := fun h _ _ hk => h.any hk
    refine ⟨D ++ D2, M2, h1.trans (((List.Perm.refl D).append h4).trans (by walk_at "prm")), h5, ?_⟩
    -- wipe σ (k :: ks) from h5: the slots ks and k may hold anything
    have gen : ∀ (js : List Nat) {σ : L2.St} {env : Ev} {A : Ow}, EnvR K F σ env A → (∀ j ∈ js, env[j]? = some none ∨ env[j]? = none) → EnvR K F (wipe σ js) env A := by
      intro js
      induction js with
      | nil => intro σ env A h _; exact h
      | cons j js ih => intro σ env A h hj; exact (ih h fun q hq => hj q (List.mem_cons_of_mem _ hq)).any (hj j List.mem_cons_self)
    refine gen (k :: ks) h5 fun j hj => ?_
    have : ∀ (js : List Nat) (env : Ev) (j : Nat), j ∈ js → (wipeE env js)[j]? = some none ∨ (wipeE env js)[j]? = none := by
      intro js
      induction js with
      | nil => intro env j h; simp at h
      | cons q js ih =>
        intro env j h
        show ((wipeE env js).set q none)[j]? = some none ∨ ((wipeE env js).set q none)[j]? = none
        by_cases hq : q = j
        · subst hq; exact set_none_get
        · rw [List.getElem?_set_ne hq]
          rcases List.mem_cons.mp h with z | z
          · exact absurd z.symm hq
          · exact ih env j z
    exact this (k :: ks) env j hj
theorem se_lc {wi : TI} {ι : WI} {gs ks : List Nat} {g : TG} {γ : WG} (hi : SI K pv EK ξ wi ι) (hg : SG K pv gs g γ) (ht : ST K pv EK ξ tt τ) (ha : SE K pv EK ξ ta a) (hgs : gs.all (fun k => ks.contains k) = true) (hpk : ks.all (fun k => ((pv[k]?).getD none).isNone) = true) :
    SE K pv EK ξ (tLc wi g tt ta ks) (eLc ι γ τ a ks) := ⟨fun F0 Mf env P σ H Q hE st h k =>
  hi.run F0 Mf env _ σ H _ hE st h fun n item env1 F J H1 ⟨hn, I, i0, step, done⟩ e st1 ok => by
    obtain ⟨G, Y, wk, hG, hY⟩ := ok.ex
    intro D hD
    obtain ⟨F1, M1, e1, hp, he, hs⟩ := st1.at_
    obtain ⟨W1, R, p1, he1, rest⟩ := wipe_ok (ks := ks) he
    have hpw : PinOk pv (wipe σ ks) := fun i u hi => by
      rw [wipe_get, if_neg ?_]
      · exact hp i u hi
      · intro hm
        have := List.all_eq_true.mp hpk i hm
        rw [hi] at this
        simp at this
    have hs1 : Hs F1 ((D, HO.lst []) :: (W1 ++ (R ++ Mf))) (upd H1 D (.lst [])) := (hs.perm ((p1.append_right Mf).trans (by walk_at "prm"))).new hD
    -- between two turns
    let Pv : Nat → Hp → Prop := fun i H => ∃ acc accV env' F' N' M', I i acc env' ∧ acc.length ≤ i ∧ Same F1 F' ∧ EnvR K F' (wipe σ ks) env' M' ∧ RepA K F' accV acc N' ∧ Hs F' ((D, HO.lst accV) :: (N' ++ (M' ++ (R ++ Mf)))) H
    refine lc_it wk Pv ⟨[], [], _, F1, [], W1, i0, Nat.le_refl _, Same.refl _, he1, .nil, hs1⟩ ?_ ?_ ?_
    · rintro i H' _ ⟨acc, accV, env', F', N', M', _, _, e', he', hr, hs'⟩
      exact hG F' _ H' (e1.trans e') hs'
    · rintro i x H2 H3 hlt ⟨acc, accV, env', F', N', M', ii, hl, e', he', hr, hs'⟩ hy
      obtain ⟨F'', xv, e'', hs2, hx, hrx⟩ := hY i F' _ H2 x H3 hlt (e1.trans e') hs' hy
      -- the frame of the turn: the list, what it holds, what is saved
      have stx : Stt K F'' pv (wipe σ ks) env' [x] [xv] ((D, HO.lst accV) :: (N' ++ (R ++ Mf))) H3 := ⟨F'', [], M', Same.refl _, hpw, RepA.one hrx, he'.mono e'', hs2.perm (by walk_at "prm")⟩
      have hEx : ErrOk K F'' pv ((D, HO.lst accV) :: (N' ++ (R ++ Mf))) EK ξ := by
        have := (hE.up (N := (D, HO.lst accV) :: (N' ++ R)) (e.trans (e1.trans (e'.trans e''))))
        refine ⟨by simpa [List.append_assoc] using this.1, ?_⟩
        intro C fs ev σ' H' cls d hx' ⟨F3, M3, q1, q2, q3, q4, q5⟩
        exact this.2 C fs ev σ' H' cls d hx' ⟨F3, M3, q1, q2, q3, q4.perm (by walk_at "prm"), q5⟩
      refine hg.run F'' _ env' _ (wipe σ ks) H3 x xv _ stx (step i xv acc env' hlt hx hl ii) fun env2 σ2 H4 g2 k2 l2 st2 => ⟨wipe_same (fun q hq => k2 q fun z => hq ?_) l2, ?_⟩
      · have := List.all_eq_true.mp hgs q z
        exact List.contains_iff_mem.mp this
      have hwp : wipe σ2 ks = wipe σ ks := wipe_same (fun q hq => k2 q fun z => hq (List.contains_iff_mem.mp (List.all_eq_true.mp hgs q z))) l2
      refine ht.run F'' _ env2 _ σ2 H4 _ hEx st2 g2 fun c env3 H5 g3 st3 => ?_
      cases c with
      | false =>
        rw [if_neg Bool.false_ne_true] at g3 ⊢
        obtain ⟨F3, M3, q1, q2, q3, q4⟩ := st3.at_
        obtain ⟨D1, M4, w1, w2, w3⟩ := wipeE_none (ks := ks) q3
        rw [hwp] at w3
        refine ⟨acc, accV, _, F3, N', M4, g3, by omega, e'.trans (e''.trans q1), w3, hr.mono (e''.trans q1), Hs.sub (M := D1) (q4.perm ?_)⟩
        exact (w1.append_right _).trans (by walk_at "prm")
      | true =>
        rw [if_pos rfl] at g3 ⊢
        refine ha.run F'' _ env3 _ σ2 H5 _ hEx st3 g3 fun y env4 u H6 g4 st4 => ?_
        obtain ⟨F3, N3, M3, q1, q2, qr, q3, q4⟩ := st4
        cases qr with
        | cons ry rn =>
          cases rn
          rename_i A
          obtain ⟨D1, M4, w1, w2, w3⟩ := wipeE_none (ks := ks) q3
          rw [hwp] at w3
          have hD2 : Hs F3 ((D, HO.lst accV) :: ((N' ++ A) ++ (M4 ++ (R ++ Mf)))) H6 := Hs.sub (M := D1) (q4.perm (((List.Perm.refl (A ++ [])).append (w1.append_right _)).trans (by walk_at "prm")))
          refine ⟨accV, hD2.get, szl (by rw [hr.len]; omega), acc ++ [y], accV ++ [u], _, F3, N' ++ A, M4, g4, by simp; omega, e'.trans (e''.trans q1), w3, ?_, hD2.put⟩
          exact (hr.mono (e''.trans q1)).app (RepA.one ry)
    · rintro H' ⟨acc, accV, env', F', N', M', ii, hl, e', he', hr, hs'⟩
      obtain ⟨M2, D2, h1, h2⟩ := rest F' env' M' e' he'
      refine k (.lst true acc) _ _ H' (done acc env' hl ii) ⟨F', (D, .lst accV) :: N', M2, e.trans (e1.trans e'), hp, RepA.one (.lstO hr), h1, Hs.sub (M := D2) (hs'.perm ?_)⟩
      exact (show ((D, HO.lst accV) :: (N' ++ (M' ++ (R ++ Mf)))).Perm ((D, HO.lst accV) :: N' ++ ((M' ++ R) ++ Mf)) by walk_at "prm").trans (((List.Perm.refl _).append (h2.append_right Mf)).trans (by walk_at "prm"))⟩
end
end Sh


set_option Elab.async false
set_option linter.all false
set_option maxRecDepth 100000
set_option maxHeartbeats 4000000
/-! # Lists, texts, objects, dicts over trees -/
namespace Sh
open PySem PySem.Spec PyProof.Rows L2
open SX (S)
local macro_rules | `(tactic| walk_at "prm") => `(tactic| (refine List.perm_iff_count.mpr fun x => ?_; simp only [List.count_append, List.count_cons, List.count_nil, List.append_assoc, List.nil_append, List.append_nil] <;> omega))
/-- a place that is changed: a slot, an attribute of the object in a slot -/
structure SPl (K : PySem.W.Frag) (pv : List (Option V)) (te : TE) (get : Ev → Option Vl) (set : Ev → Vl → Ev) : Prop where
  run : ∀ F0 Mf env vs xs σ H x, Stt K F0 pv σ env vs xs Mf H → get env = some x → ∃ F v N N0 R, Same F0 F ∧ (∀ H' Q, (∀ a o, F a = some o → H' a = some o) → (∀ p ∈ N ++ (N0 ++ (R ++ Mf)), NTb p.2 → H' p.1 = some p.2) → Q v H' → te σ H' Q) ∧ Rep K F v x N ∧ RepA K F vs xs N0 ∧ Hs F (N ++ (N0 ++ (R ++ Mf))) H ∧ EnvB K F (N ++ (N0 ++ (R ++ Mf))) σ env ∧
    ∀ F' x' N' H' ws ys N1, Same F F' → Rep K F' v x' N' → RepA K F' ws ys N1 → Hs F' (N' ++ (N1 ++ (R ++ Mf))) H' → Stt K F0 pv σ (set env x') ws ys Mf H'
def gSl (i : Nat) : Ev → Option Vl := fun env => (env[i]?).getD none
def pSl (i : Nat) : Ev → Vl → Ev := fun env x => env.set i (some x)
section
variable {K : PySem.W.Frag} {pv : List (Option V)} {EK : EKt} {ξ : Xi} {F F' F0 H : Hp} {M M' N R Mf : Ow} {v w : V} {x y : Vl} {vs ws : List V} {xs ys : List Vl} {σ : L2.St} {env : Ev} {a b c d : WE} {ta tb tc td te : TE} {tt tu : TT} {τ υ : WT} {i j : Nat} {t u : TS} {s r : WS} {as : WA} {tas : TA} {get : Ev → Option Vl} {set : Ev → Vl → Ev}
theorem Hs.putA {p : Addr} {o o' : HO} (h : Hs F (((p, o) :: M) ++ R) H) (hn : NTb o' := by trivial) : Hs F (((p, o') :: M) ++ R) (upd H p o') := Hs.put (M := M ++ R) h hn
theorem gSl_some (h : gSl i env = some x) : env[i]? = some (some x) := by
  unfold gSl at h
  cases hx : env[i]? with
  | none => rw [hx] at h; cases h
  | some o => rw [hx] at h; rw [show o = some x from h]
theorem spl_slot : SPl K pv (tVar i) (gSl i) (pSl i) := ⟨fun F0 Mf env vs xs σ H x st hg => by
  obtain ⟨F, N, M, e, hp, hA, he, hs, hB, hBA⟩ := st.all
  have hx := gSl_some hg
  obtain ⟨v, N1, R, h1, h2, h3, h4⟩ := he.take hx
  have hl : i < env.length := (List.getElem?_eq_some_iff.mp hx).1
  have pm : (N ++ (M ++ Mf)).Perm (N1 ++ (N ++ (R ++ Mf))) := ((List.Perm.refl N).append (h3.append_right Mf)).trans (by walk_at "prm")
  refine ⟨F, v, N1, N, R, e, fun H' Q _ _ q => ⟨v, h1, q⟩, h2, hA, hs.perm pm, fun i x hi => ?_, fun F' x' N' H' ws ys N2 e' hr hA' hs' => ?_⟩
  · obtain ⟨u, q1, q2⟩ := hB i x hi; exact ⟨u, q1, q2.perm pm⟩
  · obtain ⟨M', h5, h6⟩ := (h4.mono e').put (i := i) h1 (List.getElem?_set_self hl) hr
    rw [List.set_set] at h5
    exact ⟨F', N2, M', e.trans e', hp, hA', h5, hs'.perm ((show (N' ++ (N2 ++ (R ++ Mf))).Perm (N2 ++ ((N' ++ R) ++ Mf)) by walk_at "prm").trans ((List.Perm.refl N2).append (h6.symm.append_right Mf)))⟩⟩
def gFd (i : Nat) (cn : Cn) (j : Nat) : Ev → Option Vl := fun env => match (env[i]?).getD none with
  | some (.obj true c xs) => if c = cn then xs[j]? else none
  | _ => none
def pFd (i : Nat) (cn : Cn) (j : Nat) : Ev → Vl → Ev := fun env x => match (env[i]?).getD none with
  | some (.obj true _ xs) => env.set i (some (.obj true cn (xs.set j x)))
  | _ => env
theorem spl_fld {cn : Cn} {f : Str} (cl : ClsF K (He.ga K cn.nm) cn.ns) (hj : cn.ns[j]? = some f) : SPl K pv (tFld K (tVar i) f) (gFd i cn j) (pFd i cn j) := ⟨fun F0 Mf env vs xs σ H x st hg => by
  obtain ⟨F, N, M, e, hp, hA, he, hs, hB, hBA⟩ := st.all
  obtain ⟨c, fs, hx, hcn, hfj⟩ : ∃ c fs, env[i]? = some (some (.obj true c fs)) ∧ c = cn ∧ fs[j]? = some x := by
    unfold gFd at hg
    cases hq : env[i]? with
    | none => rw [hq] at hg; simp at hg
    | some o =>
      rw [hq] at hg
      simp only [Option.getD_some] at hg
      split at hg
      · rename_i c fs
        by_cases hc : c = cn
        · rw [if_pos hc] at hg; exact ⟨c, fs, rfl, hc, hg⟩
        · rw [if_neg hc] at hg; cases hg
      · cases hg
  subst hcn
  obtain ⟨v, N1, R, h1, h2, h3, h4⟩ := he.take hx
  cases h2 with
  | objO hr =>
    rename_i p dx us M0
    obtain ⟨w, Nw, Rw, g1, g2, g3, g4⟩ := hr.at hfj
    have hl : i < env.length := (List.getElem?_eq_some_iff.mp hx).1
    have pm : (N ++ (M ++ Mf)).Perm (Nw ++ (N ++ (((p, Ob (He.ga K c.nm) dx c.ns us) :: (Rw ++ R)) ++ Mf))) :=
      ((List.Perm.refl N).append (h3.append_right Mf)).trans ((show (N ++ ((p, Ob (He.ga K c.nm) dx c.ns us) :: M0 ++ R ++ Mf)).Perm (M0 ++ (N ++ ((p, Ob (He.ga K c.nm) dx c.ns us) :: R ++ Mf))) by walk_at "prm").trans ((g3.append_right _).trans (by walk_at "prm")))
    refine ⟨F, w, Nw, N, (p, Ob (He.ga K c.nm) dx c.ns us) :: (Rw ++ R), e, fun H' Q _ hm q => ⟨_, h1, p, _, dx, _, w, rfl, ?_, cl.cl, cl.no f (List.mem_of_getElem? hj), fld_get cl.nd hj g1, q⟩, g2, hA, hs.perm pm, fun i x hi => ?_, fun F' x' N' H' ws ys N2 e' hr' hA' hs' => ?_⟩
    · exact hm (p, _) (by simp) trivial
    · obtain ⟨u, q1, q2⟩ := hB i x hi; exact ⟨u, q1, q2.perm pm⟩
    · obtain ⟨M', g5, g6⟩ := g4 F' x' N' e' hr'
      obtain ⟨M2, h5, h6⟩ := (h4.mono e').put (i := i) h1 (List.getElem?_set_self hl) (Rep.objO (dx := dx) (c := c) g5)
      rw [List.set_set] at h5
      have es : pFd i c j env x' = env.set i (some (.obj true c (fs.set j x'))) := by
        unfold pFd
        rw [hx]; rfl
      rw [es]
      refine ⟨F', N2, M2, e.trans e', hp, hA', h5, hs'.perm ?_⟩
      refine (show (N' ++ (N2 ++ ((p, Ob (He.ga K c.nm) dx c.ns us) :: (Rw ++ R) ++ Mf))).Perm ((N' ++ Rw) ++ (N2 ++ ((p, Ob (He.ga K c.nm) dx c.ns us) :: R ++ Mf))) by walk_at "prm").trans (((g6.symm).append_right _).trans ?_)
      refine (show (M' ++ (N2 ++ ((p, Ob (He.ga K c.nm) dx c.ns us) :: R ++ Mf))).Perm (N2 ++ (((p, Ob (He.ga K c.nm) dx c.ns us) :: M' ++ R) ++ Mf)) by walk_at "prm").trans ?_
      exact (List.Perm.refl N2).append (h6.symm.append_right Mf)⟩
/-! ### methods that change a list -/
abbrev WM := Vl → List Vl → (Vl → Vl → Prop) → Prop
structure SM (K : PySem.W.Frag) (r : V → List V → Hp → VK → Prop) (μ : WM) : Prop where
  ty : ∀ x xs P, μ x xs P → ∃ o ys, x = .lst o ys
  run : ∀ F N N0 R H v x vs xs P Q, Rep K F v x N → RepA K F vs xs N0 → Hs F (N ++ (N0 ++ R)) H → μ x xs P → (∀ F' x' N' z w Nz H', P z x' → Same F F' → Rep K F' v x' N' → Rep K F' w z Nz → Hs F' (N' ++ (Nz ++ R)) H' → Q w H') → r v vs H Q
def mApp : WM := fun x xs P => ∃ zs y, x = .lst true zs ∧ xs = [y] ∧ zs.length < 16777216 ∧ P .non (.lst true (zs ++ [y]))
theorem sm_append : SM K rAppend mApp := ⟨fun x xs P ⟨zs, y, h, _⟩ => ⟨_, _, h⟩, fun F N N0 R H v x vs xs P Q hr hA hs ⟨zs, y, e1, e2, hl, hP⟩ k => by
  subst e1 e2
  cases hr with
  | lstO hz =>
    rename_i p us M0
    cases hA with
    | cons ry rn =>
      cases rn
      rename_i u A
      refine ⟨p, us, u, rfl, rfl, hs.get, szl (by rw [hz.len]; exact hl), ?_⟩
      exact k F _ _ _ _ [] _ hP (Same.refl F) (.lstO (hz.app (RepA.one ry))) .non ((Hs.putA (M := M0) (R := ((A ++ []) ++ R)) hs).perm (by walk_at "prm"))⟩
def mPop : WM := fun x xs P => ∃ zs y, x = .lst true (zs ++ [y]) ∧ xs = [] ∧ P y (.lst true zs)
theorem repA_snoc : ∀ {xs : List Vl} {vs : List V} {M : Ow} {y : Vl}, RepA K F vs (xs ++ [y]) M → ∃ us u A B, vs = us ++ [u] ∧ RepA K F us xs A ∧ Rep K F u y B ∧ M.Perm (A ++ B)
  | [], _, _, _, .cons (M := A) a .nil => ⟨[], _, [], A, rfl, .nil, a, by walk_at "prm"⟩
  | x :: xs, _, _, _, .cons (M := A0) a r => by
    obtain ⟨us, u, A, B, e, h1, h2, h3⟩ := repA_snoc r
    exact ⟨_ :: us, u, A0 ++ A, B, by rw [e]; rfl, .cons a h1, h2, ((List.Perm.refl A0).append h3).trans (by walk_at "prm")⟩
theorem sm_pop : SM K rPop mPop := ⟨fun x xs P ⟨zs, y, h, _⟩ => ⟨_, _, h⟩, fun F N N0 R H v x vs xs P Q hr hA hs ⟨zs, y, e1, e2, hP⟩ k => by
  subst e1 e2
  cases hr with
  | lstO hz =>
    rename_i p us M0
    cases hA
    obtain ⟨us', u, A, B, e, h1, h2, h3⟩ := repA_snoc hz
    subst e
    refine ⟨p, _, u, rfl, rfl, hs.get, by simp, ?_⟩
    rw [List.dropLast_concat]
    exact k F _ _ _ _ B _ hP (Same.refl F) (.lstO h1) h2 (Hs.perm (Hs.putA (M := M0) (R := ([] ++ R)) hs) ((List.Perm.cons _ (h3.append_right _)).trans (by walk_at "prm")))⟩
def mRev : WM := fun x xs P => ∃ zs, x = .lst true zs ∧ xs = [] ∧ P .non (.lst true zs.reverse)
theorem repA_rev : ∀ {xs : List Vl} {vs : List V} {M : Ow}, RepA K F vs xs M → ∃ M', RepA K F vs.reverse xs.reverse M' ∧ M.Perm M'
  | _, _, _, .nil => ⟨[], .nil, .refl _⟩
  | _, _, _, .cons (M := A) a r => by
    obtain ⟨M', h1, h2⟩ := repA_rev r
    refine ⟨M' ++ A, by rw [List.reverse_cons, List.reverse_cons]; exact h1.app (RepA.one a), ?_⟩
    exact ((List.Perm.refl A).append h2).trans (by walk_at "prm")
theorem sm_reverse : SM K rReverse mRev := ⟨fun x xs P ⟨zs, h, _⟩ => ⟨_, _, h⟩, fun F N N0 R H v x vs xs P Q hr hA hs ⟨zs, e1, e2, hP⟩ k => by
  subst e1 e2
  cases hr with
  | lstO hz =>
    rename_i p us M0
    cases hA
    obtain ⟨M', h1, h2⟩ := repA_rev hz
    exact ⟨p, _, rfl, rfl, hs.get, k F _ _ _ _ [] _ hP (Same.refl F) (.lstO h1) .non (Hs.perm (Hs.putA (M := M0) (R := ([] ++ R)) hs) ((List.Perm.cons _ (h2.append_right _)).trans (by walk_at "prm")))⟩⟩
def mExt : WM := fun x xs P => ∃ zs o ws, x = .lst true zs ∧ xs = [.lst o ws] ∧ zs.length + ws.length ≤ 16777216 ∧ P .non (.lst true (zs ++ ws))
theorem rep_items {o : Bool} (h : Rep K F v (.lst o xs) N) (hs : Hs F (N ++ R) H) : ∃ p vs N', v = .ref p ∧ H p = some (.lst vs) ∧ RepA K F vs xs N' ∧ ∃ D, N.Perm (D ++ N') := by
  cases h with
  | lstF h r => exact ⟨_, _, [], rfl, hs.f h, r, [], by walk_at "prm"⟩
  | lstO r =>
    rename_i p us M0
    exact ⟨p, us, M0, rfl, hs.get, r, [(p, .lst us)], by walk_at "prm"⟩
theorem sm_extend : SM K rExtend mExt := ⟨fun x xs P ⟨zs, o, ws, h, _⟩ => ⟨_, _, h⟩, fun F N N0 R H v x vs xs P Q hr hA hs ⟨zs, o, ws, e1, e2, hl, hP⟩ k => by
  subst e1 e2
  cases hr with
  | lstO hz =>
    rename_i p us M0
    cases hA with
    | cons ry rn =>
      cases rn
      rename_i u A
      obtain ⟨q, us2, A', rfl, hq, hr2, D, hD⟩ := rep_items (R := ((p, .lst us) :: M0) ++ R) ry (hs.perm (by walk_at "prm"))
      refine ⟨p, q, us, us2, rfl, rfl, hs.get, hq, sz (by rw [hz.len, hr2.len]; exact hl), ?_⟩
      refine k F _ _ _ _ [] _ hP (Same.refl F) (.lstO (hz.app hr2)) .non (Hs.sub (M := D) (Hs.perm (Hs.putA (M := M0) (R := ((A ++ []) ++ R)) hs) ?_))
      exact (List.Perm.cons _ ((List.Perm.refl M0).append ((hD.append_right []).append_right R))).trans (by walk_at "prm")⟩
/-- the receiver a slot's name; the arguments as they come -/
def eMs (i : Nat) (μ : WM) (as : WA) : WE := fun env P => (∃ o ys, env[i]? = some (some (.lst o ys))) ∧ as env fun xs env1 => ∃ x, gSl i env1 = some x ∧ μ x xs fun z x' => P z (pSl i env1 x')
theorem tyV_list {o : Bool} (h : Bor K F M v (.lst o xs)) (hs : Hs F M H) : tyV K "list" v H := by
  obtain ⟨p, vs, rfl, h1, _⟩ := h.lst hs
  exact .inl ⟨rfl, vs, SqL.of h1⟩
theorem hs_mem (hs : Hs F M H) : (∀ a o, F a = some o → H a = some o) ∧ ∀ p ∈ M, NTb p.2 → H p.1 = some p.2 := ⟨fun a o h => hs.f h, fun p hp hn => ((Hs.iff.mp hs).2.1 p hp).1.of hn⟩
theorem mth_core {r : V → List V → Hp → VK → Prop} {μ : WM} {P : Vl → Ev → Prop} {Q : VK} (hm : SM K r μ) (hpl : SPl K pv te get set) (st : Stt K F0 pv σ env vs xs Mf H) (hx : get env = some x) (h : μ x xs fun z x' => P z (set env x'))
    (hv : ∀ u, (∀ Q, Q u H → te σ H Q) → u = v) (k : ∀ z env' w H', P z env' → Stt K F0 pv σ env' [w] [z] Mf H' → Q w H') : r v vs H Q := by
  obtain ⟨F, v', N, N0, R, e, hev, hr, hA, hs, hB, back⟩ := hpl.run F0 Mf env vs xs σ H x st hx
  obtain ⟨q1, q2⟩ := hs_mem hs
  have := hv v' fun Q q => hev H Q q1 q2 q
  subst this
  exact hm.run F N N0 (R ++ Mf) H v' x vs xs _ Q hr hA hs h fun F' x' N' z w Nz H' hP e' hr' hz hs' => k z _ w H' hP (back F' x' N' H' [w] [z] Nz e' hr' (RepA.one hz) hs')
theorem se_ms {r : V → List V → Hp → VK → Prop} {μ : WM} (hm : SM K r μ) (ha : SA K pv EK ξ tas as) : SE K pv EK ξ (tBM K "list" r (tVar i) tas) (eMs i μ as) := ⟨fun F0 Mf env P σ H Q hE st ⟨⟨o, ys, hy⟩, h⟩ k => by
  obtain ⟨F3, N3, M3, e3, hp, hA, he, hs, hB, hBA⟩ := st.all
  obtain ⟨v, hv, bv⟩ := hB i _ hy
  refine ⟨v, hv, tyV_list bv hs, ha.run F0 Mf env _ σ H _ hE st h fun xs env1 vs H1 ⟨x, hx, h1⟩ st1 => ?_⟩
  refine mth_core hm spl_slot st1 hx h1 (fun u hu => ?_) k
  obtain ⟨u', hu', e⟩ := hu (fun z _ => z = u) rfl
  rw [hv] at hu'; cases hu'
  exact e.symm⟩
theorem se_ms0 {r : V → List V → Hp → VK → Prop} {μ : WM} (hm : SM K r μ) : SE K pv EK ξ (tBM0 K "list" r (tVar i)) (eMs i μ aNil) := ⟨fun F0 Mf env P σ H Q hE st h k =>
  (se_ms (i := i) (EK := EK) (ξ := ξ) hm sa_nil).run F0 Mf env P σ H Q hE st h k⟩
/-- the receiver an attribute; the arguments borrowed -/
def eMf (get : Ev → Option Vl) (set : Ev → Vl → Ev) (μ : WM) (β : WBA) : WE := fun env P => ∃ x, get env = some x ∧ (∃ o ys, x = .lst o ys) ∧ β env fun xs => Vl.fzA xs = true ∧ μ x xs fun z x' => P z (set env x')
theorem se_mf {r : V → List V → Hp → VK → Prop} {μ : WM} {β : WBA} (hm : SM K r μ) (hpl : SPl K pv te get set) (ha : SBA K tas β) : SE K pv EK ξ (tBM K "list" r te tas) (eMf get set μ β) := ⟨fun F0 Mf env P σ H Q hE st ⟨x, hx, ⟨o, ys, hxl⟩, h⟩ k => by
  obtain ⟨F, v, N, N0, R, e, hev, hr, hA, hs, hB, back⟩ := hpl.run F0 Mf env [] [] σ H x st hx
  cases hA
  obtain ⟨q1, q2⟩ := hs_mem hs
  refine hev H _ q1 q2 ⟨?_, ha.run F _ σ env H _ _ hB hs h fun F1 H1 vs xs e1 hs1 b1 ⟨hz, h1⟩ => ?_⟩
  · subst hxl
    exact tyV_list (M := N ++ ([] ++ (R ++ Mf))) ⟨N, _, hr, .refl _⟩ hs
  · exact hm.run F1 N [] (R ++ Mf) H1 v x vs xs _ Q (hr.mono e1) (b1.fz hz) hs1 h1 fun F' x' N' z w Nz H' hP e' hr' hz hs' => k z _ w H' hP (back F' x' N' H' [w] [z] Nz (e1.trans e') hr' (RepA.one hz) hs')⟩
theorem se_mf0 {r : V → List V → Hp → VK → Prop} {μ : WM} (hm : SM K r μ) (hpl : SPl K pv te get set) : SE K pv EK ξ (tBM0 K "list" r te) (eMf get set μ bNil) := ⟨fun F0 Mf env P σ H Q hE st h k =>
  (se_mf (EK := EK) (ξ := ξ) hm hpl sb_nil).run F0 Mf env P σ H Q hE st h k⟩
/-! ### xs[i] = e; o.f = e -/
def gSt (get : Ev → Option Vl) (set : Ev → Vl → Ev) (β : WB) : WG := fun y env P => ∃ xs, get env = some (.lst true xs) ∧ β env fun iv => ∃ k j, iv = .int k ∧ ixN xs.length k = some j ∧ P (set env (.lst true (xs.set j y)))
theorem ixN_lt {n j : Nat} {k : Int} (h : ixN n k = some j) : j < n := by
  unfold ixN at h
  split at h
  · split at h
    · cases h; omega
    · cases h
  · split at h
    · cases h; omega
    · cases h
theorem sg_set {ti : TE} {β : WB} (hpl : SPl K pv te get set) (hi : SB K ti β) : SG K pv [] (gSub te ti rSetL) (gSt get set β) := ⟨fun F0 Mf env P σ H v y N st ⟨xs, hx, h⟩ k => by
  obtain ⟨F, p, A, N0, R, e, hev, hr, hA, hs, hB, back⟩ := hpl.run F0 Mf env [v] [y] σ H _ st hx
  obtain ⟨q1, q2⟩ := hs_mem hs
  refine hev H _ q1 q2 (hi.run F _ σ env H _ _ hB hs h fun F1 H1 u iv e1 hs1 b1 ⟨n, j, ei, hj, hP⟩ => ?_)
  subst ei
  cases b1.int
  cases hr with
  | lstO hz =>
    rename_i q us M0
    cases hA with
    | cons ry rn =>
      cases rn
      rename_i B
      obtain ⟨M', D, h1, h2⟩ := (hz.mono e1).set (ry.mono e1) (ixN_lt hj)
      refine ⟨q, us, n, j, rfl, rfl, hs1.get, by rw [hz.len]; exact hj, k _ _ _ hP (fun _ _ => rfl) rfl (back F1 _ _ _ [] [] [] e1 (.lstO h1) .nil ?_)⟩
      refine Hs.sub (M := D) (Hs.perm (Hs.putA (M := M0) (R := ((B ++ []) ++ (R ++ Mf))) hs1) ?_)
      exact (show ((q, HO.lst (us.set j v)) :: (M0 ++ ((B ++ []) ++ (R ++ Mf)))).Perm ((q, HO.lst (us.set j v)) :: ((B ++ M0) ++ (R ++ Mf))) by walk_at "prm").trans ((List.Perm.cons _ (h2.append_right _)).trans (by walk_at "prm"))⟩
def setOr (xs : List Vl) (j : Nat) (y : Vl) : List Vl := if j < xs.length then xs.set j y else xs ++ [y]
/-- o.f = e, o a slot's name -/
def sSetF (i : Nat) (cn : Cn) (j : Nat) (a : WE) : WS := fun VD env => a env fun y env1 => ∃ xs, env1[i]? = some (some (.obj true cn xs)) ∧ j ≤ xs.length ∧ VD.nx (env1.set i (some (.obj true cn (setOr xs j y))))
theorem ss_setF {cn : Cn} {f : Str} (cl : ClsF K (He.ga K cn.nm) cn.ns) (hj : cn.ns[j]? = some f) (ha : SE K pv EK ξ ta a) : SS K pv EK ξ (sFld K (tVar i) ta f) (sSetF i cn j a) := ⟨fun F0 Mf env VD D σ H hE st hD h =>
  ha.run F0 Mf env _ σ H _ hE st h fun y env1 w H1 ⟨xs, hx, hlt, g1⟩ st1 => by
    have hg : gSl i env1 = some (.obj true cn xs) := by unfold gSl; rw [hx]; rfl
    obtain ⟨F, p, A, N0, R, e, hev, hr, hA, hs, hB, back⟩ := (spl_slot (K := K) (pv := pv) (i := i)).run F0 Mf env1 [w] [y] σ H1 _ st1 hg
    obtain ⟨q1, q2⟩ := hs_mem hs
    refine hev H1 _ q1 q2 ?_
    cases hr with
    | objO hz =>
      rename_i q dx us M0
      cases hA with
      | cons ry rn =>
        cases rn
        rename_i B
        refine ⟨q, _, dx, _, rfl, hs.get, cl.cl, cl.no f (List.mem_of_getElem? hj), zip_len cl.ln, ?_⟩
        by_cases hlt2 : j < xs.length
        · obtain ⟨M', D1, h1, h2⟩ := hz.set ry hlt2
          rw [fld_put cl.nd hj (by rw [hz.len]; exact hlt2)]
          rw [show setOr xs j y = xs.set j y by unfold setOr; rw [if_pos hlt2]] at g1
          refine hD.nx _ _ _ g1 (back F _ _ _ [] [] [] (Same.refl F) (.objO (dx := dx) h1) .nil ?_)
          have hs2 : Hs F ((q, Ob (He.ga K cn.nm) dx cn.ns (us.set j w)) :: (M0 ++ ((B ++ []) ++ (R ++ Mf)))) (upd H1 q (Ob (He.ga K cn.nm) dx cn.ns (us.set j w))) := Hs.putA (M := M0) (R := ((B ++ []) ++ (R ++ Mf))) hs
          refine Hs.sub (M := D1) (Hs.perm hs2 ?_)
          refine List.Perm.trans (l₂ := (q, Ob (He.ga K cn.nm) dx cn.ns (us.set j w)) :: ((B ++ M0) ++ (R ++ Mf))) ?_ ((List.Perm.cons _ (h2.append_right _)).trans ?_) <;> walk_at "prm"
        · have ej : j = us.length := by rw [hz.len]; omega
          subst ej
          rw [fld_new cl.nd hj]
          rw [show setOr xs us.length y = xs ++ [y] by unfold setOr; rw [if_neg hlt2]] at g1
          refine hD.nx _ _ _ g1 (back F _ _ _ [] [] [] (Same.refl F) (.objO (dx := dx) (hz.app (RepA.one ry))) .nil ?_)
          have hs2 : Hs F ((q, Ob (He.ga K cn.nm) dx cn.ns (us ++ [w])) :: (M0 ++ ((B ++ []) ++ (R ++ Mf)))) (upd H1 q (Ob (He.ga K cn.nm) dx cn.ns (us ++ [w]))) := Hs.putA (M := M0) (R := ((B ++ []) ++ (R ++ Mf))) hs
          exact Hs.perm hs2 (by walk_at "prm")⟩
/-! ### new lists and tuples -/
/-- a + b, both lists -/
def eCat (a b : WE) : WE := fun env P => a env fun x env1 => b env1 fun y env2 => ∃ o xs o' ys, x = .lst o xs ∧ y = .lst o' ys ∧ xs.length + ys.length ≤ 16777216 ∧ P (.lst true (xs ++ ys)) env2
theorem se_cat (ha : SE K pv EK ξ ta a) (hb : SE K pv EK ξ tb b) : SE K pv EK ξ (tOp rCat ta tb) (eCat a b) := ⟨fun F0 Mf env P σ H Q hE st h k =>
  ha.run F0 Mf env _ σ H _ hE st h fun x env1 v H1 h1 st1 => by
    obtain ⟨F, N, e, rv, st2⟩ := st1.pull
    refine hb.run F (N ++ Mf) env1 _ σ H1 _ (hE.up e) st2 h1 fun y env2 w H2 ⟨o, xs, o', ys, ex, ey, hl, hP⟩ st3 => ?_
    subst ex ey
    obtain ⟨F3, N3, M3, e3, hp, hA, he, hs⟩ := st3
    cases hA with
    | cons rw rn =>
      cases rn
      rename_i B
      obtain ⟨p, us, A', rfl, hpp, hr1, D1, hD1⟩ := rep_items (R := (B ++ []) ++ (M3 ++ Mf)) (rv.mono e3) (hs.perm (by walk_at "prm"))
      obtain ⟨q, us2, B', rfl, hqq, hr2, D2, hD2⟩ := rep_items (R := M3 ++ (N ++ Mf)) rw (hs.perm (by walk_at "prm"))
      refine ⟨p, q, us, us2, rfl, rfl, hpp, hqq, sz (by rw [hr1.len, hr2.len]; exact hl), fun l hln => k _ _ _ _ hP ?_⟩
      refine ⟨F3, (l, .lst (us ++ us2)) :: (A' ++ B'), M3, e.trans e3, hp, RepA.one (.lstO (hr1.app hr2)), he, Hs.new (M := (A' ++ B') ++ (M3 ++ Mf)) (Hs.sub (M := D1 ++ D2) (hs.perm ?_)) hln⟩
      exact (show ((B ++ []) ++ (M3 ++ (N ++ Mf))).Perm ((N ++ B) ++ (M3 ++ Mf)) by walk_at "prm").trans (((hD1.append hD2).append_right _).trans (by walk_at "prm"))⟩
/-- what a reading gives is a new list of frozen things -/
structure SNew (K : PySem.W.Frag) (te : TE) (β : Ev → (List Vl → Prop) → Prop) : Prop where
  run : ∀ F M σ env H P Q, EnvB K F M σ env → Hs F M H → β env P → (∀ F' H' us zs p, Same F F' → Hs F' M H' → RepA K F' us zs [] → P zs → H' p = none → Q (.ref p) (upd H' p (.lst us))) → te σ H Q
def eNew (β : Ev → (List Vl → Prop) → Prop) : WE := fun env P => β env fun zs => P (.lst true zs) env
theorem se_new {β : Ev → (List Vl → Prop) → Prop} (h : SNew K te β) : SE K pv EK ξ te (eNew β) := ⟨fun F0 Mf env P σ H Q hE st hb k => by
  obtain ⟨F, M, e, hp, he, hs⟩ := st.at_
  exact h.run F _ σ env H _ Q (EnvB.of he (.refl _)) hs hb fun F' H' us zs p e' hs' hr hP hpn => k _ _ _ _ hP ⟨F', [(p, .lst us)], M, e.trans e', hp, RepA.one (.lstO hr), he.mono e', hs'.new hpn⟩⟩
/-- .. frozen at once -/
def bNew (β : Ev → (List Vl → Prop) → Prop) : WB := fun env P => β env fun zs => P (.lst false zs)
theorem sb_new {β : Ev → (List Vl → Prop) → Prop} (h : SNew K te β) : SB K te (bNew β) := ⟨fun F M σ env H P Q he hs hb k =>
  h.run F M σ env H _ Q he hs hb fun F' H' us zs p e' hs' hr hP hpn => k (upd F' p (.lst us)) _ _ _ (e'.trans (same_upd (hs'.free hpn))) (hs'.newF hpn) (.of (.lstF upd_same (hr.mono (same_upd (hs'.free hpn))))) hP⟩
abbrev WO := Ev → (Option Int → Prop) → Prop
structure SBO (K : PySem.W.Frag) (to : TO) (β : WO) : Prop where
  run : ∀ F M σ env H P Q, EnvB K F M σ env → Hs F M H → β env P → (∀ F' H' o, Same F F' → Hs F' M H' → P o → Q o H') → to σ H Q
def oNo : WO := fun _ P => P none
theorem so_no : SBO K tNoPart oNo := ⟨fun F M σ env H P Q he hs h k => k F H none (Same.refl F) hs h⟩
def oAt (a : WB) : WO := fun env P => a env fun x => ∃ i, x = .int i ∧ P (some i)
theorem so_at {a : WB} (ha : SB K ta a) : SBO K (tPart ta) (oAt a) := ⟨fun F M σ env H P Q he hs h k => ha.run F M σ env H _ _ he hs h fun F1 H1 v x e1 hs1 b1 ⟨i, e, hP⟩ => by
  subst e; exact ⟨i, b1.int, k F1 H1 _ e1 hs1 hP⟩⟩
def cutX (xs : List Vl) (lo hi : Option Int) : List Vl := (xs.drop (HT.sIx xs.length 0 lo)).take (HT.sIx xs.length xs.length hi - HT.sIx xs.length 0 lo)
theorem repA_uncons {v : V} {x : Vl} {vs : List V} {xs : List Vl} {N : Ow} (h : RepA K F (v :: vs) (x :: xs) N) : ∃ A B, Rep K F v x A ∧ RepA K F vs xs B ∧ A ++ B = N := by
  cases h with | cons a r => exact ⟨_, _, a, r, rfl⟩
theorem RepA.drop (h : RepA K F vs xs []) (n : Nat) : RepA K F (vs.drop n) (xs.drop n) [] := by
  induction n generalizing vs xs with
  | zero => exact h
  | succ n ih =>
    cases vs with
    | nil => cases h; exact .nil
    | cons v vs =>
      cases xs with
      | nil => cases h
      | cons x xs =>
        obtain ⟨A, B, _, r, e⟩ := repA_uncons h
        obtain ⟨rfl, rfl⟩ := List.append_eq_nil_iff.mp e
        exact ih r
theorem RepA.take (h : RepA K F vs xs []) (n : Nat) : RepA K F (vs.take n) (xs.take n) [] := by
  induction n generalizing vs xs with
  | zero => exact .nil
  | succ n ih =>
    cases vs with
    | nil => cases h; exact .nil
    | cons v vs =>
      cases xs with
      | nil => cases h
      | cons x xs =>
        obtain ⟨A, B, a, r, e⟩ := repA_uncons h
        obtain ⟨rfl, rfl⟩ := List.append_eq_nil_iff.mp e
        exact .cons (M := []) (N := []) a (ih r)
theorem repA_cut (h : RepA K F vs xs []) {lo hi : Option Int} : RepA K F (cutV vs lo hi) (cutX xs lo hi) [] := by
  unfold cutV cutX
  rw [h.len]
  exact (h.drop _).take _
/-- xs[lo:hi], a list of frozen things -/
def nSl (a : WB) (l u : WO) : Ev → (List Vl → Prop) → Prop := fun env P => a env fun x => l env fun lo => u env fun hi => ∃ o xs, x = .lst o xs ∧ Vl.fzA xs = true ∧ P (cutX xs lo hi)
theorem sn_sl {a : WB} {l u : WO} {tl th : TO} (ha : SB K ta a) (hl : SBO K tl l) (hu : SBO K th u) : SNew K (tSl (rSlL K) ta tl th) (nSl a l u) := ⟨fun F M σ env H P Q he hs h k =>
  ha.run F M σ env H _ _ he hs h fun F1 H1 v x e1 hs1 b1 h1 => hl.run F1 M σ env H1 _ _ (he.mono e1) hs1 h1 fun F2 H2 lo e2 hs2 h2 => hu.run F2 M σ env H2 _ _ (he.mono (e1.trans e2)) hs2 h2 fun F3 H3 hi e3 hs3 ⟨o, xs, ex, hz, hP⟩ => by
    subst ex
    obtain ⟨p, vs, rfl, hp, hb⟩ := (b1.mono (e2.trans e3)).lst hs3
    exact ⟨p, vs, rfl, SqL.of hp, fun q hq => k F3 H3 _ _ q (e1.trans (e2.trans e3)) hs3 (repA_cut (BorA.fz hb hz)) hP hq⟩⟩
/-- t[lo:hi], a tuple, not the whole of it -/
def bSlT (a : WB) (l u : WO) : WB := fun env P => a env fun x => l env fun lo => u env fun hi => ∃ xs, x = .tup xs ∧ Vl.fzA xs = true ∧ ¬ (HT.sIx xs.length 0 lo = 0 ∧ HT.sIx xs.length xs.length hi = xs.length) ∧ P (.tup (cutX xs lo hi))
theorem sb_slT {a : WB} {l u : WO} {tl th : TO} (ha : SB K ta a) (hl : SBO K tl l) (hu : SBO K th u) : SB K (tSl (rSlT K) ta tl th) (bSlT a l u) := ⟨fun F M σ env H P Q he hs h k =>
  ha.run F M σ env H _ _ he hs h fun F1 H1 v x e1 hs1 b1 h1 => hl.run F1 M σ env H1 _ _ (he.mono e1) hs1 h1 fun F2 H2 lo e2 hs2 h2 => hu.run F2 M σ env H2 _ _ (he.mono (e1.trans e2)) hs2 h2 fun F3 H3 hi e3 hs3 ⟨xs, ex, hz, hn, hP⟩ => by
    subst ex
    obtain ⟨p, vs, rfl, hp, hb⟩ := (b1.mono (e2.trans e3)).tup
    refine ⟨p, vs, rfl, same_t hs3.fz hp, by rw [hb.len]; exact hn, fun q hq => k (upd F3 q (.tup (cutV vs lo hi))) _ _ _ (e1.trans (e2.trans (e3.trans (same_upd (hs3.free hq))))) (hs3.newF hq) (.of (.tup upd_same ((repA_cut (BorA.fz hb hz)).mono (same_upd (hs3.free hq))))) hP⟩⟩
/-- s[lo:hi], a text -/
def bSlS (a : WB) (l u : WO) : WB := fun env P => a env fun x => l env fun lo => u env fun hi => ∃ z : List Nat, x = .str (S z) ∧ z.length ≤ 16777216 ∧ P (.str (cutS (S z) lo hi))
theorem sb_slS {a : WB} {l u : WO} {tl th : TO} (ha : SB K ta a) (hl : SBO K tl l) (hu : SBO K th u) : SB K (tSl rSlS ta tl th) (bSlS a l u) := ⟨fun F M σ env H P Q he hs h k =>
  ha.run F M σ env H _ _ he hs h fun F1 H1 v x e1 hs1 b1 h1 => hl.run F1 M σ env H1 _ _ (he.mono e1) hs1 h1 fun F2 H2 lo e2 hs2 h2 => hu.run F2 M σ env H2 _ _ (he.mono (e1.trans e2)) hs2 h2 fun F3 H3 hi e3 hs3 ⟨z, ex, hz, hP⟩ => by
    subst ex
    exact ⟨S z, b1.str, by rw [SX.S_len]; exact sz hz, k F3 H3 _ _ (e1.trans (e2.trans e3)) hs3 (.of .str) hP⟩⟩
/-- s[::-1] -/
def bRevS (a : WB) : WB := fun env P => a env fun x => ∃ z : List Nat, x = .str (S z) ∧ z.length ≤ 16777216 ∧ P (.str (S z.reverse))
theorem sb_revS {a : WB} (ha : SB K ta a) : SB K (tRevS K ta) (bRevS a) := ⟨fun F M σ env H P Q he hs h k => ha.run F M σ env H _ _ he hs h fun F1 H1 v x e1 hs1 b1 ⟨z, ex, hz, hP⟩ => by
  subst ex; exact ⟨z, b1.str, hz, k F1 H1 _ _ e1 hs1 (.of .str) hP⟩⟩
def wAddS : W2 := fun x y P => ∃ a b : List Nat, x = .str (S a) ∧ y = .str (S b) ∧ a.length + b.length ≤ 16777216 ∧ P (.str (S (a ++ b)))
theorem sr_addS : SR2 K rAddS wAddS := ⟨fun F M H v x w y P Q hs hv hw ⟨a, b, e1, e2, hl, hP⟩ k => by
  subst e1 e2
  cases hv.str; cases hw.str
  exact nAddS hl (k F H _ _ (Same.refl F) hs (.of .str) hP)⟩
def wRepS : W2 := fun x y P => ∃ (a : List Nat) (n : Int), x = .str (S a) ∧ y = .int n ∧ -9223372036854775808 ≤ n ∧ n < 9223372036854775808 ∧ a.length * n.toNat ≤ 16777216 ∧ P (.str (S (List.replicate n.toNat a).flatten))
theorem sr_repS : SR2 K rRepS wRepS := ⟨fun F M H v x w y P Q hs hv hw ⟨a, n, e1, e2, h1, h2, hl, hP⟩ k => by
  subst e1 e2
  cases hv.str; cases hw.int
  exact nRepS h1 h2 hl (k F H _ _ (Same.refl F) hs (.of .str) hP)⟩
def wInSign : W2 := fun x y P => ∃ (c : Nat) (z : List Nat), x = .str (S [c]) ∧ y = .str (S z) ∧ P (.bl (decide (c ∈ z)))
theorem sr_inSign : SR2 K rInSign wInSign := ⟨fun F M H v x w y P Q hs hv hw ⟨c, z, e1, e2, hP⟩ k => by
  subst e1 e2
  cases hv.str; cases hw.str
  exact ⟨c, S z, rfl, rfl, k F H _ _ (Same.refl F) hs (.of .bl) hP⟩⟩
/-- "".join(xs) -/
def strsOf : List (List Nat) → List Vl := List.map fun y => Vl.str (S y)
def bJoin (a : WB) : WB := fun env P => a env fun x => ∃ o ys, x = .lst o (strsOf ys) ∧ ys.flatten.length ≤ 16777216 ∧ P (.str (S ys.flatten))
theorem borA_strs : ∀ {ys : List (List Nat)} {vs : List V}, BorA K F M vs (strsOf ys) → vs = ys.map fun y => V.str (S y)
  | [], [], _ => rfl
  | [], _ :: _, h => h.elim
  | _ :: _, [], h => h.elim
  | y :: ys, v :: vs, h => by
    have := borA_strs (ys := ys) (vs := vs) h.2
    rw [h.1.str, this]; rfl
theorem join_of {o : Bool} {ys : List (List Nat)} {Q : VK} (hs : Hs F M H) (b : Bor K F M v (.lst o (strsOf ys))) (hl : ys.flatten.length ≤ 16777216) (h : Q (.str (S ys.flatten)) H) : rJoin K (.str (S [])) [v] H Q := by
  obtain ⟨p, vs, rfl, hp, hb⟩ := b.lst hs
  exact nJoin_of (.inl (by rw [List.map_map, show (V.str ∘ S) = fun y => V.str (S y) from rfl, ← borA_strs hb]; exact SqL.of hp)) hl h
theorem sb_join {a : WB} (ha : SB K ta a) : SB K (tJoin K (tC (.str "")) ta) (bJoin a) := ⟨fun F M σ env H P Q he hs h k => by
  show (∃ a, V.str "" = .str a) ∧ ta σ H _
  refine ⟨⟨_, rfl⟩, ha.run F M σ env H _ _ he hs h fun F1 H1 v x e1 hs1 b1 ⟨o, ys, ex, hl, hP⟩ => ?_⟩
  subst ex
  rw [empty_eq']
  exact join_of hs1 b1 hl (k F1 H1 _ _ e1 hs1 (.of .str) hP)⟩
where
  empty_eq' : ("" : Str) = S [] := by decide +kernel
def eJoin (a : WE) : WE := fun env P => a env fun x env1 => ∃ o ys, x = .lst o (strsOf ys) ∧ ys.flatten.length ≤ 16777216 ∧ P (.str (S ys.flatten)) env1
theorem se_join (ha : SE K pv EK ξ ta a) : SE K pv EK ξ (tJoin K (tC (.str "")) ta) (eJoin a) := ⟨fun F0 Mf env P σ H Q hE st h k => by
  show (∃ a, V.str "" = .str a) ∧ ta σ H _
  refine ⟨⟨_, rfl⟩, ha.run F0 Mf env _ σ H _ hE st h fun x env1 v H1 ⟨o, ys, ex, hl, hP⟩ st1 => ?_⟩
  subst ex
  obtain ⟨F, N, M, e, hp, hA, he, hs, hB, hBA⟩ := st1.all
  rw [sb_join.empty_eq']
  exact join_of hs hBA.1 hl (k _ _ _ _ hP (Stt.push (N := []) (Same.refl F0) .str st1.dropV))⟩
/-- list(x), tuple(x) -/
def nListOf (a : WB) : Ev → (List Vl → Prop) → Prop := fun env P => a env fun x => ∃ xs, ((∃ o, x = .lst o xs) ∨ x = .tup xs) ∧ Vl.fzA xs = true ∧ P xs
theorem sn_listOf {a : WB} (ha : SB K ta a) : SNew K (tCB (rListOf K) (tCons ta tNil)) (nListOf a) := ⟨fun F M σ env H P Q he hs h k =>
  ha.run F M σ env H _ _ he hs h fun F1 H1 v x e1 hs1 b1 ⟨xs, hx, hz, hP⟩ => by
    rcases hx with ⟨o, ex⟩ | ex <;> subst ex
    · obtain ⟨p, vs, rfl, hp, hb⟩ := b1.lst hs1
      exact ⟨p, vs, rfl, .inl (SqL.of hp), fun q hq => k F1 H1 _ _ q e1 hs1 (BorA.fz hb hz) hP hq⟩
    · obtain ⟨p, vs, rfl, hp, hb⟩ := b1.tup
      exact ⟨p, vs, rfl, .inr (same_t hs1.fz hp), fun q hq => k F1 H1 _ _ q e1 hs1 (BorA.fz hb hz) hP hq⟩⟩
def wTupOf : WN := fun zs P => ∃ x xs, zs = [x] ∧ ((∃ o, x = .lst o xs) ∨ x = .tup xs) ∧ Vl.fzA xs = true ∧ P (.tup xs)
theorem sr_tupOf : SRN K (rTupleOf K) wTupOf := ⟨fun F M H vs zs P Q hs hv ⟨x, xs, e, hx, hz, hP⟩ k => by
  subst e
  obtain ⟨v, rfl, hb⟩ := bor1 hv
  rcases hx with ⟨o, ex⟩ | ex <;> subst ex
  · obtain ⟨p, us, rfl, hp, hb2⟩ := hb.lst hs
    exact ⟨p, us, rfl, .inl ⟨SqL.of hp, fun q hq => k (upd F q (.tup us)) _ _ _ (same_upd (hs.free hq)) (hs.newF hq) (.of (.tup upd_same ((BorA.fz hb2 hz).mono (same_upd (hs.free hq))))) hP⟩⟩
  · have hb' := hb
    obtain ⟨p, us, rfl, hp, hb2⟩ := hb.tup
    exact ⟨p, us, rfl, .inr ⟨same_t hs.fz hp, k F H _ _ (Same.refl F) hs hb' hP⟩⟩⟩
/-! int(x), max, min, all, any, sum, isinstance -/
def wInt1 : WN := fun zs P => (∃ i, zs = [.int i] ∧ P (.int i)) ∨ ∃ b, zs = [.bl b] ∧ P (.int (if b then 1 else 0))
theorem sr_int1 : SRN K rInt1 wInt1 := ⟨fun F M H vs zs P Q hs hv h k => by
  rcases h with ⟨i, e, hP⟩ | ⟨i, e, hP⟩ <;> subst e
  · obtain ⟨v, rfl, hb⟩ := bor1 hv
    cases hb.int
    exact .inl ⟨i, rfl, k F H _ _ (Same.refl F) hs (.of .int) hP⟩
  · obtain ⟨v, rfl, hb⟩ := bor1 hv
    cases hb.bl
    exact .inr ⟨i, rfl, k F H _ _ (Same.refl F) hs (.of .int) hP⟩⟩
def wMax2 : WN := fun zs P => ∃ i j : Int, zs = [.int i, .int j] ∧ P (.int (max i j))
def wMin2 : WN := fun zs P => ∃ i j : Int, zs = [.int i, .int j] ∧ P (.int (min i j))
theorem sr_max2 : SRN K rMax2 wMax2 := ⟨fun F M H vs zs P Q hs hv ⟨i, j, e, hP⟩ k => by
  subst e
  rw [vals_int2 hv]
  exact ⟨i, j, rfl, k F H _ _ (Same.refl F) hs (.of .int) (by rw [show (if j > i then j else i) = max i j by rw [Int.max_def]; split <;> split <;> omega]; exact hP)⟩⟩
theorem sr_min2 : SRN K rMin2 wMin2 := ⟨fun F M H vs zs P Q hs hv ⟨i, j, e, hP⟩ k => by
  subst e
  rw [vals_int2 hv]
  exact ⟨i, j, rfl, k F H _ _ (Same.refl F) hs (.of .int) (by rw [show (if j < i then j else i) = min i j by rw [Int.min_def]; split <;> split <;> omega]; exact hP)⟩⟩
def wAll : WN := fun zs P => ∃ (o : Bool) (bs : List Bool), zs = [.lst o (bs.map Vl.bl)] ∧ P (.bl (bs.all id))
def wAny : WN := fun zs P => ∃ (o : Bool) (bs : List Bool), zs = [.lst o (bs.map Vl.bl)] ∧ P (.bl (bs.any id))
theorem borA_bls : ∀ {ys : List Bool} {vs : List V}, BorA K F M vs (ys.map Vl.bl) → vs = ys.map V.bl
  | [], [], _ => rfl
  | [], _ :: _, h => h.elim
  | _ :: _, [], h => h.elim
  | y :: ys, v :: vs, h => by
    have := borA_bls (ys := ys) (vs := vs) h.2
    rw [h.1.bl, this]; rfl
theorem borA_ints : ∀ {ys : List Int} {vs : List V}, BorA K F M vs (ys.map Vl.int) → vs = ys.map V.int
  | [], [], _ => rfl
  | [], _ :: _, h => h.elim
  | _ :: _, [], h => h.elim
  | y :: ys, v :: vs, h => by
    have := borA_ints (ys := ys) (vs := vs) h.2
    rw [h.1.int, this]; rfl
theorem sr_all : SRN K (rAll K) wAll := ⟨fun F M H vs zs P Q hs hv ⟨o, bs, e, hP⟩ k => by
  subst e
  obtain ⟨v, rfl, hb⟩ := bor1 hv
  obtain ⟨p, us, rfl, hp, hb2⟩ := hb.lst hs
  exact ⟨p, bs, rfl, by rw [← borA_bls hb2]; exact SqL.of hp, k F H _ _ (Same.refl F) hs (.of .bl) hP⟩⟩
theorem sr_any : SRN K (rAny K) wAny := ⟨fun F M H vs zs P Q hs hv ⟨o, bs, e, hP⟩ k => by
  subst e
  obtain ⟨v, rfl, hb⟩ := bor1 hv
  obtain ⟨p, us, rfl, hp, hb2⟩ := hb.lst hs
  exact ⟨p, bs, rfl, by rw [← borA_bls hb2]; exact SqL.of hp, k F H _ _ (Same.refl F) hs (.of .bl) hP⟩⟩
def wSum : WN := fun zs P => ∃ (o : Bool) (ns : List Int), zs = [.lst o (ns.map Vl.int)] ∧ P (.int ns.sum)
theorem sr_sum : SRN K (rSum K) wSum := ⟨fun F M H vs zs P Q hs hv ⟨o, bs, e, hP⟩ k => by
  subst e
  obtain ⟨v, rfl, hb⟩ := bor1 hv
  obtain ⟨p, us, rfl, hp, hb2⟩ := hb.lst hs
  exact ⟨p, bs, rfl, by rw [← borA_ints hb2]; exact SqL.of hp, k F H _ _ (Same.refl F) hs (.of .int) hP⟩⟩
/-- the built-in type of a tree -/
def Vl.ty : Vl → Option String
  | .non => some "NoneType"
  | .bl _ => some "bool"
  | .int _ => some "int"
  | .str _ => some "str"
  | .tup _ => some "tuple"
  | .lst _ _ => some "list"
  | _ => none
theorem bor_ty {T : String} (hs : Hs F M H) (hb : Bor K F M v x) (h : x.ty = some T) : TyX K H v (.type T) := by
  cases x with
  | non => cases hb.non; cases h; exact .base .non
  | bl b => cases hb.bl; cases h; exact .base (.bl b)
  | int i => cases hb.int; cases h; exact .base (.int i)
  | str s => cases hb.str; cases h; exact .base (.str s)
  | tup xs =>
    obtain ⟨a, vs, rfl, h1, h2⟩ := hb.tup
    cases h; exact tyT (same_t hs.fz h1)
  | lst o xs =>
    obtain ⟨a, vs, rfl, h1, h2⟩ := hb.lst hs
    cases h; exact tyL (SqL.of h1)
  | raw _ => cases h
  | dic _ _ => cases h
  | obj _ _ _ => cases h
  | err _ _ _ _ _ => cases h
  | cls _ => cases h
  | scr _ => cases h
  | dit _ _ => cases h
  | dix _ _ => cases h
  | adr _ _ => cases h
def wIsi : WN := fun zs P => ∃ x T A b, zs = [x, .raw (.ty T)] ∧ x.ty = some A ∧ kitB A T = some b ∧ P (.bl b)
theorem sr_isi : SRN K (rIsi K) wIsi := ⟨fun F M H vs zs P Q hs hv ⟨x, T, A, b, e, h1, h2, hP⟩ k => by
  subst e
  obtain ⟨v, w, rfl, hb, hb'⟩ := bor2 hv
  cases hb'.raw
  exact ⟨v, .ty T, _, _, b, rfl, .ty T, bor_ty hs hb h1, kit_ty h2, k F H _ _ (Same.refl F) hs (.of .bl) hP⟩⟩
/-! ### data -/
mutual
def Vl.dat : Vl → Option PyData
  | .non => some .none
  | .bl b => some (.bool b)
  | .int i => some (.int i)
  | .str s => some (.str s)
  | .tup xs => (Vl.datA xs).map .tuple
  | .lst _ xs => (Vl.datA xs).map .list
  | _ => none
def Vl.datA : List Vl → Option (List PyData)
  | [] => some []
  | x :: xs => match x.dat, Vl.datA xs with
    | some d, some ds => some (d :: ds)
    | _, _ => none
end
mutual
theorem bor_dat (hs : Hs F M H) : ∀ {x : Vl} {v : V} {N R : Ow} {d : PyData}, Rep K F v x N → M.Perm (N ++ R) → x.dat = some d → Dp K H v d
  | _, _, _, _, _, .non, _, h => by rw [Vl.dat] at h; cases h; exact .non
  | _, _, _, _, _, .bl, _, h => by rw [Vl.dat] at h; cases h; exact .bl _
  | _, _, _, _, _, .int, _, h => by rw [Vl.dat] at h; cases h; exact .int _
  | _, _, _, _, _, .str, _, h => by rw [Vl.dat] at h; cases h; exact .str _
  | _, _, _, _, _, .raw, _, h => by rw [Vl.dat] at h <;> first | cases h | (intros; simp)
  | _, _, _, _, _, .tup hT r, p, h => by
    rw [Vl.dat] at h
    obtain ⟨ds, h1, rfl⟩ := Option.map_eq_some_iff.mp h
    exact .tup (same_t hs.fz (sqT hT)) (bor_datA hs r p h1)
  | _, _, _, _, _, .lstF hT r, p, h => by
    rw [Vl.dat] at h
    obtain ⟨ds, h1, rfl⟩ := Option.map_eq_some_iff.mp h
    exact .lst (SqL.of (hs.f hT)) (bor_datA hs r (R := M) (by walk_at "prm") h1)
  | _, _, _, R, _, .lstO (a := a) (vs := vs) (M := M0) r, p, h => by
    rw [Vl.dat] at h
    obtain ⟨ds, h1, rfl⟩ := Option.map_eq_some_iff.mp h
    exact .lst (SqL.of (Hs.get (M := M0 ++ R) (hs.perm p))) (bor_datA hs r (R := (a, HO.lst vs) :: R) (p.trans (by walk_at "prm")) h1)
  | _, _, _, _, _, .dicF _ _, _, h => by rw [Vl.dat] at h <;> first | cases h | (intros; simp)
  | _, _, _, _, _, .dicO _, _, h => by rw [Vl.dat] at h <;> first | cases h | (intros; simp)
  | _, _, _, _, _, .objF _ _, _, h => by rw [Vl.dat] at h <;> first | cases h | (intros; simp)
  | _, _, _, _, _, .objO _, _, h => by rw [Vl.dat] at h <;> first | cases h | (intros; simp)
  | _, _, _, _, _, .err _ _, _, h => by rw [Vl.dat] at h <;> first | cases h | (intros; simp)
  | _, _, _, _, _, .scr _, _, h => by rw [Vl.dat] at h <;> first | cases h | (intros; simp)
  | _, _, _, _, _, .ditF _ _, _, h => by rw [Vl.dat] at h <;> first | cases h | (intros; simp)
  | _, _, _, _, _, .ditO _, _, h => by rw [Vl.dat] at h <;> first | cases h | (intros; simp)
  | _, _, _, _, _, .dixF _ _ _, _, h => by rw [Vl.dat] at h <;> first | cases h | (intros; simp)
  | _, _, _, _, _, .dixO _ _, _, h => by rw [Vl.dat] at h <;> first | cases h | (intros; simp)
  | _, _, _, _, _, .adr _, _, h => by rw [Vl.dat] at h <;> first | cases h | (intros; simp)
  | _, _, _, _, _, .cls, _, h => by rw [Vl.dat] at h <;> first | cases h | (intros; simp)
  | _, _, _, _, _, .err0, _, h => by rw [Vl.dat] at h <;> first | cases h | (intros; simp)
theorem bor_datA (hs : Hs F M H) : ∀ {xs : List Vl} {vs : List V} {N R : Ow} {ds : List PyData}, RepA K F vs xs N → M.Perm (N ++ R) → Vl.datA xs = some ds → DpAll K H vs ds
  | _, _, _, _, _, .nil, _, h => by rw [Vl.datA] at h; cases h; exact .nil
  | _, _, _, R, _, .cons (M := M1) (N := N1) a r, p, h => by
    rw [Vl.datA] at h
    split at h
    · rename_i d ds h1 h2
      cases h
      exact .cons (bor_dat hs a (R := N1 ++ R) (p.trans (by walk_at "prm")) h1) (bor_datA hs r (R := M1 ++ R) (p.trans (by walk_at "prm")) h2)
    · cases h
end
def wEqD (neg : Bool) : W2 := fun x y P => ∃ d e, x.dat = some d ∧ y.dat = some e ∧ SeqAt.shaped d = true ∧ SeqAt.shaped e = true ∧ P (.bl (PyData.eqv d e ^^ neg))
theorem sr_eqD : SR2 K (rEqD K) (wEqD false) := ⟨fun F M H v x w y P Q hs ⟨N1, R1, hv, p1⟩ ⟨N2, R2, hw, p2⟩ ⟨d, e, h1, h2, h3, h4, hP⟩ k => by
  rw [Bool.xor_false] at hP
  exact ⟨d, e, bor_dat hs hv p1 h1, bor_dat hs hw p2 h2, h3, h4, k F H _ _ (Same.refl F) hs (.of .bl) hP⟩⟩
theorem sr_neD : SR2 K (rNeD K) (wEqD true) := ⟨fun F M H v x w y P Q hs ⟨N1, R1, hv, p1⟩ ⟨N2, R2, hw, p2⟩ ⟨d, e, h1, h2, h3, h4, hP⟩ k => by
  rw [Bool.xor_true] at hP
  exact ⟨d, e, bor_dat hs hv p1 h1, bor_dat hs hw p2 h2, h3, h4, k F H _ _ (Same.refl F) hs (.of .bl) hP⟩⟩
end
end Sh


set_option Elab.async false
set_option linter.all false
set_option maxRecDepth 100000
set_option maxHeartbeats 4000000
/-! # Steps over trees -/
namespace Sh
open PySem PySem.Spec PyProof.Rows L2
open SX (S)
class Fzc (x : Vl) : Prop where
  h : x.fz = true
class FzAc (xs : List Vl) : Prop where
  h : Vl.fzA xs = true
instance : Fzc .non := ⟨rfl⟩
instance {b : Bool} : Fzc (.bl b) := ⟨rfl⟩
instance {b : Int} : Fzc (.int b) := ⟨rfl⟩
instance {b : Str} : Fzc (.str b) := ⟨rfl⟩
instance {b : V} : Fzc (.raw b) := ⟨rfl⟩
instance {xs : List Vl} [h : FzAc xs] : Fzc (.tup xs) := ⟨by rw [Vl.fz]; exact h.h⟩
instance {xs : List Vl} : Fzc (.lst false xs) := ⟨rfl⟩
instance {xs : List (Key × Vl)} : Fzc (.dic false xs) := ⟨rfl⟩
instance {c : Cn} {xs : List Vl} : Fzc (.obj false c xs) := ⟨rfl⟩
instance {a : Addr} {d : Option Addr} {C : Str} {ns : List Str} {xs : List Vl} : Fzc (.err a d C ns xs) := ⟨rfl⟩
instance {c : Cn} : Fzc (.cls c) := ⟨rfl⟩
instance {ns : List Int} : Fzc (.scr ns) := ⟨rfl⟩
instance {xs : List (List Int × Vl)} : Fzc (.dit false xs) := ⟨rfl⟩
instance {xs : List (List Int × Int)} : Fzc (.dix false xs) := ⟨rfl⟩
instance {a : Addr} {x : Vl} [h : Fzc x] : Fzc (.adr a x) := ⟨by rw [Vl.fz]; exact h.h⟩
instance : FzAc [] := ⟨rfl⟩
instance {x : Vl} {xs : List Vl} [a : Fzc x] [b : FzAc xs] : FzAc (x :: xs) := ⟨by rw [Vl.fzA, a.h, b.h]; rfl⟩
mutual
theorem frz_fz : ∀ {x : Vl}, x.fz = true → x.frz = x
  | .non, _ => rfl
  | .bl _, _ => rfl
  | .int _, _ => rfl
  | .str _, _ => rfl
  | .raw _, _ => rfl
  | .tup xs, h => by rw [Vl.fz] at h; rw [Vl.frz, frz_fzA h]
  | .lst false _, _ => rfl
  | .dic false _, _ => rfl
  | .obj false _ _, _ => rfl
  | .err _ _ _ _ _, _ => rfl
  | .cls _, _ => rfl
  | .scr _, _ => rfl
  | .lst true _, h => by simp [Vl.fz] at h
  | .dic true _, h => by simp [Vl.fz] at h
  | .obj true _ _, h => by simp [Vl.fz] at h
  | .dit false _, _ => rfl
  | .dix false _, _ => rfl
  | .dit true _, h => by simp [Vl.fz] at h
  | .dix true _, h => by simp [Vl.fz] at h
  | .adr a x, h => by rw [Vl.fz] at h; rw [Vl.frz, frz_fz h]
theorem frz_fzA : ∀ {xs : List Vl}, Vl.fzA xs = true → Vl.frzA xs = xs
  | [], _ => rfl
  | x :: xs, h => by
    rw [Vl.fzA, Bool.and_eq_true] at h
    rw [Vl.frzA, frz_fz h.1, frz_fzA h.2]
end
theorem fzA_app {xs ys : List Vl} : Vl.fzA (xs ++ ys) = (Vl.fzA xs && Vl.fzA ys) := by
  induction xs with
  | nil => rfl
  | cons x xs ih => rw [List.cons_append, Vl.fzA, Vl.fzA, ih, Bool.and_assoc]
theorem fzA_map {α : Type} {f : α → Vl} (h : ∀ a, (f a).fz = true) : ∀ {l : List α}, Vl.fzA (l.map f) = true
  | [] => rfl
  | a :: l => by rw [List.map_cons, Vl.fzA, h a, fzA_map h]; rfl
theorem fzA_get : ∀ {xs : List Vl} {i : Nat} {x : Vl}, Vl.fzA xs = true → xs[i]? = some x → x.fz = true
  | [], _, _, _, h => by simp at h
  | y :: xs, 0, x, h, e => by
    rw [Vl.fzA, Bool.and_eq_true] at h
    simp at e; subst e; exact h.1
  | y :: xs, i + 1, x, h, e => by
    rw [Vl.fzA, Bool.and_eq_true] at h
    exact fzA_get (i := i) h.2 (by simpa using e)
theorem fzA_take {xs : List Vl} {n : Nat} (h : Vl.fzA xs = true) : Vl.fzA (xs.take n) = true := by
  have : Vl.fzA (xs.take n ++ xs.drop n) = true := by rw [List.take_append_drop]; exact h
  rw [fzA_app, Bool.and_eq_true] at this
  exact this.1
theorem fzA_drop {xs : List Vl} {n : Nat} (h : Vl.fzA xs = true) : Vl.fzA (xs.drop n) = true := by
  have : Vl.fzA (xs.take n ++ xs.drop n) = true := by rw [List.take_append_drop]; exact h
  rw [fzA_app, Bool.and_eq_true] at this
  exact this.2
/-- slots -/
class LkE (env : Ev) (i : Nat) (x : outParam Vl) : Prop where
  h : env[i]? = some (some x)
instance {v : Vl} {σ : Ev} : LkE (some v :: σ) 0 v := ⟨rfl⟩
instance {x : Option Vl} {σ : Ev} {i : Nat} {v : Vl} [l : LkE σ i v] : LkE (x :: σ) (i + 1) v := ⟨by rw [List.getElem?_cons_succ]; exact l.h⟩
class SsE (env : Ev) (i : Nat) (x : Option Vl) (env' : outParam Ev) : Prop where
  h : env.set i x = env'
instance {x y : Option Vl} {σ : Ev} : SsE (y :: σ) 0 x (x :: σ) := ⟨rfl⟩
instance {x y : Option Vl} {σ σ' : Ev} {i : Nat} [l : SsE σ i x σ'] : SsE (y :: σ) (i + 1) x (y :: σ') := ⟨by rw [List.set_cons_succ, l.h]⟩
class AtX (xs : List Vl) (i : Int) (v : outParam Vl) : Prop where
  h : atI xs i = some v
theorem atXN {xs : List Vl} {n : Nat} {v : Vl} (h : xs[n]? = some v) : AtX xs (n : Int) v := ⟨atI_nat h⟩
instance {xs : List Vl} {v : Vl} [l : Nt xs 0 v] : AtX xs 0 v := atXN (n := 0) l.h
instance {xs : List Vl} {v : Vl} [l : Nt xs 1 v] : AtX xs 1 v := atXN (n := 1) l.h
instance {xs : List Vl} {v : Vl} [l : Nt xs 2 v] : AtX xs 2 v := atXN (n := 2) l.h
instance {xs : List Vl} {v : Vl} [l : Nt xs 3 v] : AtX xs 3 v := atXN (n := 3) l.h
instance {xs : List Vl} {v : Vl} [l : Nt xs 4 v] : AtX xs 4 v := atXN (n := 4) l.h
instance {xs : List Vl} {v : Vl} [l : Nt xs 5 v] : AtX xs 5 v := atXN (n := 5) l.h
instance {xs : List Vl} {v : Vl} : AtX (xs ++ [v]) (-1) v := ⟨atI_last xs v⟩
class SaX (xs : List Vl) (i : Int) (y : Vl) (ys : outParam (List Vl)) : Prop where
  h : ∃ j, ixN xs.length i = some j ∧ xs.set j y = ys
theorem saXN {xs ys : List Vl} {n : Nat} {y : Vl} (l : Sl xs n y ys) : SaX xs (n : Int) y ys := ⟨n, by unfold ixN; rw [if_pos (by omega), if_pos (by have := l.lt; omega)]; simp, l.h⟩
instance {xs ys : List Vl} {y : Vl} [l : Sl xs 0 y ys] : SaX xs 0 y ys := saXN l
instance {xs ys : List Vl} {y : Vl} [l : Sl xs 1 y ys] : SaX xs 1 y ys := saXN l
instance {xs ys : List Vl} {y : Vl} [l : Sl xs 2 y ys] : SaX xs 2 y ys := saXN l
instance {xs ys : List Vl} {y : Vl} [l : Sl xs 3 y ys] : SaX xs 3 y ys := saXN l
instance {xs : List Vl} {y z : Vl} : SaX (xs ++ [z]) (-1) y (xs ++ [y]) := ⟨xs.length, by unfold ixN; rw [if_neg (by omega), if_pos (by simp; omega)]; simp; omega, by rw [List.set_append_right _ _ (Nat.le_refl _), Nat.sub_self]; rfl⟩
section
variable {env env' env'' : Ev} {P : Vl → Ev → Prop} {Q : Vl → Prop} {QA : List Vl → Ev → Prop} {QB : Bool → Ev → Prop} {qa : List Vl → Prop} {qb : Bool → Prop} {q : Prop} {p : Ev → Prop} {β β' β'' β3 : WB} {τ υ : WBT} {a b : WE} {T U : WT} {as : WA} {bs : WBA} {ρ ρ' ρ'' : W2} {ρ1 : W1} {ρn : WN} {i j : Int} {n k : Nat} {x y z : Vl} {xs ys : List Vl} {s r : WS} {N B C : Ev → Prop} {R : Vl → Ev → Prop} {γ : WG} {γs : WGs} {c d : Bool} {u w : Str} {ks : List (Option Nat)} {ev : Ev} {φ : WF} {ξ : Xi} {l h : WO} {qo : Option Int → Prop} {cn : Cn}
-- what is given back
def nOut (pn : List Bool) (env : Ev) (q : Ev → Prop) : Prop := q (outs pn env)
instance {o : Option Vl} {bs : List Bool} : St1 (nOut (true :: bs) (o :: env) p) (nOut bs env fun ev => p (o :: ev)) := ⟨id⟩
instance {o : Option Vl} {bs : List Bool} : St1 (nOut (false :: bs) (o :: env) p) (nOut bs env fun ev => p (none :: ev)) := ⟨id⟩
instance : St1 (nOut [] env p) (p []) := ⟨id⟩
instance {b : Bool} {A B : Prop} : St1 (if (!!b) = true then A else B) (if b = true then A else B) := ⟨fun h => by rw [Bool.not_not]; exact h⟩
-- wants
def nFz (x : Vl) (q : Prop) : Prop := x.fz = true ∧ q
instance [f : Fzc x] : St1 (nFz x q) q := ⟨fun h => ⟨f.h, h⟩⟩
instance [f : Fzc x] : St1 (x.fz = true ∧ q) q := ⟨fun h => ⟨f.h, h⟩⟩
instance [f : FzAc xs] : St1 (Vl.fzA xs = true ∧ q) q := ⟨fun h => ⟨f.h, h⟩⟩
instance : St1 (wBl (.bl c) qb) (qb c) := ⟨fun h => ⟨c, rfl, h⟩⟩
-- borrowing reads
instance [l : LkE env n x] : St1 (bVar n env Q) (Q x) := ⟨fun h => ⟨x, l.h, h⟩⟩
instance : St1 (bC x env Q) (Q x) := ⟨id⟩
instance : St1 (bOp ρ β β' env Q) (β env fun x => β' env fun y => ρ x y Q) := ⟨id⟩
instance : St1 (bUn ρ1 β env Q) (β env fun x => ρ1 x Q) := ⟨id⟩
instance : St1 (bNil env qa) (qa []) := ⟨id⟩
instance : St1 (bCons β bs env qa) (β env fun x => bs env fun xs => qa (x :: xs)) := ⟨id⟩
instance : St1 (bCB ρn bs env Q) (bs env fun xs => ρn xs Q) := ⟨id⟩
instance : St1 (bTup bs env Q) (bs env fun xs => wTup xs Q) := ⟨id⟩
def nLen (xs : List Vl) (q : Prop) : Prop := xs.length ≤ 16777216 ∧ q
instance [f : FzAc xs] : St1 (wTup xs Q) (nLen xs (Q (.tup xs))) := ⟨fun h => ⟨f.h, h⟩⟩
instance : St1 (bTest β env qb) (β env fun x => wBl x qb) := ⟨id⟩
instance : St1 (bAnd τ υ env qb) (τ env fun c => if c = true then υ env qb else qb false) := ⟨id⟩
instance : St1 (bOr τ υ env qb) (τ env fun c => if c = true then qb true else υ env qb) := ⟨id⟩
instance : St1 (bNot τ env qb) (τ env fun c => qb (!c)) := ⟨id⟩
instance : St1 (bIf τ β β' env Q) (τ env fun c => if c = true then β env Q else β' env Q) := ⟨id⟩
instance : St1 (bAndV β β' env Q) (β env fun x => wBl x fun c => if c = true then β' env Q else Q (.bl false)) := ⟨id⟩
instance : St1 (bOrV β β' env Q) (β env fun x => wBl x fun c => if c = true then Q (.bl true) else β' env Q) := ⟨id⟩
instance : St1 (bNotV β env Q) (β env fun x => wBl x fun c => Q (.bl (!c))) := ⟨id⟩
instance : St1 (bTru β env qb) (β env fun x => wTru x qb) := ⟨id⟩
instance : St1 (wTru .non qb) (qb false) := ⟨id⟩
instance : St1 (wTru (.bl c) qb) (qb c) := ⟨id⟩
instance : St1 (wTru (.int i) qb) (qb (i != 0)) := ⟨id⟩
class IeX (xs : List Vl) (b : outParam Bool) : Prop where
  h : (!xs.isEmpty) = b
instance : IeX [] false := ⟨rfl⟩
instance : IeX (x :: xs) true := ⟨rfl⟩
instance : IeX (xs ++ [x]) true := ⟨by cases xs <;> rfl⟩
instance (priority := 10) : IeX xs (!xs.isEmpty) := ⟨rfl⟩
instance [e : IeX xs c] : St1 (wTru (.tup xs) qb) (qb c) := ⟨fun h => by show qb (!xs.isEmpty); rw [e.h]; exact h⟩
instance [e : IeX xs c] : St1 (wTru (.lst d xs) qb) (qb c) := ⟨fun h => by show qb (!xs.isEmpty); rw [e.h]; exact h⟩
instance : St1 (bChain ρ ρ' β β' β'' env Q) (β env fun x => β' env fun y => wCh ρ x y Q (β'' env fun z => ρ' y z Q)) := ⟨id⟩
instance : St1 (bChain3 ρ ρ' ρ'' β β' β'' β3 env Q) (β env fun x => β' env fun y => wCh ρ x y Q (β'' env fun z => wCh ρ' y z Q (β3 env fun w => ρ'' z w Q))) := ⟨id⟩
instance : St1 (wCh wLeI (.int i) (.int j) Q q) (if decide (i ≤ j) = true then q else Q (.bl false)) := ⟨fun h => ⟨i, j, rfl, rfl, _, rfl, h⟩⟩
instance : St1 (wCh wLtI (.int i) (.int j) Q q) (if decide (i < j) = true then q else Q (.bl false)) := ⟨fun h => ⟨i, j, rfl, rfl, _, rfl, h⟩⟩
instance : St1 (wCh wGeI (.int i) (.int j) Q q) (if decide (j ≤ i) = true then q else Q (.bl false)) := ⟨fun h => ⟨i, j, rfl, rfl, _, rfl, h⟩⟩
instance : St1 (wCh wGtI (.int i) (.int j) Q q) (if decide (j < i) = true then q else Q (.bl false)) := ⟨fun h => ⟨i, j, rfl, rfl, _, rfl, h⟩⟩
def nFldV (cn : Cn) (i : Nat) (x : Vl) (Q : Vl → Prop) : Prop := ∃ o xs y, x = .obj o cn xs ∧ xs[i]? = some y ∧ Q y
instance : St1 (bFld cn n β env Q) (β env fun x => nFldV cn n x Q) := ⟨id⟩
instance [f : Nt xs n y] : St1 (nFldV cn n (.obj c cn xs) Q) (Q y) := ⟨fun h => ⟨c, xs, y, rfl, f.h, h⟩⟩
-- numbers
instance : St1 (wAddI (.int i) (.int j) Q) (Q (.int (i + j))) := ⟨fun h => ⟨i, j, rfl, rfl, h⟩⟩
instance : St1 (wSubI (.int i) (.int j) Q) (Q (.int (i - j))) := ⟨fun h => ⟨i, j, rfl, rfl, h⟩⟩
instance : St1 (wLtI (.int i) (.int j) Q) (Q (.bl (decide (i < j)))) := ⟨fun h => ⟨i, j, rfl, rfl, h⟩⟩
instance : St1 (wLeI (.int i) (.int j) Q) (Q (.bl (decide (i ≤ j)))) := ⟨fun h => ⟨i, j, rfl, rfl, h⟩⟩
instance : St1 (wGtI (.int i) (.int j) Q) (Q (.bl (decide (j < i)))) := ⟨fun h => ⟨i, j, rfl, rfl, h⟩⟩
instance : St1 (wGeI (.int i) (.int j) Q) (Q (.bl (decide (j ≤ i)))) := ⟨fun h => ⟨i, j, rfl, rfl, h⟩⟩
instance : St1 (wNegI (.int i) Q) (Q (.int (-i))) := ⟨fun h => ⟨i, rfl, h⟩⟩
instance : St1 (wEqB false (.int i) (.int j) Q) (Q (.bl (decide (i = j)))) := ⟨fun h => .inl ⟨i, j, rfl, rfl, by rw [Bool.xor_false]; exact h⟩⟩
instance : St1 (wEqB true (.int i) (.int j) Q) (Q (.bl (!decide (i = j)))) := ⟨fun h => .inl ⟨i, j, rfl, rfl, by rw [Bool.xor_true]; exact h⟩⟩
instance : St1 (wEqB false (.str u) (.str w) Q) (Q (.bl (decide (u = w)))) := ⟨fun h => .inr (.inl ⟨u, w, rfl, rfl, by rw [Bool.xor_false]; exact h⟩)⟩
instance : St1 (wEqB true (.str u) (.str w) Q) (Q (.bl (!decide (u = w)))) := ⟨fun h => .inr (.inl ⟨u, w, rfl, rfl, by rw [Bool.xor_true]; exact h⟩)⟩
instance : St1 (wEqB false (.bl c) (.bl d) Q) (Q (.bl (decide (c = d)))) := ⟨fun h => .inr (.inr ⟨c, d, rfl, rfl, by rw [Bool.xor_false]; exact h⟩)⟩
instance : St1 (wEqB true (.bl c) (.bl d) Q) (Q (.bl (!decide (c = d)))) := ⟨fun h => .inr (.inr ⟨c, d, rfl, rfl, by rw [Bool.xor_true]; exact h⟩)⟩
instance : St1 (wIsN false .non .non Q) (Q (.bl true)) := ⟨fun h => ⟨rfl, true, rfl, h⟩⟩
instance : St1 (wIsN false (.int i) .non Q) (Q (.bl false)) := ⟨fun h => ⟨rfl, false, rfl, h⟩⟩
instance : St1 (wIsN false (.str u) .non Q) (Q (.bl false)) := ⟨fun h => ⟨rfl, false, rfl, h⟩⟩
instance : St1 (wIsN false (.bl c) .non Q) (Q (.bl false)) := ⟨fun h => ⟨rfl, false, rfl, h⟩⟩
instance : St1 (wIsN false (.tup xs) .non Q) (Q (.bl false)) := ⟨fun h => ⟨rfl, false, rfl, h⟩⟩
instance : St1 (wIsN false (.lst c xs) .non Q) (Q (.bl false)) := ⟨fun h => ⟨rfl, false, rfl, h⟩⟩
instance : St1 (wIsN false (.obj c cn xs) .non Q) (Q (.bl false)) := ⟨fun h => ⟨rfl, false, rfl, h⟩⟩
instance : St1 (wIsN true .non .non Q) (Q (.bl false)) := ⟨fun h => ⟨rfl, true, rfl, h⟩⟩
instance : St1 (wIsN true (.int i) .non Q) (Q (.bl true)) := ⟨fun h => ⟨rfl, false, rfl, h⟩⟩
instance : St1 (wIsN true (.str u) .non Q) (Q (.bl true)) := ⟨fun h => ⟨rfl, false, rfl, h⟩⟩
instance : St1 (wIsN true (.bl c) .non Q) (Q (.bl true)) := ⟨fun h => ⟨rfl, false, rfl, h⟩⟩
instance : St1 (wIsN true (.tup xs) .non Q) (Q (.bl true)) := ⟨fun h => ⟨rfl, false, rfl, h⟩⟩
instance : St1 (wIsN true (.lst c xs) .non Q) (Q (.bl true)) := ⟨fun h => ⟨rfl, false, rfl, h⟩⟩
theorem v_mulL (h1 : -18446744073709551616 < i) (h2 : i < 18446744073709551616) (h : Q (.int (i * j))) : wMulI (.int i) (.int j) Q := ⟨i, j, rfl, rfl, .inl ⟨h1, h2⟩, h⟩
theorem v_mulR (h1 : -18446744073709551616 < j) (h2 : j < 18446744073709551616) (h : Q (.int (i * j))) : wMulI (.int i) (.int j) Q := ⟨i, j, rfl, rfl, .inr ⟨h1, h2⟩, h⟩
theorem v_divI (h1 : 0 < j) (h2 : j < 18446744073709551616) (h : Q (.int (i / j))) : wDivI (.int i) (.int j) Q := ⟨i, j, rfl, rfl, divW h1 h2, h⟩
theorem v_modI (h1 : 0 < j) (h : Q (.int (i % j))) : wModI (.int i) (.int j) Q := ⟨i, j, rfl, rfl, h1, h⟩
theorem v_powI {b : Int} (h1 : 0 ≤ j ∧ j ≤ 1000000 ∧ i.natAbs < 2 ^ 64) (e : i ^ j.toNat = b) (h : Q (.int b)) : wPowI (.int i) (.int j) Q := ⟨i, j, rfl, rfl, h1, by show Q (.int (i ^ j.toNat)); rw [e]; exact h⟩
instance : St1 (wPowI (.int 10) (.int 18) Q) (Q (.int 1000000000000000000)) := ⟨v_powI (by decide) (by decide +kernel)⟩
instance : St1 (wPowI (.int 10) (.int 9) Q) (Q (.int 1000000000)) := ⟨v_powI (by decide) (by decide +kernel)⟩
instance : St1 (wPowI (.int 10) (.int 12) Q) (Q (.int 1000000000000)) := ⟨v_powI (by decide) (by decide +kernel)⟩
instance : St1 (wPowI (.int 10) (.int 5) Q) (Q (.int 100000)) := ⟨v_powI (by decide) (by decide +kernel)⟩
instance : St1 (wPowI (.int 10) (.int 6) Q) (Q (.int 1000000)) := ⟨v_powI (by decide) (by decide +kernel)⟩
instance : St1 (wPowI (.int 10) (.int 10) Q) (Q (.int 10000000000)) := ⟨v_powI (by decide) (by decide +kernel)⟩
-- items, lengths
instance [f : AtX xs i z] : St1 (wIx (.lst c xs) (.int i) Q) (Q z) := ⟨fun h => ⟨i, rfl, .inl ⟨c, xs, z, rfl, f.h, h⟩⟩⟩
instance [f : AtX xs i z] : St1 (wIx (.tup xs) (.int i) Q) (Q z) := ⟨fun h => ⟨i, rfl, .inr (.inl ⟨xs, z, rfl, f.h, h⟩)⟩⟩
theorem v_ixL (e : atI xs i = some z) (h : Q z) : wIx (.lst c xs) (.int i) Q := ⟨i, rfl, .inl ⟨c, xs, z, rfl, e, h⟩⟩
theorem v_ixT (e : atI xs i = some z) (h : Q z) : wIx (.tup xs) (.int i) Q := ⟨i, rfl, .inr (.inl ⟨xs, z, rfl, e, h⟩)⟩
theorem v_ixS {t : List Nat} {m : Nat} (hl : t.length ≤ 16777216) (e : atI t i = some m) (h : Q (.str (S [m]))) : wIx (.str (S t)) (.int i) Q := ⟨i, rfl, .inr (.inr ⟨t, m, rfl, hl, e, h⟩)⟩
instance : St1 (wLen [.lst c xs] Q) (Q (.int (xs.length : Int))) := ⟨fun h => ⟨_, rfl, .inl ⟨c, xs, rfl, h⟩⟩⟩
instance : St1 (wLen [.tup xs] Q) (Q (.int (xs.length : Int))) := ⟨fun h => ⟨_, rfl, .inr (.inl ⟨xs, rfl, h⟩)⟩⟩
theorem v_lenS {t : List Nat} (hl : t.length ≤ 16777216) (h : Q (.int (t.length : Int))) : wLen [.str (S t)] Q := ⟨_, rfl, .inr (.inr ⟨t, rfl, hl, h⟩)⟩
instance : St1 (wInt1 [.int i] Q) (Q (.int i)) := ⟨fun h => .inl ⟨i, rfl, h⟩⟩
instance : St1 (wInt1 [.bl c] Q) (Q (.int (if c then 1 else 0))) := ⟨fun h => .inr ⟨c, rfl, h⟩⟩
instance : St1 (wMax2 [.int i, .int j] Q) (Q (.int (max i j))) := ⟨fun h => ⟨i, j, rfl, h⟩⟩
instance : St1 (wMin2 [.int i, .int j] Q) (Q (.int (min i j))) := ⟨fun h => ⟨i, j, rfl, h⟩⟩
instance [f : FzAc xs] : St1 (wTupOf [.lst c xs] Q) (Q (.tup xs)) := ⟨fun h => ⟨_, xs, rfl, .inl ⟨c, rfl⟩, f.h, h⟩⟩
instance [f : FzAc xs] : St1 (wTupOf [.tup xs] Q) (Q (.tup xs)) := ⟨fun h => ⟨_, xs, rfl, .inr rfl, f.h, h⟩⟩
class TyV (x : Vl) (t : outParam String) : Prop where
  h : x.ty = some t
instance : TyV .non "NoneType" := ⟨rfl⟩
instance : TyV (.bl c) "bool" := ⟨rfl⟩
instance : TyV (.int i) "int" := ⟨rfl⟩
instance : TyV (.str u) "str" := ⟨rfl⟩
instance : TyV (.tup xs) "tuple" := ⟨rfl⟩
instance : TyV (.lst c xs) "list" := ⟨rfl⟩
instance {A t : String} [f : TyV x A] [g : Kt A t c] : St1 (wIsi [x, .raw (.ty t)] Q) (Q (.bl c)) := ⟨fun h => ⟨x, t, A, c, rfl, f.h, g.h, h⟩⟩
-- slices, texts
instance : St1 (oNo env qo) (qo none) := ⟨id⟩
def nI (x : Vl) (q : Int → Prop) : Prop := ∃ i, x = .int i ∧ q i
instance {q : Int → Prop} : St1 (nI (.int i) q) (q i) := ⟨fun h => ⟨i, rfl, h⟩⟩
instance : St1 (oAt β env qo) (β env fun x => nI x fun i => qo (some i)) := ⟨id⟩
def nCutL (x : Vl) (lo hi : Option Int) (qa : List Vl → Prop) : Prop := ∃ o xs, x = .lst o xs ∧ Vl.fzA xs = true ∧ qa (cutX xs lo hi)
instance : St1 (nSl β l h env qa) (β env fun x => l env fun lo => h env fun hi => nCutL x lo hi qa) := ⟨id⟩
instance {lo hi : Option Int} [f : FzAc xs] : St1 (nCutL (.lst c xs) lo hi qa) (qa (cutX xs lo hi)) := ⟨fun h => ⟨c, xs, rfl, f.h, h⟩⟩
def nCutT (x : Vl) (lo hi : Option Int) (Q : Vl → Prop) : Prop := ∃ xs, x = .tup xs ∧ Vl.fzA xs = true ∧ ¬ (HT.sIx xs.length 0 lo = 0 ∧ HT.sIx xs.length xs.length hi = xs.length) ∧ Q (.tup (cutX xs lo hi))
instance : St1 (bSlT β l h env Q) (β env fun x => l env fun lo => h env fun hi => nCutT x lo hi Q) := ⟨id⟩
def nCutSv (x : Vl) (lo hi : Option Int) (Q : Vl → Prop) : Prop := ∃ z : List Nat, x = .str (S z) ∧ z.length ≤ 16777216 ∧ Q (.str (cutS (S z) lo hi))
instance : St1 (bSlS β l h env Q) (β env fun x => l env fun lo => h env fun hi => nCutSv x lo hi Q) := ⟨id⟩
theorem v_cutS {t w : List Nat} {lo hi : Option Int} (hl : t.length ≤ 16777216) (e : cutS (S t) lo hi = S w) (h : Q (.str (S w))) : nCutSv (.str (S t)) lo hi Q := ⟨t, rfl, hl, by rw [e]; exact h⟩
def nRevSv (x : Vl) (Q : Vl → Prop) : Prop := ∃ z : List Nat, x = .str (S z) ∧ z.length ≤ 16777216 ∧ Q (.str (S z.reverse))
instance : St1 (bRevS β env Q) (β env fun x => nRevSv x Q) := ⟨id⟩
theorem v_revS {t : List Nat} (hl : t.length ≤ 16777216) (h : Q (.str (S t.reverse))) : nRevSv (.str (S t)) Q := ⟨t, rfl, hl, h⟩
theorem v_addS {t w : List Nat} (hl : t.length + w.length ≤ 16777216) (h : Q (.str (S (t ++ w)))) : wAddS (.str (S t)) (.str (S w)) Q := ⟨t, w, rfl, rfl, hl, h⟩
theorem v_repS {t : List Nat} (h1 : -9223372036854775808 ≤ i) (h2 : i < 9223372036854775808) (hl : t.length * i.toNat ≤ 16777216) (h : Q (.str (S (List.replicate i.toNat t).flatten))) : wRepS (.str (S t)) (.int i) Q := ⟨t, i, rfl, rfl, h1, h2, hl, h⟩
def nJoinV (x : Vl) (Q : Vl → Prop) : Prop := ∃ o ys, x = .lst o (strsOf ys) ∧ ys.flatten.length ≤ 16777216 ∧ Q (.str (S ys.flatten))
instance : St1 (bJoin β env Q) (β env fun x => nJoinV x Q) := ⟨id⟩
instance : St1 (eJoin a env P) (a env fun x env1 => nJoinV x fun z => P z env1) := ⟨id⟩
theorem v_join {ys : List (List Nat)} (e : xs = strsOf ys) (hl : ys.flatten.length ≤ 16777216) (h : Q (.str (S ys.flatten))) : nJoinV (.lst c xs) Q := ⟨c, ys, by rw [e], hl, h⟩
def nLof (x : Vl) (qa : List Vl → Prop) : Prop := ∃ xs, ((∃ o, x = .lst o xs) ∨ x = .tup xs) ∧ Vl.fzA xs = true ∧ qa xs
instance : St1 (nListOf β env qa) (β env fun x => nLof x qa) := ⟨id⟩
instance [f : FzAc xs] : St1 (nLof (.lst c xs) qa) (qa xs) := ⟨fun h => ⟨xs, .inl ⟨c, rfl⟩, f.h, h⟩⟩
instance [f : FzAc xs] : St1 (nLof (.tup xs) qa) (qa xs) := ⟨fun h => ⟨xs, .inr rfl, f.h, h⟩⟩
-- expressions in a state
instance : St1 (eB β env P) (β env fun x => nFz x (P x env)) := ⟨id⟩
instance [l : LkE env n x] [e : SsE env n none env'] : St1 (eMov n env P) (P x env') := ⟨fun h => ⟨x, l.h, by rw [e.h]; exact h⟩⟩
instance [l : LkE env n x] [f : Fzc x] : St1 (eFrz n env P) (P x env) := ⟨fun h => ⟨x, l.h, by
  rw [frz_fz f.h]
  have : env.set n (some x) = env := by
    obtain ⟨hl, hv⟩ := List.getElem?_eq_some_iff.mp l.h
    rw [← hv]; exact List.set_getElem_self hl
  rw [this]; exact h⟩⟩
instance (priority := 900) [l : LkE env n (.lst true xs)] [f : FzAc xs] [e : SsE env n (some (.lst false xs)) env'] : St1 (eFrz n env P) (P (.lst false xs) env') := ⟨fun h => ⟨_, l.h, by
  rw [show (Vl.lst true xs).frz = .lst false (Vl.frzA xs) from rfl, frz_fzA f.h, e.h]; exact h⟩⟩
instance (priority := 900) [l : LkE env n (.obj true cn xs)] [f : FzAc xs] [e : SsE env n (some (.obj false cn xs)) env'] : St1 (eFrz n env P) (P (.obj false cn xs) env') := ⟨fun h => ⟨_, l.h, by
  rw [show (Vl.obj true cn xs).frz = .obj false cn (Vl.frzA xs) from rfl, frz_fzA f.h, e.h]; exact h⟩⟩
def nFrz (x : Vl) (Q : Vl → Prop) : Prop := Q x.frz
instance : St1 (eFz a env P) (a env fun x env1 => nFrz x fun z => P z env1) := ⟨id⟩
instance [f : Fzc x] : St1 (nFrz x Q) (Q x) := ⟨fun h => by unfold nFrz; rw [frz_fz f.h]; exact h⟩
instance (priority := 900) [f : FzAc xs] : St1 (nFrz (.lst true xs) Q) (Q (.lst false xs)) := ⟨fun h => by unfold nFrz; rw [show (Vl.lst true xs).frz = .lst false (Vl.frzA xs) from rfl, frz_fzA f.h]; exact h⟩
instance (priority := 900) [f : FzAc xs] : St1 (nFrz (.obj true cn xs) Q) (Q (.obj false cn xs)) := ⟨fun h => by unfold nFrz; rw [show (Vl.obj true cn xs).frz = .obj false cn (Vl.frzA xs) from rfl, frz_fzA f.h]; exact h⟩
instance : St1 (aNil env QA) (QA [] env) := ⟨id⟩
instance : St1 (aCons a as env QA) (a env fun x env1 => as env1 fun xs env2 => QA (x :: xs) env2) := ⟨id⟩
instance [l : LkE env n x] : St1 (aIo n as env QA) (as env fun xs env1 => QA (.non :: xs) env1) := ⟨fun h => ⟨⟨x, l.h⟩, h⟩⟩
instance : St1 (aB bs env QA) (bs env fun xs => Vl.fzA xs = true ∧ QA xs env) := ⟨id⟩
instance : St1 (eOp ρ a b env P) (a env fun x env1 => b env1 fun y env2 => ρ x y (wz fun z => P z env2)) := ⟨id⟩
instance [f : Fzc x] : St1 (wz Q x) (Q x) := ⟨fun h => ⟨f.h, h⟩⟩
instance : St1 (eUn ρ1 a env P) (a env fun x env1 => ρ1 x (wz fun z => P z env1)) := ⟨id⟩
instance : St1 (eCB ρn as env P) (as env fun xs env1 => ρn xs (wz fun z => P z env1)) := ⟨id⟩
instance : St1 (eTup as env P) (as env fun xs env1 => nLen xs (P (.tup xs) env1)) := ⟨id⟩
instance : St1 (eLst as env P) (as env fun xs env1 => nLen xs (P (.lst true xs) env1)) := ⟨id⟩
instance : St1 (nLen [] q) q := ⟨fun h => ⟨by simp, h⟩⟩
instance : St1 (nLen [x] q) q := ⟨fun h => ⟨by simp, h⟩⟩
instance {x1 x2 : Vl} : St1 (nLen [x1, x2] q) q := ⟨fun h => ⟨by simp, h⟩⟩
instance {x1 x2 x3 : Vl} : St1 (nLen [x1, x2, x3] q) q := ⟨fun h => ⟨by simp, h⟩⟩
instance {x1 x2 x3 x4 : Vl} : St1 (nLen [x1, x2, x3, x4] q) q := ⟨fun h => ⟨by simp, h⟩⟩
instance {x1 x2 x3 x4 x5 : Vl} : St1 (nLen [x1, x2, x3, x4, x5] q) q := ⟨fun h => ⟨by simp, h⟩⟩
instance {x1 x2 x3 x4 x5 x6 : Vl} : St1 (nLen [x1, x2, x3, x4, x5, x6] q) q := ⟨fun h => ⟨by simp, h⟩⟩
instance {x1 x2 x3 x4 x5 x6 x7 : Vl} : St1 (nLen [x1, x2, x3, x4, x5, x6, x7] q) q := ⟨fun h => ⟨by simp, h⟩⟩
instance : St1 (tB0 τ env QB) (τ env fun c => QB c env) := ⟨id⟩
instance : St1 (tYs env QB) (QB true env) := ⟨id⟩
instance : St1 (tTst a env QB) (a env fun x env1 => wBl x fun c => QB c env1) := ⟨id⟩
instance : St1 (tTr a env QB) (a env fun x env1 => wTru x fun c => QB c env1) := ⟨id⟩
instance : St1 (tAn T U env QB) (T env fun c env1 => if c = true then U env1 QB else QB false env1) := ⟨id⟩
instance : St1 (tOrr T U env QB) (T env fun c env1 => if c = true then QB true env1 else U env1 QB) := ⟨id⟩
instance : St1 (tNo T env QB) (T env fun c env1 => QB (!c) env1) := ⟨id⟩
instance : St1 (eIf T a b env P) (T env fun c env1 => if c = true then a env1 P else b env1 P) := ⟨id⟩
instance : St1 (eAndV a b env P) (a env fun x env1 => wBl x fun c => if c = true then b env1 P else P (.bl false) env1) := ⟨id⟩
instance : St1 (eOrV a b env P) (a env fun x env1 => wBl x fun c => if c = true then P (.bl true) env1 else b env1 P) := ⟨id⟩
instance : St1 (eNotV a env P) (a env fun x env1 => wBl x fun c => P (.bl (!c)) env1) := ⟨id⟩
instance : St1 (eNew (fun env qa => nSl β l h env qa) env P) (nSl β l h env fun zs => P (.lst true zs) env) := ⟨id⟩
instance {ν : Ev → (List Vl → Prop) → Prop} : St1 (eNew ν env P) (ν env fun zs => P (.lst true zs) env) := ⟨id⟩
instance {ν : Ev → (List Vl → Prop) → Prop} : St1 (bNew ν env Q) (ν env fun zs => Q (.lst false zs)) := ⟨id⟩
def nCat (x y : Vl) (Q : Vl → Prop) : Prop := ∃ o xs o' ys, x = .lst o xs ∧ y = .lst o' ys ∧ xs.length + ys.length ≤ 16777216 ∧ Q (.lst true (xs ++ ys))
instance : St1 (eCat a b env P) (a env fun x env1 => b env1 fun y env2 => nCat x y fun z => P z env2) := ⟨id⟩
theorem v_cat (hl : xs.length + ys.length ≤ 16777216) (h : Q (.lst true (xs ++ ys))) : nCat (.lst c xs) (.lst d ys) Q := ⟨c, xs, d, ys, rfl, rfl, hl, h⟩
-- calls
instance : St1 (eCall φ ks ξ as env P) (as env fun xs env1 => wCall φ ks ξ xs env1 P) := ⟨id⟩
def nCallG (φ : WF) (ks : List (Option Nat)) (ξ : Xi) (ys : List Vl) (env2 : Ev) (P : Vl → Ev → Prop) : Prop := φ ys (fun x ev => nPB ks ev env2 (P x)) fun C fs ev => nPB ks ev env2 (ξ C fs)
instance : St1 (wCall φ ks ξ xs env P) (takeK ks xs env fun ys env2 => nCallG φ ks ξ ys env2 P) := ⟨id⟩
instance [l : LkE env n x] [e : SsE env n none env'] : St1 (takeK (some n :: ks) (y :: xs) env QA) (takeK ks xs env' fun ys e => QA (x :: ys) e) := ⟨fun h => ⟨x, l.h, by rw [e.h]; exact h⟩⟩
instance : St1 (takeK (none :: ks) (y :: xs) env QA) (takeK ks xs env fun ys e => QA (y :: ys) e) := ⟨id⟩
instance : St1 (takeK [] [] env QA) (QA [] env) := ⟨id⟩
instance : St1 (nPB [] ev env p) (p env) := ⟨id⟩
instance [e : SsE env n (some x) env'] : St1 (nPB (some n :: ks) (some x :: ev) env p) (nPB ks ev env' p) := ⟨fun h => by unfold nPB at h ⊢; rw [putBack, e.h]; exact h⟩
instance {o : Option Vl} : St1 (nPB (none :: ks) (o :: ev) env p) (nPB ks ev env p) := ⟨fun h => by unfold nPB at h ⊢; rw [putBack]; exact h⟩
def nObj (cn : Cn) (x : Vl) (q : Prop) : Prop := (∃ o xs, x = .obj o cn xs) ∧ q
instance : St1 (nObj cn (.obj c cn xs) q) q := ⟨fun h => ⟨⟨c, xs, rfl⟩, h⟩⟩
instance [l : LkE env n (.obj c cn ys)] : St1 (eMethIo n cn φ ks ξ as env P) (as env fun xs env1 => wCall φ (some n :: ks) ξ (.non :: xs) env1 P) := ⟨fun h => ⟨⟨c, ys, l.h⟩, h⟩⟩
instance : St1 (eMethEx a cn φ ks ξ as env P) (a env fun x env0 => nObj cn x (as env0 fun xs env1 => wCall φ (none :: ks) ξ (x :: xs) env1 P)) := ⟨id⟩
def nMakeG (cn : Cn) (φ : WF) (ks : List (Option Nat)) (ξ : Xi) (ys : List Vl) (env2 : Ev) (P : Vl → Ev → Prop) : Prop := φ (.obj true cn [] :: ys) (fun x ev => x = .non ∧ nMk ev fun o ev' => nPB ks ev' env2 (P o)) fun C fs ev => ∃ o ev', ev = o :: ev' ∧ nPB ks ev' env2 (ξ C fs)
instance : St1 (eMake cn φ ks ξ as env P) (as env fun xs env1 => takeK ks xs env1 fun ys env2 => nMakeG cn φ ks ξ ys env2 P) := ⟨id⟩
instance {qm : Vl → Ev → Prop} : St1 (nMk (some x :: ev) qm) (qm x ev) := ⟨fun h => ⟨x, ev, rfl, h⟩⟩
instance : St1 (Vl.non = Vl.non ∧ q) q := ⟨fun h => ⟨rfl, h⟩⟩
-- methods of lists
def nMs (n : Nat) (μ : WM) (xs : List Vl) (env1 : Ev) (P : Vl → Ev → Prop) : Prop := ∃ x, gSl n env1 = some x ∧ μ x xs fun z x' => P z (pSl n env1 x')
instance {μ : WM} [l : LkE env n (.lst c ys)] : St1 (eMs n μ as env P) (as env fun xs env1 => nMs n μ xs env1 P) := ⟨fun h => ⟨⟨c, ys, l.h⟩, h⟩⟩
def nMu (μ : WM) (x : Vl) (xs : List Vl) (R : Vl → Vl → Prop) : Prop := μ x xs R
theorem gSl_of [l : LkE env n x] : gSl n env = some x := by unfold gSl; rw [l.h]; rfl
theorem v_app [l : LkE env n (.lst true xs)] [e : SsE env n (some (.lst true (xs ++ [y]))) env'] (hl : xs.length < 16777216) (h : P .non env') : nMs n mApp [y] env P := ⟨_, gSl_of, xs, y, rfl, rfl, hl, (by rw [e.h]; exact h : P _ (env.set n (some _)))⟩
theorem v_pop [l : LkE env n (.lst true (xs ++ [y]))] [e : SsE env n (some (.lst true xs)) env'] (h : P y env') : nMs n mPop [] env P := ⟨_, gSl_of, xs, y, rfl, rfl, (by rw [e.h]; exact h : P _ (env.set n (some _)))⟩
theorem v_rev [l : LkE env n (.lst true xs)] [e : SsE env n (some (.lst true xs.reverse)) env'] (h : P .non env') : nMs n mRev [] env P := ⟨_, gSl_of, xs, rfl, rfl, (by rw [e.h]; exact h : P _ (env.set n (some _)))⟩
theorem v_ext [l : LkE env n (.lst true xs)] [e : SsE env n (some (.lst true (xs ++ ys))) env'] (hl : xs.length + ys.length ≤ 16777216) (h : P .non env') : nMs n mExt [.lst c ys] env P := ⟨_, gSl_of, xs, c, ys, rfl, rfl, hl, (by rw [e.h]; exact h : P _ (env.set n (some _)))⟩
-- attributes that are changed
class GfE (env : Ev) (i : Nat) (cn : Cn) (j : Nat) (x : outParam Vl) : Prop where
  h : gFd i cn j env = some x
instance [l : LkE env n (.obj true cn xs)] [f : Nt xs k x] : GfE env n cn k x := ⟨by unfold gFd; rw [l.h]; simp [f.h]⟩
class PfE (env : Ev) (i : Nat) (cn : Cn) (j : Nat) (x : Vl) (env' : outParam Ev) : Prop where
  h : pFd i cn j env x = env'
instance [l : LkE env n (.obj true cn xs)] [f : Sl xs k x ys] [e : SsE env n (some (.obj true cn ys)) env'] : PfE env n cn k x env' := ⟨by unfold pFd; rw [l.h]; simp only [Option.getD_some]; rw [f.h, e.h]⟩
def nMf (n : Nat) (cn : Cn) (k : Nat) (μ : WM) (x : Vl) (xs : List Vl) (env : Ev) (P : Vl → Ev → Prop) : Prop := Vl.fzA xs = true ∧ μ x xs fun z x' => P z (pFd n cn k env x')
instance {μ : WM} [l : GfE env n cn k (.lst c ys)] : St1 (eMf (gFd n cn k) (pFd n cn k) μ bs env P) (bs env fun xs => nMf n cn k μ (.lst c ys) xs env P) := ⟨fun h => ⟨_, l.h, ⟨c, ys, rfl⟩, h⟩⟩
theorem v_appF [f : Fzc y] [e : PfE env n cn k (.lst true (xs ++ [y])) env'] (hl : xs.length < 16777216) (h : P .non env') : nMf n cn k mApp (.lst true xs) [y] env P := ⟨by rw [Vl.fzA, f.h]; rfl, xs, y, rfl, rfl, hl, (by rw [e.h]; exact h : P _ (pFd n cn k env _))⟩
theorem v_popF [e : PfE env n cn k (.lst true xs) env'] (h : P y env') : nMf n cn k mPop (.lst true (xs ++ [y])) [] env P := ⟨rfl, xs, y, rfl, rfl, (by rw [e.h]; exact h : P _ (pFd n cn k env _))⟩
theorem v_extF [e : PfE env n cn k (.lst true (xs ++ ys)) env'] (hl : xs.length + ys.length ≤ 16777216) (h : P .non env') : nMf n cn k mExt (.lst true xs) [.lst false ys] env P := ⟨rfl, xs, false, ys, rfl, rfl, hl, (by rw [e.h]; exact h : P _ (pFd n cn k env _))⟩
-- statements
instance : St1 (sSeq s r (VE.mk N R B C) env) (s (VE.mk (r (VE.mk N R B C)) R B C) env) := ⟨id⟩
instance : St1 (sNext (VE.mk N R B C) env) (N env) := ⟨id⟩
instance : St1 (sBreak (VE.mk N R B C) env) (B env) := ⟨id⟩
instance : St1 (sCont (VE.mk N R B C) env) (C env) := ⟨id⟩
instance : St1 (sDrop a (VE.mk N R B C) env) (a env fun _ env1 => N env1) := ⟨id⟩
instance : St1 (sRet a (VE.mk N R B C) env) (a env R) := ⟨id⟩
instance : St1 (sRetN (VE.mk N R B C) env) (R .non env) := ⟨id⟩
instance : St1 (sIf T s r (VE.mk N R B C) env) (T env fun c env1 => if c = true then s (VE.mk N R B C) env1 else r (VE.mk N R B C) env1) := ⟨id⟩
instance : St1 (sAsg a γ (VE.mk N R B C) env) (a env fun x env1 => γ x env1 N) := ⟨id⟩
instance [e : SsE env n (some x) env'] : St1 (gNm n x env p) (p env') := ⟨fun h => by unfold gNm; rw [e.h]; exact h⟩
instance : St1 (gN [] env p) (p env) := ⟨fun h => ⟨rfl, h⟩⟩
instance : St1 (gC γ γs (x :: xs) env p) (γ x env fun env1 => γs xs env1 p) := ⟨fun h => ⟨x, xs, rfl, h⟩⟩
instance [f : Ln xs n] : St1 (gTp n γs (.tup xs) env p) (γs xs env p) := ⟨fun h => ⟨xs, rfl, f.h, h⟩⟩
def nAug (x : Vl) (q : Int → Prop) : Prop := ∃ m, x = .int m ∧ q m
instance {q : Int → Prop} : St1 (nAug (.int i) q) (q i) := ⟨fun h => ⟨i, rfl, h⟩⟩
instance {f : Int → Int → Int} [l : LkE env n (.int i)] : St1 (sAug n f a (VE.mk N R B C) env) (a env fun y env1 => nAug y fun m => gNm n (.int (f i m)) env1 N) := ⟨fun h => ⟨i, l.h, h⟩⟩
def nParV (n k : Nat) (xs : List Vl) (env : Ev) (p : Ev → Prop) : Prop := ∃ x y, xs = [x, y] ∧ p ((env.set n (some x)).set k (some y))
instance : St1 (sPar n k as (VE.mk N R B C) env) (as env fun xs env1 => nParV n k xs env1 N) := ⟨id⟩
instance [e : SsE env n (some x) env'] [e2 : SsE env' k (some y) env''] : St1 (nParV n k [x, y] env p) (p env'') := ⟨fun h => ⟨x, y, rfl, by rw [e.h, e2.h]; exact h⟩⟩
def nSetFv (n : Nat) (cn : Cn) (k : Nat) (y : Vl) (env : Ev) (p : Ev → Prop) : Prop := ∃ xs, env[n]? = some (some (.obj true cn xs)) ∧ k ≤ xs.length ∧ p (env.set n (some (.obj true cn (setOr xs k y))))
instance : St1 (sSetF n cn k a (VE.mk N R B C) env) (a env fun y env1 => nSetFv n cn k y env1 N) := ⟨id⟩
class SoX (xs : List Vl) (k : Nat) (y : Vl) (ys : outParam (List Vl)) : Prop where
  le : k ≤ xs.length
  h : setOr xs k y = ys
instance : SoX [] 0 y [y] := ⟨Nat.le_refl _, rfl⟩
instance : SoX (x :: xs) 0 y (y :: xs) := ⟨Nat.zero_le _, rfl⟩
instance [f : SoX xs k y ys] : SoX (x :: xs) (k + 1) y (x :: ys) := ⟨by have := f.le; simp; omega, by
  have := f.h
  unfold setOr at this ⊢
  by_cases hk : k < xs.length
  · rw [if_pos hk] at this; rw [if_pos (by simp; omega), List.set_cons_succ, this]
  · rw [if_neg hk] at this; rw [if_neg (by simp; omega), List.cons_append, this]⟩
instance [l : LkE env n (.obj true cn xs)] [f : SoX xs k y ys] [e : SsE env n (some (.obj true cn ys)) env'] : St1 (nSetFv n cn k y env p) (p env') := ⟨fun h => ⟨xs, l.h, f.le, by rw [f.h, e.h]; exact h⟩⟩
def nStv (get : Ev → Option Vl) (set : Ev → Vl → Ev) (xs : List Vl) (y iv : Vl) (env : Ev) (p : Ev → Prop) : Prop := ∃ k j, iv = .int k ∧ ixN xs.length k = some j ∧ p (set env (.lst true (xs.set j y)))
instance [l : LkE env n (.lst true xs)] : St1 (gSt (gSl n) (pSl n) β y env p) (β env fun iv => nStv (gSl n) (pSl n) xs y iv env p) := ⟨fun h => ⟨xs, gSl_of, h⟩⟩
instance [f : SaX xs i y ys] [e : SsE env n (some (.lst true ys)) env'] : St1 (nStv (gSl n) (pSl n) xs y (.int i) env p) (p env') := ⟨fun h => by
  obtain ⟨j, h1, h2⟩ := f.h
  exact ⟨i, j, rfl, h1, by unfold pSl; rw [h2, e.h]; exact h⟩⟩
instance {ι : WI} : St1 (sFor ι γ s (VE.mk N R B C) env) (ι env fun n item env1 => LoopI n item γ s (VE.mk N R B C) env1) := ⟨id⟩
-- what is walked
variable {PI : Nat → (Nat → Vl → Prop) → Ev → Prop}
def nIL (x : Vl) (env : Ev) (PI : Nat → (Nat → Vl → Prop) → Ev → Prop) : Prop := (∃ xs, x = .lst false xs ∧ PI xs.length (fun i y => xs[i]? = some y) env) ∨ ∃ ns : List Int, x = .scr ns ∧ PI ns.length (fun i y => ∃ n, ns[i]? = some n ∧ y = .int n) env
instance : St1 (nIL (.lst false xs) env PI) (PI xs.length (fun i y => xs[i]? = some y) env) := ⟨fun h => .inl ⟨xs, rfl, h⟩⟩
instance {ns : List Int} : St1 (nIL (.scr ns) env PI) (PI ns.length (fun i y => ∃ n, ns[i]? = some n ∧ y = .int n) env) := ⟨fun h => .inr ⟨ns, rfl, h⟩⟩
instance : St1 (iL a env PI) (a env fun x env1 => nIL x env1 PI) := ⟨id⟩
def nIT (x : Vl) (q : List Vl → Prop) : Prop := ∃ xs, x = .tup xs ∧ Vl.fzA xs = true ∧ q xs
instance {q : List Vl → Prop} [f : FzAc xs] : St1 (nIT (.tup xs) q) (q xs) := ⟨fun h => ⟨xs, rfl, f.h, h⟩⟩
instance : St1 (iT a env PI) (a env fun x env1 => nIT x fun xs => PI xs.length (fun i y => xs[i]? = some y) env1) := ⟨id⟩
def nILT (x : Vl) (q : List Vl → Prop) : Prop := (∃ xs, x = .lst false xs ∧ q xs) ∨ ∃ xs, x = .tup xs ∧ Vl.fzA xs = true ∧ q xs
instance {q : List Vl → Prop} [f : FzAc xs] : St1 (nILT (.tup xs) q) (q xs) := ⟨fun h => .inr ⟨xs, rfl, f.h, h⟩⟩
instance {q : List Vl → Prop} : St1 (nILT (.lst false xs) q) (q xs) := ⟨fun h => .inl ⟨xs, rfl, h⟩⟩
instance : St1 (iLTv a env PI) (a env fun x env1 => nILT x fun xs => PI xs.length (fun i y => xs[i]? = some y) env1) := ⟨id⟩
def nR1 (xs : List Vl) (q : Int → Prop) : Prop := ∃ j : Int, xs = [.int j] ∧ -4611686018427387904 ≤ j ∧ j < 4611686018427387904 ∧ q j
theorem v_r1 {q : Int → Prop} (h1 : -4611686018427387904 ≤ j) (h2 : j < 4611686018427387904) (h : q j) : nR1 [.int j] q := ⟨j, rfl, h1, h2, h⟩
instance : St1 (iR1 as env PI) (as env fun xs env1 => nR1 xs fun j => PI j.toNat (fun i y => y = .int (0 + (i : Int))) env1) := ⟨id⟩
def nR2 (xs : List Vl) (q : Int → Int → Prop) : Prop := ∃ i j : Int, xs = [.int i, .int j] ∧ (-4611686018427387904 ≤ i ∧ i < 4611686018427387904 ∧ -4611686018427387904 ≤ j ∧ j < 4611686018427387904) ∧ q i j
theorem v_r2 {q : Int → Int → Prop} (h1 : -4611686018427387904 ≤ i) (h2 : i < 4611686018427387904) (h3 : -4611686018427387904 ≤ j) (h4 : j < 4611686018427387904) (h : q i j) : nR2 [.int i, .int j] q := ⟨i, j, rfl, ⟨h1, h2, h3, h4⟩, h⟩
instance : St1 (iR2 as env PI) (as env fun xs env1 => nR2 xs fun i j => PI (j - i).toNat (fun k y => y = .int (i + (k : Int))) env1) := ⟨id⟩
def nIS (x : Vl) (q : List Nat → Prop) : Prop := ∃ z : List Nat, x = .str (S z) ∧ q z
instance {z : List Nat} {q : List Nat → Prop} : St1 (nIS (.str (S z)) q) (q z) := ⟨fun h => ⟨z, rfl, h⟩⟩
instance : St1 (iS a env PI) (a env fun x env1 => nIS x fun z => PI z.length (fun i y => ∃ c, z[i]? = some c ∧ y = .str (S [c])) env1) := ⟨id⟩
def nIE (zs : List Vl) (q : List Vl → Prop) : Prop := ∃ xs, zs = [.lst false xs] ∧ q xs
instance {q : List Vl → Prop} : St1 (nIE [.lst false xs] q) (q xs) := ⟨fun h => ⟨xs, rfl, h⟩⟩
instance : St1 (iE as env PI) (as env fun zs env1 => nIE zs fun xs => PI xs.length (fun i y => ∃ z, xs[i]? = some z ∧ y = .tup [.int (i : Int), z]) env1) := ⟨id⟩
def nIELT (zs : List Vl) (q : List Vl → Prop) : Prop := ∃ xs, (zs = [.lst false xs] ∨ (zs = [.tup xs] ∧ Vl.fzA xs = true)) ∧ q xs
instance {q : List Vl → Prop} : St1 (nIELT [.lst false xs] q) (q xs) := ⟨fun h => ⟨xs, .inl rfl, h⟩⟩
instance {q : List Vl → Prop} [f : FzAc xs] : St1 (nIELT [.tup xs] q) (q xs) := ⟨fun h => ⟨xs, .inr ⟨rfl, f.h⟩, h⟩⟩
instance : St1 (iELT as env PI) (as env fun zs env1 => nIELT zs fun xs => PI xs.length (fun i y => ∃ z, xs[i]? = some z ∧ y = .tup [.int (i : Int), z]) env1) := ⟨id⟩
instance {ι : WI} {js : List Nat} : St1 (eLc ι γ T a js env P) (ι env fun n item env1 => CompI n item γ T a js env1 P) := ⟨id⟩
end
end Sh


set_option Elab.async false
set_option linter.all false
set_option maxRecDepth 100000
set_option maxHeartbeats 4000000
/-! # A try whose first clause takes whatever comes; clauses behind it are never asked -/
namespace Sh
open PySem PySem.Spec PyProof.Rows L2
abbrev goneD (D : Ends) (i : Nat) : Ends := { nx := fun s h => D.nx (s.set i none) h, rt := D.rt, bk := fun s h => D.bk (s.set i none) h, ct := fun s h => D.ct (s.set i none) h }
/-- what the first clause (named: slot i) wishes of an error: it is its own -/
def wFstA (K : PySem.W.Frag) (c : Value) (i : Nat) (ts : Addr → Value → Option Addr → TS) (D : Ends) : WX := fun cls d σ H => PySem.W.exmOne K cls c = some true ∧ ∀ a, H a = none → ts a cls d (goneD D i) (σ.set i (some (.ref a))) H
def wFstO (K : PySem.W.Frag) (c : Value) (ts : Addr → Value → Option Addr → TS) (D : Ends) : WX := fun cls d σ H => PySem.W.exmOne K cls c = some true ∧ ∀ a, H a = none → ts a cls d D σ H
def tTryFA (K : PySem.W.Frag) (c : Value) (i : Nat) (ts : Addr → Value → Option Addr → TS) (tb : WX → TS) : TS := fun D σ H => tb (wFstA K c i ts D) D σ H
def tTryFO (K : PySem.W.Frag) (c : Value) (ts : Addr → Value → Option Addr → TS) (tb : WX → TS) : TS := fun D σ H => tb (wFstO K c ts D) D σ H
section
variable {X : Cx} {x n : Str} {c : Value} {i : Nat} {body suite : List Stmt} {b₀ : Stmt} {np pos pos' : Pos} {hds : List ExceptHandler} {tb : WX → TS} {ts : Addr → Value → Option Addr → TS}
theorem ps_tryFA (oth : X.stack = X.env :: X.outer) (ofr : X.env.frame = some X.env.locals) (hN : X.N.Nodup) (hi : X.N[i]? = some n) (hln : X.env.kindOf n = some .local) (hc : Names X x c)
    (hb : ∀ (W : WX) (pn : List (Addr × Obj)) (xe : Value → Shared → Prop), Takes (X.tr pn xe) W → PassesOwn (model X.prog X.w) X.A X.env xe → PSs (X.tr pn xe) body (tb W))
    (hsu : ∀ (a : Addr) (oe : Obj) (cls : Value) (d : Option Addr) (pn : List (Addr × Obj)), Zc cls d oe → (∃ vs, oe.data = .fields vs) → PSs (X.suite a ((a, oe) :: pn)) (b₀ :: suite) (ts a cls d)) :
    PS X (.Try body (.ExceptHandler (some (.Name x np)) (some n) (b₀ :: suite) pos' :: hds) [] [] pos) (tTryFA X.K c i ts tb) := by
  constructor
  intro pins s σ H D I h
  have okX := I.ok
  have frm : X.A.frames = some (X.env :: X.outer) := okX.frames.trans (by rw [oth])
  refine wpAny_Try_except ?_
  refine wpAny_mono ((hb (wFstA X.K c i ts D) (X.pn ++ pins) (fun err z1 => wpAny (model X.prog X.w) X.A (noteFrame err X.env) (fun _ z2 => wpAny (model X.prog X.w) X.A (setFlight err none) (fun _ z3 =>
    wpAny (model X.prog X.w) X.A (handleBy err X.env (.ExceptHandler (some (.Name x np)) (some n) (b₀ :: suite) pos' :: hds)) (SP X pins D) X.xe z3) X.xe z2) X.xe z1) ?_ PassesOwn.looking).run [] s σ H D (I.toTry _) h) ?_ (fun _ _ he => he)
  · rintro u t ⟨a, B, st, pins', σ1, G1, cls, d, rfl, I1, nb, up, sky, na, hos, hag, hmatch, hgo⟩
    have J := I1.ofTry okX
    rw [show (X.tr (X.pn ++ pins) _).stack = X.env :: X.outer from oth] at sky
    show wpAny (model X.prog X.w) X.A (noteFrame (.ref a) X.env) _ _ _
    refine Sky.land Zc.steady frm ofr sky fun g3 fl3 up3 => ?_
    have J3 : Inv X pins σ1 G1 { t with heap := g3 } := J.landed nb fl3.1 (up.trans up3) hos hag
    obtain ⟨o3, vs3, e3, z3, d3⟩ := fl3.there
    have away : a ∉ frs (X.env :: X.outer) := fun hm => by
      obtain ⟨_, o', e', hnf⟩ := fl3.2.2.1.mem hm
      rw [e3] at e'
      cases e'
      exact hnf _ d3
    have awayL : a ≠ X.env.locals := fun z => away (List.mem_filterMap.mpr ⟨X.env, List.mem_cons_self, by rw [ofr, z]⟩)
    have awayF : a ∉ X.fs := fun hm => by
      obtain ⟨e, he, q⟩ := List.mem_filterMap.mp hm
      exact away (List.mem_filterMap.mpr ⟨e, List.mem_cons_of_mem _ he, q⟩)
    have T3 := J3.suite e3 d3 na awayL awayF
    refine wpAny_handleBy_cons (codeAny_handlers_test ?_) (by intro q; cases q)
    have lt : PySem.W.Looks (model X.prog X.w) g3 (typeOf (.ref a)) cls := fun A Q E s k q => wpAny_typeOf_ref (k _ _ e3) (by rw [z3.1]; exact q)
    have lm := PySem.W.exm_one (M := model X.prog X.w) J3.kIn lt hmatch
    have ask : ∀ {Q : Value → Shared → Prop} {E : Value → Shared → Prop}, Q c { t with heap := g3 } → wpAny (model X.prog X.w) (X.A.mark (some (.ref a))) (eval (.Name x np) X.env) Q E { t with heap := g3 } := by
      intro Q E q
      obtain ⟨hg, hdbg, hm | ⟨hm, hv, hnn⟩⟩ := hc
      · exact ld_glob (X := X.suite a ((a, o3) :: (X.pn ++ pins))) T3 hg hm q hdbg
      · exact ld_blt (X := X.suite a ((a, o3) :: (X.pn ++ pins))) T3 hg hm hv q hnn hdbg
    refine ask (lm.here ?_)
    refine codeAny_handlers_suite_as ?_
    refine HandSPX.lands_againZ fl3 fun g4 fl4 up4 => ?_
    have J4 : Inv X pins σ1 G1 { t with heap := g4 } := J.landed nb fl4.1 ((up.trans up3).trans up4) hos hag
    obtain ⟨o4, vs4, e4, z4, d4⟩ := fl4.there
    have T4 := J4.suite e4 d4 na awayL awayF
    refine store_ok (X := X.suite a ((a, o4) :: (X.pn ++ pins))) (v := .ref a) T4 hN hi (.inl hln) rfl (fun s5 T5 => ?_) (.inr hln)
    refine wpAny_mono ((hsu a o4 cls d (X.pn ++ pins) z4 ⟨_, d4⟩).run [] s5 _ G1 _ T5 (hgo a na)) (fun f s6 fin => ?_) (fun _ _ z => z.elim)
    have gone : ∀ {σ6 : L2.St} {G6 : Hp} {Q : Shared → Prop}, Inv (X.suite a ((a, o4) :: (X.pn ++ pins))) [] σ6 G6 s6 → (∀ s7, Inv X pins (σ6.set i none) G6 s7 → Q s7) →
        wpAny (model X.prog X.w) X.A (do bindName X.env n .none; unbindBehindTheSuite X.env n pos') (fun _ s7 => Q s7) X.xe s6 := fun {σ6 G6 Q} T6 hq => gone_ok (T6.unsuite okX) hN hi hln hq
    match f, fin with
    | .next, ⟨σ6, G6, T6, q6⟩ => exact gone T6 fun s7 J7 => ⟨_, _, J7, q6⟩
    | .brk, ⟨σ6, G6, T6, q6⟩ => exact gone T6 fun s7 J7 => ⟨_, _, J7, q6⟩
    | .cont, ⟨σ6, G6, T6, q6⟩ => exact gone T6 fun s7 J7 => ⟨_, _, J7, q6⟩
    | .ret u, ⟨v6, σ6, G6, T6, r6, q6⟩ => exact gone T6 fun s7 J7 => ⟨_, _, _, J7, r6, q6⟩
  · intro f s1 fin
    match f, fin with
    | .next, ⟨σ1, G1, J1, q⟩ => exact wpAny_execs_nil ⟨σ1, G1, J1.ofTry okX, q⟩
    | .brk, ⟨σ1, G1, J1, q⟩ => exact ⟨σ1, G1, J1.ofTry okX, q⟩
    | .cont, ⟨σ1, G1, J1, q⟩ => exact ⟨σ1, G1, J1.ofTry okX, q⟩
    | .ret u, ⟨v, σ1, G1, J1, r, q⟩ => exact ⟨v, σ1, G1, J1.ofTry okX, r, q⟩
theorem ps_tryFO (oth : X.stack = X.env :: X.outer) (ofr : X.env.frame = some X.env.locals) (hc : Names X x c)
    (hb : ∀ (W : WX) (pn : List (Addr × Obj)) (xe : Value → Shared → Prop), Takes (X.tr pn xe) W → PassesOwn (model X.prog X.w) X.A X.env xe → PSs (X.tr pn xe) body (tb W))
    (hsu : ∀ (a : Addr) (oe : Obj) (cls : Value) (d : Option Addr) (pn : List (Addr × Obj)), Zc cls d oe → (∃ vs, oe.data = .fields vs) → PSs (X.suite a ((a, oe) :: pn)) (b₀ :: suite) (ts a cls d)) :
    PS X (.Try body (.ExceptHandler (some (.Name x np)) none (b₀ :: suite) pos' :: hds) [] [] pos) (tTryFO X.K c ts tb) := by
  constructor
  intro pins s σ H D I h
  have okX := I.ok
  have frm : X.A.frames = some (X.env :: X.outer) := okX.frames.trans (by rw [oth])
  refine wpAny_Try_except ?_
  refine wpAny_mono ((hb (wFstO X.K c ts D) (X.pn ++ pins) (fun err z1 => wpAny (model X.prog X.w) X.A (noteFrame err X.env) (fun _ z2 => wpAny (model X.prog X.w) X.A (setFlight err none) (fun _ z3 =>
    wpAny (model X.prog X.w) X.A (handleBy err X.env (.ExceptHandler (some (.Name x np)) none (b₀ :: suite) pos' :: hds)) (SP X pins D) X.xe z3) X.xe z2) X.xe z1) ?_ PassesOwn.looking).run [] s σ H D (I.toTry _) h) ?_ (fun _ _ he => he)
  · rintro u t ⟨a, B, st, pins', σ1, G1, cls, d, rfl, I1, nb, up, sky, na, hos, hag, hmatch, hgo⟩
    have J := I1.ofTry okX
    rw [show (X.tr (X.pn ++ pins) _).stack = X.env :: X.outer from oth] at sky
    show wpAny (model X.prog X.w) X.A (noteFrame (.ref a) X.env) _ _ _
    refine Sky.land Zc.steady frm ofr sky fun g3 fl3 up3 => ?_
    have J3 : Inv X pins σ1 G1 { t with heap := g3 } := J.landed nb fl3.1 (up.trans up3) hos hag
    obtain ⟨o3, vs3, e3, z3, d3⟩ := fl3.there
    have away : a ∉ frs (X.env :: X.outer) := fun hm => by
      obtain ⟨_, o', e', hnf⟩ := fl3.2.2.1.mem hm
      rw [e3] at e'
      cases e'
      exact hnf _ d3
    have awayL : a ≠ X.env.locals := fun z => away (List.mem_filterMap.mpr ⟨X.env, List.mem_cons_self, by rw [ofr, z]⟩)
    have awayF : a ∉ X.fs := fun hm => by
      obtain ⟨e, he, q⟩ := List.mem_filterMap.mp hm
      exact away (List.mem_filterMap.mpr ⟨e, List.mem_cons_of_mem _ he, q⟩)
    have T3 := J3.suite e3 d3 na awayL awayF
    refine wpAny_handleBy_cons (codeAny_handlers_test ?_) (by intro q; cases q)
    have lt : PySem.W.Looks (model X.prog X.w) g3 (typeOf (.ref a)) cls := fun A Q E s k q => wpAny_typeOf_ref (k _ _ e3) (by rw [z3.1]; exact q)
    have lm := PySem.W.exm_one (M := model X.prog X.w) J3.kIn lt hmatch
    have ask : ∀ {Q : Value → Shared → Prop} {E : Value → Shared → Prop}, Q c { t with heap := g3 } → wpAny (model X.prog X.w) (X.A.mark (some (.ref a))) (eval (.Name x np) X.env) Q E { t with heap := g3 } := by
      intro Q E q
      obtain ⟨hg, hdbg, hm | ⟨hm, hv, hnn⟩⟩ := hc
      · exact ld_glob (X := X.suite a ((a, o3) :: (X.pn ++ pins))) T3 hg hm q hdbg
      · exact ld_blt (X := X.suite a ((a, o3) :: (X.pn ++ pins))) T3 hg hm hv q hnn hdbg
    refine ask (lm.here ?_)
    refine codeAny_handlers_suite ?_
    refine HandSPX.lands_againZ fl3 fun g4 fl4 up4 => ?_
    have J4 : Inv X pins σ1 G1 { t with heap := g4 } := J.landed nb fl4.1 ((up.trans up3).trans up4) hos hag
    obtain ⟨o4, vs4, e4, z4, d4⟩ := fl4.there
    have T4 := J4.suite e4 d4 na awayL awayF
    refine wpAny_mono ((hsu a o4 cls d (X.pn ++ pins) z4 ⟨_, d4⟩).run [] _ _ G1 _ T4 (hgo a na)) (fun f s6 fin => ?_) (fun _ _ z => z.elim)
    match f, fin with
    | .next, ⟨σ6, G6, T6, q6⟩ => exact ⟨_, _, T6.unsuite okX, q6⟩
    | .brk, ⟨σ6, G6, T6, q6⟩ => exact ⟨_, _, T6.unsuite okX, q6⟩
    | .cont, ⟨σ6, G6, T6, q6⟩ => exact ⟨_, _, T6.unsuite okX, q6⟩
    | .ret u, ⟨v6, σ6, G6, T6, r6, q6⟩ => exact ⟨_, _, _, T6.unsuite okX, r6, q6⟩
  · intro f s1 fin
    match f, fin with
    | .next, ⟨σ1, G1, J1, q⟩ => exact wpAny_execs_nil ⟨σ1, G1, J1.ofTry okX, q⟩
    | .brk, ⟨σ1, G1, J1, q⟩ => exact ⟨σ1, G1, J1.ofTry okX, q⟩
    | .cont, ⟨σ1, G1, J1, q⟩ => exact ⟨σ1, G1, J1.ofTry okX, q⟩
    | .ret u, ⟨v, σ1, G1, J1, r, q⟩ => exact ⟨v, σ1, G1, J1.ofTry okX, r, q⟩
end
section
variable {K : PySem.W.Frag} {σ : L2.St} {H F : Hp} {M : Ow} {c : Value} {n : Nat} {D : Ends} {ts : Addr → Value → Option Addr → TS} {tb' : WX → TS} {N B C' : L2.St → Hp → Prop} {R : VK}
instance : St1 (tTryFA K c n ts tb' D σ H) (tb' (wFstA K c n ts D) D σ H) := ⟨id⟩
instance : St1 (tTryFO K c ts tb' D σ H) (tb' (wFstO K c ts D) D σ H) := ⟨id⟩
theorem nFA {Cn : Str} {d : Option Addr} (xm : PySem.W.exmOne K (.ref (He.ga K Cn)) (.ref (He.ga K Cn)) = some true)
    (h : ∀ a, ts a (.ref (He.ga K Cn)) d (goneD D n) (σ.set n (some (.ref a))) H) : wFstA K (.ref (He.ga K Cn)) n ts D (.ref (He.ga K Cn)) d σ H := ⟨xm, fun a _ => h a⟩
theorem nFO {Cn : Str} {d : Option Addr} (xm : PySem.W.exmOne K (.ref (He.ga K Cn)) (.ref (He.ga K Cn)) = some true)
    (h : ∀ a, ts a (.ref (He.ga K Cn)) d D σ H) : wFstO K (.ref (He.ga K Cn)) ts D (.ref (He.ga K Cn)) d σ H := ⟨xm, fun a _ => h a⟩
end
/-! ### isinstance of a caught error without fields -/
def rIsN (K : PySem.W.Frag) (D : Addr) (a : Addr) (cls : Value) (d : Option Addr) : List V → Hp → VK → Prop := fun xs H Q => cls = .ref D ∧ d = none ∧ rIsE K D a xs H Q
theorem call_isN {X : Cx} {a D : Addr} {oe : Obj} {cls : Value} {d : Option Addr} {pn : List (Addr × Obj)} (C : ExcC X.K D) (hz : Zc cls d oe) (hf : ∃ vs, oe.data = .fields vs) : CallR (X.suite a ((a, oe) :: pn)) (.builtin "isinstance") (rIsN X.K D a cls d) := by
  intro pins s σ H xs us Q I r h
  obtain ⟨rfl, rfl, h⟩ := h
  exact call_isE C hz hf pins s σ H xs us Q I r h
theorem nIsNC {K : PySem.W.Frag} {H : Hp} {Q : VK} {Cn c : Str} {cs : List Str} {tys : List String} {a : Addr} (cu : Cau K Cn cs tys) (hc : c ∈ cs) (h : Q (.bl true) H) : rIsN K (He.ga K Cn) a (.ref (He.ga K Cn)) none [.ref a, .ref (He.ga K c)] H Q :=
  ⟨rfl, rfl, _, _, true, rfl, fun u hu => by cases hu; rfl, cu.cs c hc, h⟩
end Sh


set_option Elab.async false
set_option linter.all false
set_option maxRecDepth 100000
set_option maxHeartbeats 4000000
/-! # Errors over trees: raised, caught by several clauses, with a name or without -/
namespace Sh
open PySem PySem.Spec PyProof.Rows L2
open SX (S)
local macro_rules | `(tactic| walk_at "prm") => `(tactic| (refine List.perm_iff_count.mpr fun x => ?_; simp only [List.count_append, List.count_cons, List.count_nil, List.append_assoc, List.nil_append, List.append_nil] <;> omega))
/-! ### the rule: clauses, one after the other -/
abbrev Cl := Value × Option Nat × (Addr → Value → Option Addr → TS)
def wClW (i : Option Nat) (ts : TS) (D : Ends) (a : Addr) (σ : L2.St) (H : Hp) : Prop := match i with
  | some i => ts (goneD D i) (σ.set i (some (.ref a))) H
  | none => ts D σ H
def wMn (K : PySem.W.Frag) (Wout : WX) (D : Ends) : List Cl → WX
  | [] => Wout
  | (c, i, ts) :: r => fun cls d σ H => ∃ b, PySem.W.exmOne K cls c = some b ∧ (b = true → ∀ a, H a = none → wClW i (ts a cls d) D a σ H) ∧ (b = false → wMn K Wout D r cls d σ H)
def tTryM (K : PySem.W.Frag) (Wout : WX) (l : List Cl) (tb : WX → TS) : TS := fun D σ H => tb (wMn K Wout D l) D σ H
inductive HdM (X : Cx) : List ExceptHandler → List Cl → Prop
  | nil : HdM X [] []
  | no {x : Str} {c : Value} {ts : Addr → Value → Option Addr → TS} {b₀ : Stmt} {suite : List Stmt} {np pos' : Pos} {hds : List ExceptHandler} {l : List Cl} (hc : Names X x c)
      (hsu : ∀ (a : Addr) (oe : Obj) (cls : Value) (d : Option Addr) (pn : List (Addr × Obj)), Zc cls d oe → (∃ vs, oe.data = .fields vs) → PSs (X.suite a ((a, oe) :: pn)) (b₀ :: suite) (ts a cls d)) (r : HdM X hds l) :
      HdM X (.ExceptHandler (some (.Name x np)) none (b₀ :: suite) pos' :: hds) ((c, none, ts) :: l)
  | as {x n : Str} {c : Value} {i : Nat} {ts : Addr → Value → Option Addr → TS} {b₀ : Stmt} {suite : List Stmt} {np pos' : Pos} {hds : List ExceptHandler} {l : List Cl} (hN : X.N.Nodup) (hi : X.N[i]? = some n) (hln : X.env.kindOf n = some .local) (hc : Names X x c)
      (hsu : ∀ (a : Addr) (oe : Obj) (cls : Value) (d : Option Addr) (pn : List (Addr × Obj)), Zc cls d oe → (∃ vs, oe.data = .fields vs) → PSs (X.suite a ((a, oe) :: pn)) (b₀ :: suite) (ts a cls d)) (r : HdM X hds l) :
      HdM X (.ExceptHandler (some (.Name x np)) (some n) (b₀ :: suite) pos' :: hds) ((c, some i, ts) :: l)
section
variable {X : Cx} {body : List Stmt} {h₀ : ExceptHandler} {hds : List ExceptHandler} {l : List Cl} {pos : Pos} {tb : WX → TS} {Wout : WX}
theorem ps_tryM (oth : X.stack = X.env :: X.outer) (ofr : X.env.frame = some X.env.locals) (tk : Takes X Wout)
    (hb : ∀ (W : WX) (pn : List (Addr × Obj)) (xe : Value → Shared → Prop), Takes (X.tr pn xe) W → PassesOwn (model X.prog X.w) X.A X.env xe → PSs (X.tr pn xe) body (tb W))
    (hh : HdM X (h₀ :: hds) l) : PS X (.Try body (h₀ :: hds) [] [] pos) (tTryM X.K Wout l tb) := by
  constructor
  intro pins s σ H D I h
  have okX := I.ok
  have frm : X.A.frames = some (X.env :: X.outer) := okX.frames.trans (by rw [oth])
  refine wpAny_Try_except ?_
  refine wpAny_mono ((hb (wMn X.K Wout D l) (X.pn ++ pins) (fun err z1 => wpAny (model X.prog X.w) X.A (noteFrame err X.env) (fun _ z2 => wpAny (model X.prog X.w) X.A (setFlight err none) (fun _ z3 =>
    wpAny (model X.prog X.w) X.A (handleBy err X.env (h₀ :: hds)) (SP X pins D) X.xe z3) X.xe z2) X.xe z1) ?_ PassesOwn.looking).run [] s σ H D (I.toTry _) h) ?_ (fun _ _ he => he)
  · rintro u t ⟨a, B, st, pins', σ1, G1, cls, d, rfl, I1, nb, up, sky, na, hos, hag, w⟩
    have J := I1.ofTry okX
    rw [show (X.tr (X.pn ++ pins) _).stack = X.env :: X.outer from oth] at sky
    show wpAny (model X.prog X.w) X.A (noteFrame (.ref a) X.env) _ _ _
    refine Sky.land Zc.steady frm ofr sky fun g3 fl3 up3 => ?_
    have J3 : Inv X pins σ1 G1 { t with heap := g3 } := J.landed nb fl3.1 (up.trans up3) hos hag
    obtain ⟨o3, vs3, e3, z3, d3⟩ := fl3.there
    have away : a ∉ frs (X.env :: X.outer) := fun hm => by
      obtain ⟨_, o', e', hnf⟩ := fl3.2.2.1.mem hm
      rw [e3] at e'
      cases e'
      exact hnf _ d3
    have awayL : a ≠ X.env.locals := fun z => away (List.mem_filterMap.mpr ⟨X.env, List.mem_cons_self, by rw [ofr, z]⟩)
    have awayF : a ∉ X.fs := fun hm => by
      obtain ⟨e, he, q⟩ := List.mem_filterMap.mp hm
      exact away (List.mem_filterMap.mpr ⟨e, List.mem_cons_of_mem _ he, q⟩)
    have T3 := J3.suite e3 d3 na awayL awayF
    have lt : PySem.W.Looks (model X.prog X.w) g3 (typeOf (.ref a)) cls := fun A Q E s k q => wpAny_typeOf_ref (k _ _ e3) (by rw [z3.1]; exact q)
    have ask : ∀ {x : Str} {np : Pos} {c : Value} {Q : Value → Shared → Prop} {E : Value → Shared → Prop}, Names X x c → Q c { t with heap := g3 } → wpAny (model X.prog X.w) (X.A.mark (some (.ref a))) (eval (.Name x np) X.env) Q E { t with heap := g3 } := by
      intro x np c Q E hc q
      obtain ⟨hg, hdbg, hm | ⟨hm, hv, hnn⟩⟩ := hc
      · exact ld_glob (X := X.suite a ((a, o3) :: (X.pn ++ pins))) T3 hg hm q hdbg
      · exact ld_blt (X := X.suite a ((a, o3) :: (X.pn ++ pins))) T3 hg hm hv q hnn hdbg
    have go : ∀ {hds' : List ExceptHandler} {l' : List Cl}, HdM X hds' l' → wMn X.K Wout D l' cls d σ1 G1 → wpAny (model X.prog X.w) X.A (handleBy (.ref a) X.env hds') (SP X pins D) X.xe { t with heap := g3 } := by
      intro hds' l' hk
      induction hk with
      | nil =>
        intro w
        refine wpAny_handleBy_nil ?_
        obtain ⟨k1, k2, k3, oe, vs, T, oT, ts', he, hz, hd, h1, hr⟩ := id fl3
        unfold PySem.passOn
        refine wpAny_bind (wpAny_field he hd h1 ?_)
        rw [if_neg (show ¬ ((Value.ref T == Value.none) = true) from by simp)]
        have fin : wpAny (model X.prog X.w) X.A (setFlight (.ref a) X.env.frame) (fun _ s4 => wpAny (model X.prog X.w) X.A (throw (.ref a) : Sem Flow) (SP X pins D) X.xe s4) X.xe { t with heap := g3 } := by
          rw [ofr]
          refine HandSPX.setFlight_upZ fl3 fun h4 hh4 up4 => wpAny_throw (tk _ _ ?_)
          exact ⟨a, B, st, pins, σ1, G1, cls, d, rfl, J, nb, (up.trans up3).trans up4, .inr (.inr (by rw [oth]; exact hh4)), na, hos, hag, w⟩
        first
          | exact wpAny_bind (wpAny_pure (wpAny_bind fin))
          | exact wpAny_bind fin
      | @no x c ts b₀ suite np pos' hds2 l2 hc hsu r ih =>
        rintro ⟨b, hb1, hyes, hno⟩
        refine wpAny_handleBy_cons (codeAny_handlers_test ?_) (by intro q; cases q)
        have lm := PySem.W.exm_one (M := model X.prog X.w) J3.kIn lt hb1
        refine ask hc (lm.here ?_)
        cases b with
        | true =>
          refine codeAny_handlers_suite ?_
          refine HandSPX.lands_againZ fl3 fun g4 fl4 up4 => ?_
          have J4 : Inv X pins σ1 G1 { t with heap := g4 } := J.landed nb fl4.1 ((up.trans up3).trans up4) hos hag
          obtain ⟨o4, vs4, e4, z4, d4⟩ := fl4.there
          have T4 := J4.suite e4 d4 na awayL awayF
          refine wpAny_mono ((hsu a o4 cls d (X.pn ++ pins) z4 ⟨_, d4⟩).run [] _ _ G1 _ T4 (hyes rfl a na)) (fun f s6 fin => ?_) (fun _ _ z => z.elim)
          match f, fin with
          | .next, ⟨σ6, G6, T6, q6⟩ => exact ⟨_, _, T6.unsuite okX, q6⟩
          | .brk, ⟨σ6, G6, T6, q6⟩ => exact ⟨_, _, T6.unsuite okX, q6⟩
          | .cont, ⟨σ6, G6, T6, q6⟩ => exact ⟨_, _, T6.unsuite okX, q6⟩
          | .ret u, ⟨v6, σ6, G6, T6, r6, q6⟩ => exact ⟨_, _, _, T6.unsuite okX, r6, q6⟩
        | false =>
          show wpAny _ X.A (handleBy (.ref a) X.env hds2) _ _ _
          exact ih (hno rfl)
      | @as x n c i ts b₀ suite np pos' hds2 l2 hN hi hln hc hsu r ih =>
        rintro ⟨b, hb1, hyes, hno⟩
        refine wpAny_handleBy_cons (codeAny_handlers_test ?_) (by intro q; cases q)
        have lm := PySem.W.exm_one (M := model X.prog X.w) J3.kIn lt hb1
        refine ask hc (lm.here ?_)
        cases b with
        | true =>
          refine codeAny_handlers_suite_as ?_
          refine HandSPX.lands_againZ fl3 fun g4 fl4 up4 => ?_
          have J4 : Inv X pins σ1 G1 { t with heap := g4 } := J.landed nb fl4.1 ((up.trans up3).trans up4) hos hag
          obtain ⟨o4, vs4, e4, z4, d4⟩ := fl4.there
          have T4 := J4.suite e4 d4 na awayL awayF
          refine store_ok (X := X.suite a ((a, o4) :: (X.pn ++ pins))) (v := .ref a) T4 hN hi (.inl hln) rfl (fun s5 T5 => ?_) (.inr hln)
          refine wpAny_mono ((hsu a o4 cls d (X.pn ++ pins) z4 ⟨_, d4⟩).run [] s5 _ G1 _ T5 (hyes rfl a na)) (fun f s6 fin => ?_) (fun _ _ z => z.elim)
          have gone : ∀ {σ6 : L2.St} {G6 : Hp} {Q : Shared → Prop}, Inv (X.suite a ((a, o4) :: (X.pn ++ pins))) [] σ6 G6 s6 → (∀ s7, Inv X pins (σ6.set i none) G6 s7 → Q s7) →
              wpAny (model X.prog X.w) X.A (do bindName X.env n .none; unbindBehindTheSuite X.env n pos') (fun _ s7 => Q s7) X.xe s6 := fun {σ6 G6 Q} T6 hq => gone_ok (T6.unsuite okX) hN hi hln hq
          match f, fin with
          | .next, ⟨σ6, G6, T6, q6⟩ => exact gone T6 fun s7 J7 => ⟨_, _, J7, q6⟩
          | .brk, ⟨σ6, G6, T6, q6⟩ => exact gone T6 fun s7 J7 => ⟨_, _, J7, q6⟩
          | .cont, ⟨σ6, G6, T6, q6⟩ => exact gone T6 fun s7 J7 => ⟨_, _, J7, q6⟩
          | .ret u, ⟨v6, σ6, G6, T6, r6, q6⟩ => exact gone T6 fun s7 J7 => ⟨_, _, _, J7, r6, q6⟩
        | false =>
          show wpAny _ X.A (handleBy (.ref a) X.env hds2) _ _ _
          exact ih (hno rfl)
    exact go hh w
  · intro f s1 fin
    match f, fin with
    | .next, ⟨σ1, G1, J1, q⟩ => exact wpAny_execs_nil ⟨σ1, G1, J1.ofTry okX, q⟩
    | .brk, ⟨σ1, G1, J1, q⟩ => exact ⟨σ1, G1, J1.ofTry okX, q⟩
    | .cont, ⟨σ1, G1, J1, q⟩ => exact ⟨σ1, G1, J1.ofTry okX, q⟩
    | .ret u, ⟨v, σ1, G1, J1, r, q⟩ => exact ⟨v, σ1, G1, J1.ofTry okX, r, q⟩
end
/-! ### over trees -/
abbrev XmT := Str → Str → Bool → Prop
abbrev VCl := Str × Option Nat × (Addr → Option Addr → Str → List Str → List Vl → WS)
def goneV (VD : VE) (i : Nat) : VE := ⟨fun e => VD.nx (e.set i none), VD.rt, fun e => VD.bk (e.set i none), fun e => VD.ct (e.set i none)⟩
def vClW (i : Option Nat) (s : WS) (VD : VE) (x : Vl) (env : Ev) : Prop := match i with
  | some i => s (goneV VD i) (env.set i (some x))
  | none => s VD env
def selX (Xm : XmT) (VD : VE) (ξo : Xi) : List VCl → Xi
  | [] => ξo
  | (D, i, h) :: r => fun C fs env => ∃ b, Xm C D b ∧ (b = true → ∀ a d, (fs = [] → d = none) → vClW i (h a d C (fs.map (·.1)) (fs.map (·.2))) VD (.err a d C (fs.map (·.1)) (fs.map (·.2))) env) ∧ (b = false → selX Xm VD ξo r C fs env)
def sTry (Xm : XmT) (ξo : Xi) (l : List VCl) (body : Xi → WS) : WS := fun VD env => body (selX Xm VD ξo l) VD env
def noE : EKt := fun _ _ _ _ => False
def WE' (W : WX) : EKt := fun σ cls d H => W cls d σ H
section
variable {K : PySem.W.Frag} {pv : List (Option V)} {EK : EKt} {ξ : Xi} {F F' F0 H : Hp} {M M' N R Mf : Ow} {v w : V} {x : Vl} {vs ws : List V} {xs ys : List Vl} {σ : L2.St} {env : Ev} {a b c d : WE} {ta tb tc td te : TE} {i j : Nat} {t u : TS} {s r : WS} {as : WA} {tas : TA} {Xm : XmT}
inductive HOk (K : PySem.W.Frag) (pv : List (Option V)) : List Cl → List VCl → Prop
  | nil : HOk K pv [] []
  | cons {D : Str} {o : Option Nat} {ts : Addr → Value → Option Addr → TS} {h : Addr → Option Addr → Str → List Str → List Vl → WS} {l : List Cl} {l' : List VCl}
      (ho : ∀ i, o = some i → (pv[i]? = some none ∨ pv[i]? = none)) (hh : ∀ a d C ns xs, SS K pv noE xNo (ts a (.ref (He.ga K C)) d) (h a d C ns xs)) (r : HOk K pv l l') : HOk K pv ((.ref (He.ga K D), o, ts) :: l) ((D, o, h) :: l')
theorem sel_ok {Wout : WX} {ξo : Xi} {VD : VE} {D : Ends} (hti : TabIn K Mf) (hX : ∀ C D b, Xm C D b → PySem.W.exmOne K (.ref (He.ga K C)) (.ref (He.ga K D)) = some b) (hD : EndsOk K pv F0 Mf VD D)
    (ho : ∀ C fs env σ H cls d, ξo C fs env → (∃ F M, Same F0 F ∧ PinOk pv σ ∧ EnvR K F σ env M ∧ Hs F (M ++ Mf) H ∧ ErrRep K F cls d C fs) → Wout cls d σ H) :
    ∀ {l : List Cl} {l' : List VCl}, HOk K pv l l' → ErrOk K F0 pv Mf (WE' (wMn K Wout D l)) (selX Xm VD ξo l')
  | _, _, .nil => ⟨hti, fun C fs env σ H cls d h q => ho C fs env σ H cls d h q⟩
  | _, _, .cons (D := Dn) (o := o) (ts := ts) (h := h) hpin hh r => by
    refine ⟨hti, fun C fs env σ H cls d ⟨b, hm, hyes, hno⟩ q => ?_⟩
    have q' := q
    obtain ⟨F, M, e, hp, he, hs, rfl, hr⟩ := q
    refine ⟨b, hX C Dn b hm, fun hb a ha => ?_, fun hb => (sel_ok hti hX hD ho r).2 C fs env σ H _ d (hno hb) q'⟩
    have hrep : Rep K F (.ref a) (.err a d C (fs.map (·.1)) (fs.map (·.2))) [] := by
      rcases hr with ⟨rfl, rfl⟩ | ⟨hne, dd, vs, rfl, h1, h2⟩
      · exact .err0
      · exact .err h1 h2
    have hy := hyes hb a d (by rcases hr with ⟨_, h0⟩ | ⟨h0, _⟩; exact fun _ => h0; exact fun z => absurd z h0)
    cases o with
    | none =>
      exact (hh a d C _ _).run F0 Mf env VD D σ H (errNo hti) ⟨F, [], M, e, hp, .nil, he, hs⟩ hD hy
    | some i =>
      have st : Stt K F0 pv (σ.set i (some (.ref a))) (env.set i (some (.err a d C (fs.map (·.1)) (fs.map (·.2))))) [] [] Mf H := Stt.asg ⟨F, [], M, e, hp, RepA.one hrep, he, hs⟩ (hpin i rfl)
      refine (hh a d C _ _).run F0 Mf _ (goneV VD i) (goneD D i) _ H (errNo hti) st ⟨fun env σ H g st => hD.nx _ _ _ g ?_, hD.rt, fun env σ H g st => hD.bk _ _ _ g ?_, fun env σ H g st => hD.ct _ _ _ g ?_⟩ hy
      all_goals
        obtain ⟨F2, N2, M2, e2, hp2, hA2, he2, hs2⟩ := st
        cases hA2
        obtain ⟨N3, R3, h3, h4⟩ := he2.drop (i := i)
        exact ⟨F2, [], R3, e2, hp2.set (hpin i rfl), .nil, h4.any set_none_get, Hs.sub (M := N3) (hs2.perm ((h3.append_right Mf).trans (by walk_at "prm")))⟩
/-- out of the try nothing comes -/
theorem ss_tryN {l : List Cl} {l' : List VCl} {tb : WX → TS} {body : Xi → WS} (hX : ∀ C D b, Xm C D b → PySem.W.exmOne K (.ref (He.ga K C)) (.ref (He.ga K D)) = some b) (hh : HOk K pv l l') (hb : ∀ W ξ', SS K pv (WE' W) ξ' (tb W) (body ξ')) :
    SS K pv EK ξ (tTryM K (fun _ _ _ _ => False) l tb) (sTry Xm xNo l' body) := ⟨fun F0 Mf env VD D σ H hE st hD h =>
  (hb _ _).run F0 Mf env VD D σ H (sel_ok hE.1 hX hD (fun _ _ _ _ _ _ _ z => z.elim) hh) st hD h⟩
theorem ss_tryX {E : XK} {l : List Cl} {l' : List VCl} {tb : WX → TS} {body : Xi → WS} (hX : ∀ C D b, Xm C D b → PySem.W.exmOne K (.ref (He.ga K C)) (.ref (He.ga K D)) = some b) (hh : HOk K pv l l') (hb : ∀ W ξ', SS K pv (WE' W) ξ' (tb W) (body ξ')) :
    SS K pv (fun _ => E) ξ (tTryM K (fun cls d _ H => E cls d H) l tb) (sTry Xm ξ l' body) := ⟨fun F0 Mf env VD D σ H hE st hD h =>
  (hb _ _).run F0 Mf env VD D σ H (sel_ok hE.1 hX hD (fun C fs env σ H cls d z q => hE.2 C fs env σ H cls d z q) hh) st hD h⟩
/-! ### raised -/
def sRaise (C : Str) (fs : List Str) (ξ : Xi) (as : WA) : WS := fun _ env => as env fun xs env1 => Vl.fzA xs = true ∧ xs.length = fs.length ∧ ξ C (fs.zip xs).reverse env1
theorem ss_raise1 {E : XK} {C f : Str} (xk : Exk K C [f]) (ha : SA K pv (fun _ => E) ξ tas as) : SS K pv (fun _ => E) ξ (tRaiseO (He.ga K C) (sp_exi1 K (He.ga K C) f) E tas) (sRaise C [f] ξ as) := ⟨fun F0 Mf env VD D σ H hE st hD h =>
  ha.run F0 Mf env _ σ H _ hE st h fun xs env1 vs H1 ⟨hz, hl, hx⟩ st1 => by
    obtain ⟨x, rfl⟩ : ∃ x, xs = [x] := by
      match xs, hl with
      | [x], _ => exact ⟨x, rfl⟩
    obtain ⟨F, N, M, e, hp, hA, he, hs, hB, hBA⟩ := st1.all
    have hr := BorA.fz hBA hz
    obtain ⟨v, rfl, b1⟩ := bor1 hBA
    have hs' : Hs F (N ++ (M ++ Mf)) H1 := hs
    refine nRai1 (hs := hs') xk (List.mem_cons_self ..) fun d F' H' hd hF hs2 hz2 => ?_
    exact hE.2 C _ env1 σ H' _ _ hx ⟨F', M, e.trans hF.h, hp, he.mono hF.h, Hs.sub (M := N) hs2, rfl, .inr ⟨by simp, d, [v], rfl, hz2.h, (hr.mono hF.h)⟩⟩⟩
theorem ss_raise2 {E : XK} {C f g : Str} (xk : Exk K C [f, g]) (ha : SA K pv (fun _ => E) ξ tas as) : SS K pv (fun _ => E) ξ (tRaiseO (He.ga K C) (sp_exi2 K (He.ga K C) f g) E tas) (sRaise C [f, g] ξ as) := ⟨fun F0 Mf env VD D σ H hE st hD h =>
  ha.run F0 Mf env _ σ H _ hE st h fun xs env1 vs H1 ⟨hz, hl, hx⟩ st1 => by
    obtain ⟨x, y, rfl⟩ : ∃ x y, xs = [x, y] := by
      match xs, hl with
      | [x, y], _ => exact ⟨x, y, rfl⟩
    obtain ⟨F, N, M, e, hp, hA, he, hs, hB, hBA⟩ := st1.all
    have hr := BorA.fz hBA hz
    obtain ⟨v, w, rfl, b1, b2⟩ := bor2 hBA
    have z1 : x.fz = true ∧ y.fz = true := by
      rw [Vl.fzA, Vl.fzA, Bool.and_eq_true, Bool.and_eq_true] at hz
      exact ⟨hz.1, hz.2.1⟩
    have hs' : Hs F (N ++ (M ++ Mf)) H1 := hs
    refine nRai2 (hs := hs') xk (List.mem_cons_self ..) (List.mem_cons_of_mem _ (List.mem_cons_self ..)) fun d F' H' hd hF hs2 hz2 => ?_
    exact hE.2 C _ env1 σ H' _ _ hx ⟨F', M, e.trans hF.h, hp, he.mono hF.h, Hs.sub (M := N) hs2, rfl, .inr ⟨by simp, d, [w, v], rfl, hz2.h, .cons (M := []) (N := []) ((b2.rep z1.2).mono hF.h) (RepA.one ((b1.rep z1.1).mono hF.h))⟩⟩⟩
theorem ss_raise0 {E : XK} {C : Str} (ha : SA K pv (fun _ => E) ξ tNil as) (hn : as = aNil) : SS K pv (fun _ => E) ξ (tRaiseC (He.ga K C) E) (sRaise C [] ξ as) := ⟨fun F0 Mf env VD D σ H hE st hD h => by
  subst hn
  obtain ⟨_, _, hx⟩ := h
  obtain ⟨F, N, M, e, hp, hA, he, hs⟩ := st
  exact hE.2 C _ env σ H _ _ hx ⟨F, M, e, hp, he, Hs.sub (M := N) hs, rfl, .inl ⟨rfl, rfl⟩⟩⟩
/-! ### the caught error asked -/
def bXf (C : Str) (a : Addr) (d : Option Addr) (D f : Str) (β : WB) : WB := fun env P => β env fun x => ∃ ns xs y, x = .err a d C ns xs ∧ C = D ∧ (ns.zip xs).lookup f = some y ∧ P y
theorem lookup_rep : ∀ {ns : List Str} {vs : List V} {xs : List Vl} {f : Str} {y : Vl}, RepA K F vs xs [] → (ns.zip xs).lookup f = some y → ∃ w, (ns.zip vs).lookup f = some w ∧ Rep K F w y []
  | [], _, _, _, _, _, h => by simp at h
  | _ :: _, [], [], _, _, _, h => by simp at h
  | _ :: _, [], _ :: _, _, _, r, h => by cases r
  | _ :: _, _ :: _, [], _, _, r, h => by cases r
  | n :: ns, v :: vs, x :: xs, f, y, r, h => by
    obtain ⟨A, B, ra, rb, e⟩ := repA_uncons r
    obtain ⟨rfl, rfl⟩ := List.append_eq_nil_iff.mp e
    rw [List.zip_cons_cons, List.lookup] at h
    rw [List.zip_cons_cons, List.lookup]
    split at h
    · cases h; exact ⟨v, rfl, ra⟩
    · exact lookup_rep rb h
theorem sb_xf {C D f : Str} {a : Addr} {d : Option Addr} {β : WB} (h : SB K te β) : SB K (tXf a (.ref (He.ga K C)) d (He.ga K D) f te) (bXf C a d D f β) := ⟨fun F M σ env H P Q he hs hb k =>
  h.run F M σ env H _ _ he hs hb fun F1 H1 v x e1 hs1 b1 ⟨ns, xs, y, ex, ec, hy, hP⟩ => by
    subst ex ec
    obtain ⟨N, R, r, p⟩ := b1
    cases r with
    | err h1 h2 =>
      obtain ⟨w, h3, h4⟩ := lookup_rep h2 hy
      exact ⟨rfl, rfl, _, _, w, rfl, hs1.f h1, h3, k F1 H1 w y e1 hs1 (.of h4) hP⟩
    | err0 => simp at hy⟩
/-- isinstance(e, c) -/
def bIsX (Kt : XmT) (C : Str) (a : Addr) (d : Option Addr) (D c : Str) (β : WB) : WB := fun env P => β env fun x => ∃ ns xs b, x = .err a d C ns xs ∧ xs ≠ [] ∧ C = D ∧ Kt C c b ∧ P (.bl b)
theorem sb_isX {Kt : XmT} {C D c : Str} {a : Addr} {d : Option Addr} {β : WB} (hK : ∀ C D b, Kt C D b → PySem.W.kitOne K (.ref (He.ga K C)) (.ref (He.ga K D)) = some b) (h : SB K te β) :
    SB K (tCB (rIsX K (He.ga K D) a (.ref (He.ga K C)) d) (tCons te (tCons (tC (.ref (He.ga K c))) tNil))) (bIsX Kt C a d D c β) := ⟨fun F M σ env H P Q he hs hb k =>
  h.run F M σ env H _ _ he hs hb fun F1 H1 v x e1 hs1 b1 ⟨ns, xs, b, ex, hne, ec, hk, hP⟩ => by
    subst ex ec
    obtain ⟨N, R, r, p⟩ := b1
    cases r with
    | err h1 h2 => exact ⟨rfl, _, _, _, _, b, rfl, hs1.f h1, rfl, fun u hu => by cases hu; rfl, hK _ _ _ hk, k F1 H1 _ _ e1 hs1 (.of .bl) hP⟩
    | err0 => exact absurd rfl hne⟩
def bIsN (Kt : XmT) (C : Str) (a : Addr) (d : Option Addr) (D c : Str) (β : WB) : WB := fun env P => β env fun x => ∃ b, x = .err a d C [] [] ∧ d = none ∧ C = D ∧ Kt C c b ∧ P (.bl b)
theorem sb_isN' {Kt : XmT} {C D c : Str} {a : Addr} {d : Option Addr} {β : WB} (hK : ∀ C D b, Kt C D b → PySem.W.kitOne K (.ref (He.ga K C)) (.ref (He.ga K D)) = some b) (h : SB K te β) :
    SB K (tCB (rIsN K (He.ga K D) a (.ref (He.ga K C)) d) (tCons te (tCons (tC (.ref (He.ga K c))) tNil))) (bIsN Kt C a d D c β) := ⟨fun F M σ env H P Q he hs hb k =>
  h.run F M σ env H _ _ he hs hb fun F1 H1 v x e1 hs1 b1 ⟨b, ex, ed, ec, hk, hP⟩ => by
    subst ex ec ed
    obtain ⟨N, R, r, p⟩ := b1
    cases r
    exact ⟨rfl, rfl, _, _, b, rfl, fun u hu => by cases hu; rfl, hK _ _ _ hk, k F1 H1 _ _ e1 hs1 (.of .bl) hP⟩⟩
end
section
variable {env env' : Ev} {P : Vl → Ev → Prop} {Q : Vl → Prop} {q : Prop} {β : WB} {as : WA} {x y : Vl} {xs ys : List Vl} {s : WS} {N B C' : Ev → Prop} {R : Vl → Ev → Prop} {ξ : Xi} {n : Nat} {Xm Kt : XmT} {a : Addr} {d : Option Addr} {C D f c : Str} {ns : List Str} {l : List VCl} {body : Xi → WS} {VD : VE} {h : Addr → Option Addr → Str → List Str → List Vl → WS}
def nRaise (C : Str) (fs : List Str) (ξ : Xi) (xs : List Vl) (env : Ev) : Prop := Vl.fzA xs = true ∧ xs.length = fs.length ∧ ξ C (fs.zip xs).reverse env
instance : St1 (sRaise C ns ξ as (VE.mk N R B C') env) (as env fun xs env1 => nRaise C ns ξ xs env1) := ⟨id⟩
instance {f : Str} [z : Fzc x] : St1 (nRaise C [f] ξ [x] env) (ξ C [(f, x)] env) := ⟨fun h => ⟨by rw [Vl.fzA, z.h]; rfl, rfl, h⟩⟩
instance {f g : Str} [z : Fzc x] [z' : Fzc y] : St1 (nRaise C [f, g] ξ [x, y] env) (ξ C [(g, y), (f, x)] env) := ⟨fun h => ⟨by rw [Vl.fzA, Vl.fzA, z.h, z'.h]; rfl, rfl, h⟩⟩
instance : St1 (nRaise C [] ξ [] env) (ξ C [] env) := ⟨fun h => ⟨rfl, rfl, h⟩⟩
instance : St1 (sTry Xm ξ l body (VE.mk N R B C') env) (body (selX Xm (VE.mk N R B C') ξ l) (VE.mk N R B C') env) := ⟨id⟩
class XmC (Xm : XmT) (C D : Str) (b : outParam Bool) : Prop where
  h : Xm C D b
def nSel (o : Option Nat) (C : Str) (fs : List (Str × Vl)) (h : Addr → Option Addr → Str → List Str → List Vl → WS) (VD : VE) (env : Ev) : Prop := ∀ a d, (fs = [] → d = none) → vClW o (h a d C (fs.map (·.1)) (fs.map (·.2))) VD (.err a d C (fs.map (·.1)) (fs.map (·.2))) env
instance {o : Option Nat} {fs : List (Str × Vl)} [m : XmC Xm C D true] : St1 (selX Xm VD ξ ((D, o, h) :: l) C fs env) (nSel o C fs h VD env) := ⟨fun g => ⟨true, m.h, fun _ => g, fun z => nomatch z⟩⟩
instance {o : Option Nat} {fs : List (Str × Vl)} [m : XmC Xm C D false] : St1 (selX Xm VD ξ ((D, o, h) :: l) C fs env) (selX Xm VD ξ l C fs env) := ⟨fun g => ⟨false, m.h, (fun z => nomatch z), fun _ => g⟩⟩
instance {fs : List (Str × Vl)} : St1 (selX Xm VD ξ [] C fs env) (ξ C fs env) := ⟨id⟩
instance [e : SsE env n (some x) env'] : St1 (vClW (some n) s (VE.mk N R B C') x env) (s (VE.mk (fun e => N (e.set n none)) R (fun e => B (e.set n none)) (fun e => C' (e.set n none))) env') := ⟨fun h => by show s _ (env.set n (some x)); rw [e.h]; exact h⟩
instance : St1 (vClW none s VD x env) (s VD env) := ⟨id⟩
def nXfV (C : Str) (a : Addr) (d : Option Addr) (D f : Str) (x : Vl) (Q : Vl → Prop) : Prop := ∃ ns xs y, x = .err a d C ns xs ∧ C = D ∧ (ns.zip xs).lookup f = some y ∧ Q y
instance : St1 (bXf C a d D f β env Q) (β env fun x => nXfV C a d D f x Q) := ⟨id⟩
theorem v_xf (h : (ns.zip xs).lookup f = some y) (k : Q y) : nXfV C a d C f (.err a d C ns xs) Q := ⟨ns, xs, y, rfl, rfl, h, k⟩
def nIsXV (Kt : XmT) (C : Str) (a : Addr) (d : Option Addr) (D c : Str) (x : Vl) (Q : Vl → Prop) : Prop := ∃ ns xs b, x = .err a d C ns xs ∧ xs ≠ [] ∧ C = D ∧ Kt C c b ∧ Q (.bl b)
instance : St1 (bIsX Kt C a d D c β env Q) (β env fun x => nIsXV Kt C a d D c x Q) := ⟨id⟩
instance {b : Bool} [m : XmC Kt C c b] : St1 (nIsXV Kt C a d C c (.err a d C ns (y :: ys)) Q) (Q (.bl b)) := ⟨fun k => ⟨ns, _, b, rfl, by simp, rfl, m.h, k⟩⟩
def nIsNV (Kt : XmT) (C : Str) (a : Addr) (d : Option Addr) (D c : Str) (x : Vl) (Q : Vl → Prop) : Prop := ∃ b, x = .err a d C [] [] ∧ d = none ∧ C = D ∧ Kt C c b ∧ Q (.bl b)
instance : St1 (bIsN Kt C a d D c β env Q) (β env fun x => nIsNV Kt C a d D c x Q) := ⟨id⟩
instance {b : Bool} [m : XmC Kt C c b] : St1 (nIsNV Kt C a none C c (.err a none C [] []) Q) (Q (.bl b)) := ⟨fun k => ⟨b, rfl, rfl, rfl, m.h, k⟩⟩
end
end Sh


set_option Elab.async false
set_option linter.all false
set_option maxRecDepth 100000
set_option maxHeartbeats 4000000
/-! # Classmethods; an instance made by a local name of a class; a head with classmethods -/
namespace Sh
open PySem PySem.Spec PyProof.Rows L2
/-- C.m(..), m a classmethod -/
structure Cme (P : Program) (w : World) (K : PySem.W.Frag) (mg : Str → Option Value) (base : Heap) (CX : CXT) (C m : Str) (k : Nat) (ps : List Str) (dvs : List V) (sp : Sp) : Prop where
  fn : ∃ fd ds, FnOk P w K mg base CX k (He5.wf K (He.ga K C) "classmethod" m) fd ps sp ∧ Binds K fd ps ds ∧ Vals dvs ds
  rd : ClX.CRead K (He.ga K C) (.type "type")
  cm : ClX.CMet K (He.ga K C) (.type "type") m (He.ma K (He.ga K C) m) (He5.wf K (He.ga K C) "classmethod" m)
  gl : mg C = some (.ref (He.ga K C))
def tCme (C : Addr) (sp : Sp) (E : XK) (t : TA) : TE := fun σ H Q => t σ H fun vs H1 => sp (.ref C :: vs) H1 Q E
section
variable {X : Cx} {CX : CXT} {k i : Nat} {ps : List Str} {sp : Sp} {E : XK} {x m C : Str} {p pos apos : Pos} {e : Expr} {es : List Expr} {t : TA}
theorem pe_cme {pl : Sem Bool} (G : Cme X.prog X.w X.K X.mg X.base CX C m k ps [] sp) (hr : Room k X.A) (hx : Passes CX X E) (ha : PA X (e :: es) t) (hg : Gl X C := by rfl) (hdb : (C == ("__debug__" : Str)) = false := by decide)
    (hst : starEach (e :: es) X.env = (false, eval e X.env) :: starEach es X.env := by rfl) (hpl : (backTo pos (starEach es X.env)).any (·.1) = false := by rfl)
    (ht : eval (.Call (.Attribute (.Name C p) m apos) (e :: es) [] pos) X.env = (do
      let ov ← eval (.Name C p) X.env
      standAt apos.atName
      let (f, first) ← holding [ov] (getMethod ov m pl)
      callWith pos f first (backTo pos (starEach (e :: es) X.env)) (backToKw pos (keywordEach [] X.env))) := by rfl) :
    PE X (.Call (.Attribute (.Name C p) m apos) (e :: es) [] pos) (tCme (He.ga X.K C) sp E t) := by
  obtain ⟨fd, ds, F, b, v⟩ := G.fn
  cases noVals v
  have FR : FnR X.prog X.w X.K X.mg X.base CX k (He5.wf X.K (He.ga X.K C) "classmethod" m) sp := by
    have := F.raw b .nil
    simp only [List.append_nil] at this
    exact this
  have := ClX.pe_cmeth (pl := pl) (mc := .type "type") (ta := tC (.ref (He.ga X.K C))) (pe_glob (v := .ref (He.ga X.K C)) hg G.gl rfl (hd := hdb)) G.rd G.cm FR hr hx ha hst hpl ht
  exact ⟨fun pins s σ H Q I h => this.run pins s σ H Q I ⟨rfl, h⟩⟩
/-- x(..), x a local name of the class at C -/
def tMkL (i : Nat) (C : Addr) (sp : Sp) (E : XK) (t : TA) : TE := fun σ H Q => σ[i]? = some (some (.ref C)) ∧ t σ H fun vs H1 => nMake C sp E vs H1 Q
theorem pe_mkL (G : Mkr X.prog X.w X.K X.mg X.base CX C k ps [] sp) (hr : Room (k + 1) X.A) (hx : Passes CX X E) (hN : X.N[i]? = some x) (hv : Vis X.env.scope x) (ha : PA X (e :: es) t)
    (hdb : (x == ("__debug__" : Str)) = false := by decide) (hcd : (x == ("__classdict__" : Str)) = false := by decide)
    (he : starEach (e :: es) X.env = (false, eval e X.env) :: starEach es X.env := by rfl) (hpl : (backTo pos (starEach es X.env)).any (·.1) = false := by rfl) : PE X (.Call (.Name x p) (e :: es) [] pos) (tMkL i (He.ga X.K C) sp E t) := by
  obtain ⟨fd, ds, F, b, v⟩ := G.fn
  cases noVals v
  refine ⟨fun pins s σ H Q I h => ?_⟩
  obtain ⟨hs, ht⟩ := h
  refine wpAny_Call_Name_kw (thn ((pe_var (pos := p) hN hv hdb hcd).run pins s σ H (fun v H1 => v = .ref (He.ga X.K C) ∧ H1 = H) I ⟨_, hs, rfl, rfl⟩) fun u s1 ⟨v, H1, I1, r1, q1⟩ => ?_)
  obtain ⟨rfl, rfl⟩ := q1
  cases r1
  refine PySem.W.callWith_K (h₀ := X.base) I.ok.mod.kin G.mkk.kp (thn (ha.run pos pins s1 σ _ _ I1 ht) ?_) he hpl
  rintro us s2 ⟨vs, G1, I2, rv, q⟩
  refine ⟨I2.kIn, ?_⟩
  have h2 := q (s2.heap.objs.size + 1) s2.heap.objs.size (I2.hok.fresh (Nat.le_succ _)) (I2.hok.fresh (Nat.le_refl _)) (Nat.ne_of_lt (Nat.lt_succ_self _))
  have J := Inv.made (C := He.ga X.K C) I2
  have rr : Vals (V.ref (s2.heap.objs.size + 1) :: vs) (Value.ref (s2.heap.objs.size + 1) :: us) := .cons rfl rv
  have bb := b _ (Value.ref (s2.heap.objs.size + 1) :: us) J.kIn (by
    rw [List.append_nil, ← rr.length]
    exact F.len _ _ _ _ h2)
  rw [List.append_nil] at bb
  have go := F.run _ X.stack _ _ ⟨Value.ref (s2.heap.objs.size + 1) :: us, []⟩ _ _ _ E (hr.make (He.ga X.K C) us []) (J.env0.make (He.ga X.K C) us []) bb rr h2
  refine wpAny_call (make_map I2.kIn G.mkk.makes G.mkk.init (beq_iff_eq.mp G.mkk.fn) (codeAny_mono go ?_))
  intro r s3 hr2
  match r, hr2 with
  | .error er, hr2 => exact hx pins _ _ _ er s3 J hr2
  | .ok (.ret u), hr2 =>
    obtain ⟨v, G3, J3, r3, rfl, q3⟩ := J.after hr2
    exact ⟨r3, .ref (s2.heap.objs.size + 1), G3, J3, rfl, q3⟩
  | .ok .next, hr2 => exact hr2.elim
  | .ok .brk, hr2 => exact hr2.elim
  | .ok .cont, hr2 => exact hr2.elim
/-- what is never asked -/
def tDeadE : TE := fun _ _ _ => False
theorem pe_dead : PE X e tDeadE := ⟨fun _ _ _ _ _ _ h => h.elim⟩
end
/-! ### the head -/
def cmeB (C m : Str) (K : PySem.W.Frag) : Bool := He5.wrapB K (He.ga K C) "classmethod" "classmethod.__get__" m && (PySem.W.fnIn K (He5.wf K (He.ga K C) "classmethod" m) && (PySem.W.readsIn K (He.ga K C) (.type "type") && He.eqO (PySem.W.specialIn K (.ref (He.ga K C)) "__getattribute__") (some (some (.builtin "type.__getattribute__")))))
theorem cmeB_ok {C m : Str} {K : PySem.W.Frag} (h : cmeB C m K = true) : ClX.CRead K (He.ga K C) (.type "type") ∧ ClX.CMet K (He.ga K C) (.type "type") m (He.ma K (He.ga K C) m) (He5.wf K (He.ga K C) "classmethod" m) := by
  obtain ⟨h1, h⟩ := He.ba h
  obtain ⟨h2, h⟩ := He.ba h
  obtain ⟨h3, h4⟩ := He.ba h
  exact ⟨⟨h3, He.eqO_ok h4⟩, He5.cmet_of h1 h2⟩
/-- facts, defs, tables, one more Bool, defs at addresses of one's own -/
abbrev AlY : Type := He.AlT × Bool × He.AlD
def obsY' (fa : List He.Fa) (fn : List He.DefD) (ts : List He.Tab) (fb : List He5.DefA) (ex : PySem.W.Frag → Bool) (K : PySem.W.Frag) : AlY := (He.obsT fa fn ts K, ex K, He5.obsA [] fb K)
def valY (fn : List He.DefD) (ts : List He.Tab) (fb : List He5.DefA) (w : World) : AlY := (He.valT fn ts w, true, He5.valA fb)
def asY (g : Addr → Option Obj) (n : Nat) : List Addr := He.asD g n ++ [cStatics]
def obsY (n : Nat) (fa : List He.Fa) (fn : List He.DefD) (ts : List He.Tab) (fb : List He5.DefA) (ex : PySem.W.Frag → Bool) (g : Addr → Option Obj) : AlY := obsY' fa fn ts fb ex (He.frG g (asY g n))
structure SaysY (fa : List He.Fa) (fn : List He.DefD) (ts : List He.Tab) (fb : List He5.DefA) (ex : PySem.W.Frag → Bool) (w : World) (K : PySem.W.Frag) : Prop where
  t : He.SaysT fa fn ts w K
  more : ex K = true
  a : He5.SaysA [] fb K
theorem saysY_of {fa : List He.Fa} {fn : List He.DefD} {ts : List He.Tab} {fb : List He5.DefA} {ex : PySem.W.Frag → Bool} {w : World} {K : PySem.W.Frag} (e : obsY' fa fn ts fb ex K = valY fn ts fb w) : SaysY fa fn ts fb ex w K :=
  ⟨congrArg (fun z : AlY => z.1) e, congrArg (fun z : AlY => z.2.1) e, congrArg (fun z : AlY => z.2.2) e⟩
def hookY (n : Nat) (fa : List He.Fa) (fn : List He.DefD) (ts : List He.Tab) (fb : List He5.DefA) (ex : PySem.W.Frag → Bool) : PySem.W.Hook where
  α := AlY
  obs := fun s => obsY n fa fn ts fb ex s.heap.get?
  val := fun w => valY fn ts fb w
  says := fun w h => ∃ K : PySem.W.Frag, K.In h ∧ SaysY fa fn ts fb ex w K
  of := fun _ _ e => ⟨_, He.frG_in, saysY_of e⟩
  keeps := fun _ _ _ ⟨K, hK, c⟩ k => ⟨K, PySem.W.Frag.In.keeps hK k, c⟩
theorem obsY_eq {n : Nat} {fa : List He.Fa} {fn : List He.DefD} {ts : List He.Tab} {fb : List He5.DefA} {ex : PySem.W.Frag → Bool} {g : Addr → Option Obj} {s : Shared} (h : ∀ a, g a = s.heap.get? a) : obsY n fa fn ts fb ex g = (hookY n fa fn ts fb ex).obs s := by
  have e : g = s.heap.get? := funext h
  rw [e] <;> rfl
end Sh


set_option Elab.async false
set_option linter.all false
set_option maxRecDepth 100000
set_option maxHeartbeats 4000000
/-! # Classmethods, isinstance of own classes, more of lists and tuples, over trees -/
namespace Sh
open PySem PySem.Spec PyProof.Rows L2
open SX (S)
local macro_rules | `(tactic| walk_at "prm") => `(tactic| (refine List.perm_iff_count.mpr fun x => ?_; simp only [List.count_append, List.count_cons, List.count_nil, List.append_assoc, List.nil_append, List.append_nil] <;> omega))
section
variable {K : PySem.W.Frag} {pv : List (Option V)} {EK : EKt} {ξ : Xi} {F F' F0 H : Hp} {M M' N R Mf : Ow} {v w : V} {x : Vl} {vs ws : List V} {xs ys : List Vl} {σ : L2.St} {env : Ev} {a b c d : WE} {ta tb tc td te : TE} {i j : Nat} {t u : TS} {s r : WS} {as : WA} {tas : TA} {ks : List (Option Nat)}
/-- C.m(..) -/
def eCme (cn : Cn) (φ : WF) (ks : List (Option Nat)) (ξ : Xi) (as : WA) : WE := fun env P => as env fun xs env1 => wCall φ (none :: ks) ξ (.cls cn :: xs) env1 P
theorem se_cme {φ : WF} {E : XK} {n : Nat} {cn : Cn} (hn : ks.length + 1 = n) (ha : SK K pv EK ξ ks tas as) : SE K pv EK ξ (tCme (He.ga K cn.nm) (spOf K n φ) E tas) (eCme cn φ ks xNo as) := ⟨fun F0 Mf env P σ H Q hE st h k =>
  ha.run F0 Mf env _ σ H _ hE st h fun xs env1 vs H1 h1 st1 hio => by
    have hio' : IoOk (none :: ks) (.ref (He.ga K cn.nm) :: vs) (.cls cn :: xs) σ := hio
    rw [← hn, show ks.length + 1 = (none :: ks : List (Option Nat)).length from rfl, ← hio'.len]
    exact call_core (EK := fun _ _ _ _ => False) (ks := none :: ks) (errNo hE.1) (Stt.push (N := []) (Same.refl F0) .cls st1) hio' h1 (fun _ _ _ z => z.elim) k⟩
/-- x(..), x a slot's name that holds a class -/
def eMkL (i : Nat) (cn : Cn) (φ : WF) (ks : List (Option Nat)) (ξ : Xi) (as : WA) : WE := fun env P => env[i]? = some (some (.cls cn)) ∧ eMake cn φ ks ξ as env P
theorem se_mkL {φ : WF} {E : XK} {n : Nat} {cn : Cn} (hn : ks.length + 1 = n) (ha : SK K pv EK ξ ks tas as) : SE K pv EK ξ (tMkL i (He.ga K cn.nm) (spOf K n φ) E tas) (eMkL i cn φ ks xNo as) := ⟨fun F0 Mf env P σ H Q hE st ⟨hc, h⟩ k => by
  obtain ⟨F3, N3, M3, e3, hp, hA, he, hs, hB, hBA⟩ := st.all
  obtain ⟨v, hv, N, R, r, _⟩ := hB i _ hc
  cases r
  refine ⟨hv, ha.run F0 Mf env _ σ H _ hE st h fun xs env1 vs H1 h1 st1 hio => ?_⟩
  rw [← hn, ← hio.len]
  exact make_core (EK := fun _ _ _ _ => False) (ξ := xNo) (errNo hE.1) st1 hio h1 (fun _ _ _ z => z.elim) k⟩
def eDead : WE := fun _ _ => False
theorem se_dead : SE K pv EK ξ tDeadE eDead := ⟨fun F0 Mf env P σ H Q hE st h k => h.elim⟩
/-- what isinstance asks of an own class -/
structure IsK (K : PySem.W.Frag) (cn : Cn) : Prop where
  cl : Cls K (He.ga K cn.nm)
  ha : PySem.W.findIn K (.ref (He.ga K cn.nm)) "__class__" = some (some (.builtin "object.__class__"))
  hn : PySem.W.specialIn K (.builtin "object.__class__") "__get__" = some (some (.builtin "getset_descriptor.__get__"))
  ht : PySem.W.takesIn K (.builtin "object.__class__") = some true
  hm : PySem.W.mroIn K (He.ga K cn.nm) (.type "object") = some true
  kt : PySem.W.kitOne K (.ref (He.ga K cn.nm)) (.ref (He.ga K cn.nm)) = some true
def iskB (cn : Cn) (K : PySem.W.Frag) : Bool := He.eqO (PySem.W.findIn K (.ref (He.ga K cn.nm)) "__class__") (some (some (.builtin "object.__class__"))) &&
  (He.eqO (PySem.W.specialIn K (.builtin "object.__class__") "__get__") (some (some (.builtin "getset_descriptor.__get__"))) && (decide (PySem.W.takesIn K (.builtin "object.__class__") = some true) && (decide (PySem.W.mroIn K (He.ga K cn.nm) (.type "object") = some true) && decide (PySem.W.kitOne K (.ref (He.ga K cn.nm)) (.ref (He.ga K cn.nm)) = some true))))
theorem iskB_ok {cn : Cn} (cl : Cls K (He.ga K cn.nm)) (h : iskB cn K = true) : IsK K cn := by
  obtain ⟨h1, h⟩ := He.ba h
  obtain ⟨h2, h⟩ := He.ba h
  obtain ⟨h3, h⟩ := He.ba h
  obtain ⟨h4, h5⟩ := He.ba h
  exact ⟨cl, He.eqO_ok h1, He.eqO_ok h2, of_decide_eq_true h3, of_decide_eq_true h4, of_decide_eq_true h5⟩
def bIsO (cn : Cn) (β : WB) : WB := fun env P => β env fun x => ∃ o xs, x = .obj o cn xs ∧ P (.bl true)
theorem sb_isO {cn : Cn} {β : WB} (ik : IsK K cn) (h : SB K te β) : SB K (tCB (rIsi K) (tCons te (tCons (tC (.ref (He.ga K cn.nm))) tNil))) (bIsO cn β) := ⟨fun F M σ env H P Q he hs hb k =>
  h.run F M σ env H _ _ he hs hb fun F1 H1 v x e1 hs1 b1 ⟨o, xs, e, hP⟩ => by
    subst e
    obtain ⟨p, dx, us, rfl, h1, h2⟩ := b1.obj hs1
    exact ⟨_, _, _, _, true, rfl, .own _, .base (.ins h1 ik.cl ik.ha ik.hn ik.ht ik.hm), ik.kt, k F1 H1 _ _ e1 hs1 (.of .bl) hP⟩⟩
/-- t + u, both tuples -/
def eCatT (a b : WE) : WE := fun env P => a env fun x env1 => b env1 fun y env2 => ∃ xs ys, x = .tup xs ∧ y = .tup ys ∧ xs ≠ [] ∧ ys ≠ [] ∧ xs.length + ys.length ≤ 16777216 ∧ P (.tup (xs ++ ys)) env2
theorem se_catT (ha : SE K pv EK ξ ta a) (hb : SE K pv EK ξ tb b) : SE K pv EK ξ (tOp (rCatT K) ta tb) (eCatT a b) := ⟨fun F0 Mf env P σ H Q hE st h k =>
  ha.run F0 Mf env _ σ H _ hE st h fun x env1 v H1 h1 st1 => by
    obtain ⟨F, N, e, rv, st2⟩ := st1.pull
    refine hb.run F (N ++ Mf) env1 _ σ H1 _ (hE.up e) st2 h1 fun y env2 w H2 ⟨xs, ys, ex, ey, hn1, hn2, hl, hP⟩ st3 => ?_
    subst ex ey
    obtain ⟨F3, N3, M3, e3, hp, hA, he, hs⟩ := st3
    cases hA with
    | cons rw rn =>
      cases rn
      rename_i B
      cases rv.mono e3 with
      | tup hT1 hr1 =>
        cases rw with
        | tup hT2 hr2 =>
          rename_i p us q us2
          have l1 := hr1.len
          have l2 := hr2.len
          have n1 : us ≠ [] := fun z => by subst z; exact hn1 (List.length_eq_zero_iff.mp l1.symm)
          have n2 : us2 ≠ [] := fun z => by subst z; exact hn2 (List.length_eq_zero_iff.mp l2.symm)
          refine ⟨p, q, us, us2, rfl, rfl, same_t hs.fz (sqT hT1), same_t hs.fz (sqT hT2), n1, sz (by rw [l1, l2]; exact hl), fun z => absurd z n2, fun _ l hln => k _ _ _ _ hP ?_⟩
          have e4 : Same F3 (upd F3 l (.tup (us ++ us2))) := same_upd (hs.free hln)
          refine ⟨_, N ++ B, M3, e.trans (e3.trans e4), hp, RepA.one (.tup upd_same ((hr1.mono e4).app (hr2.mono e4))), he.mono e4, Hs.newF (hs.perm (by walk_at "prm")) hln⟩⟩
/-- xs[::-1] of a list -/
def nRevL (a : WB) : Ev → (List Vl → Prop) → Prop := fun env P => a env fun x => ∃ o xs, x = .lst o xs ∧ Vl.fzA xs = true ∧ P xs.reverse
theorem sn_revL {a : WB} (ha : SB K ta a) : SNew K (tRevL K ta) (nRevL a) := ⟨fun F M σ env H P Q he hs h k =>
  ha.run F M σ env H _ _ he hs h fun F1 H1 v x e1 hs1 b1 ⟨o, xs, ex, hz, hP⟩ => by
    subst ex
    obtain ⟨p, vs, rfl, hp, hb⟩ := b1.lst hs1
    refine ⟨p, vs, rfl, SqL.of hp, fun q hq => k F1 H1 _ _ q e1 hs1 ?_ hP hq⟩
    obtain ⟨M', h1, h2⟩ := repA_rev (BorA.fz hb hz)
    have : M' = [] := List.length_eq_zero_iff.mp (by have := h2.length_eq; simp at this; exact this.symm)
    subst this; exact h1⟩
/-- *t in a display, t a frozen tuple -/
def aStar (a : WE) (as : WA) : WA := fun env P => a env fun x env1 => ∃ zs, x = .tup zs ∧ Vl.fzA zs = true ∧ as env1 fun xs env2 => P (zs ++ xs) env2
theorem sa_star (ha : SE K pv EK ξ ta a) (hr : SA K pv EK ξ tas as) : SA K pv EK ξ (StX.tStar K ta tas) (aStar a as) := ⟨fun F0 Mf env P σ H Q hE st h k =>
  ha.run F0 Mf env _ σ H _ hE st h fun x env1 v H1 ⟨zs, ex, hz, h1⟩ st1 => by
    subst ex
    obtain ⟨F, N, e, r, st2⟩ := st1.pull
    cases r with
    | tup hT hr2 =>
      rename_i p us
      have hn := hr2.fz_nil hz
      subst hn
      obtain ⟨F2, M2, e2, hp, he, hs⟩ := st2.at_
      refine ⟨p, us, rfl, .inl (same_t hs.fz (same_t e2 (sqT hT))), hr.run F Mf env1 _ σ H1 _ (hE.base e) st2 h1 fun xs env2 vs H2 h2 st3 => k _ _ _ _ h2 (Stt.pushA (N := []) e hr2 st3)⟩⟩
/-- x in xs: plain things -/
def Vl.flat : Vl → Bool
  | .non => true
  | .bl _ => true
  | .int _ => true
  | .str _ => true
  | _ => false
end
section
variable {env env' : Ev} {P : Vl → Ev → Prop} {Q : Vl → Prop} {q : Prop} {as : WA} {x y : Vl} {xs ys : List Vl} {n : Nat} {a b : WE} {cn : Cn} {φ : WF} {ks : List (Option Nat)} {ξ : Xi} {β : WB} {c : Bool} {qa : List Vl → Prop}
instance : St1 (eCme cn φ ks ξ as env P) (as env fun xs env1 => wCall φ (none :: ks) ξ (.cls cn :: xs) env1 P) := ⟨id⟩
instance [l : LkE env n (.cls cn)] : St1 (eMkL n cn φ ks ξ as env P) (eMake cn φ ks ξ as env P) := ⟨fun h => ⟨l.h, h⟩⟩
def nStarV (x : Vl) (q : List Vl → Prop) : Prop := ∃ zs, x = .tup zs ∧ Vl.fzA zs = true ∧ q zs
instance {QA : List Vl → Ev → Prop} : St1 (aStar a as env QA) (a env fun x env1 => nStarV x fun zs => as env1 fun xs env2 => QA (zs ++ xs) env2) := ⟨id⟩
instance {qs : List Vl → Prop} [f : FzAc xs] : St1 (nStarV (.tup xs) qs) (qs xs) := ⟨fun h => ⟨xs, rfl, f.h, h⟩⟩
def nIsOv (cn : Cn) (x : Vl) (Q : Vl → Prop) : Prop := ∃ o xs, x = .obj o cn xs ∧ Q (.bl true)
instance : St1 (bIsO cn β env Q) (β env fun x => nIsOv cn x Q) := ⟨id⟩
instance : St1 (nIsOv cn (.obj c cn xs) Q) (Q (.bl true)) := ⟨fun h => ⟨c, xs, rfl, h⟩⟩
def nCatTv (x y : Vl) (Q : Vl → Prop) : Prop := ∃ xs ys, x = .tup xs ∧ y = .tup ys ∧ xs ≠ [] ∧ ys ≠ [] ∧ xs.length + ys.length ≤ 16777216 ∧ Q (.tup (xs ++ ys))
instance : St1 (eCatT a b env P) (a env fun x env1 => b env1 fun y env2 => nCatTv x y fun z => P z env2) := ⟨id⟩
theorem v_catT (h1 : xs ≠ []) (h2 : ys ≠ []) (hl : xs.length + ys.length ≤ 16777216) (h : Q (.tup (xs ++ ys))) : nCatTv (.tup xs) (.tup ys) Q := ⟨xs, ys, rfl, rfl, h1, h2, hl, h⟩
def nRevLv (x : Vl) (qa : List Vl → Prop) : Prop := ∃ o xs, x = .lst o xs ∧ Vl.fzA xs = true ∧ qa xs.reverse
instance : St1 (nRevL β env qa) (β env fun x => nRevLv x qa) := ⟨id⟩
instance [f : FzAc xs] : St1 (nRevLv (.lst c xs) qa) (qa xs.reverse) := ⟨fun h => ⟨c, xs, rfl, f.h, h⟩⟩
end
end Sh


set_option Elab.async false
set_option linter.all false
set_option maxRecDepth 100000
set_option maxHeartbeats 4000000
/-! # Calls of what may raise, where it raises nothing -/
namespace Sh
open PySem PySem.Spec PyProof.Rows L2
open SX (S)
section
variable {K : PySem.W.Frag} {pv : List (Option V)} {EK : EKt} {ξ : Xi} {F F' F0 H : Hp} {M M' N R Mf : Ow} {v w : V} {x : Vl} {vs ws : List V} {xs ys : List Vl} {σ : L2.St} {env : Ev}
theorem se_callN {EK2 : EKt} {φ : WF} {n : Nat} (hn : ks.length = n) (ha : SK K pv EK ξ ks tas as) : SE K pv EK ξ (tCallS (spOf K n φ) EK2 tas) (eCall φ ks xNo as) := ⟨fun F0 Mf env P σ H Q hE st h k =>
  ha.run F0 Mf env _ σ H _ hE st h fun xs env1 vs H1 h1 st1 hio => by
    show spOf K n φ vs H1 Q (EK2 σ)
    rw [← hn, ← hio.len]
    exact call_core (EK := fun _ _ _ _ => False) (errNo hE.1) st1 hio h1 (fun _ _ _ z => z.elim) k⟩
theorem se_methIoN {EK2 : EKt} {φ : WF} {n : Nat} {cn : Cn} {m : Str} (hm : Nf cn.ns m) (hn : ks.length + 1 = n) (ha : SK K pv EK ξ ks tas as) : SE K pv EK ξ (tMethE (He.ga K cn.nm) m (spOf K n φ) EK2 (tVar i) tas) (eMethIo i cn φ ks xNo as) := ⟨fun F0 Mf env P σ H Q hE st ⟨⟨o, zs, hz⟩, h⟩ k => by
  obtain ⟨F3, N3, M3, e3, hp, hA, he, hs, hB, hBA⟩ := st.all
  obtain ⟨v, hv, bv⟩ := hB i _ hz
  obtain ⟨p, dx, us, rfl, h1, h2⟩ := bv.obj hs
  refine ⟨_, hv, p, dx, _, rfl, h1, fld_none hm.h, ha.run F0 Mf env _ σ H _ hE st h fun xs env1 vs H1 h1 st1 hio => ?_⟩
  show spOf K n φ (.ref p :: vs) H1 Q (EK2 σ)
  have hio' : IoOk (some i :: ks) (.ref p :: vs) (.non :: xs) σ := ⟨hv, hio⟩
  rw [← hn, show ks.length + 1 = (some i :: ks).length from rfl, ← hio'.len]
  exact call_core (EK := fun _ _ _ _ => False) (ks := some i :: ks) (errNo hE.1) (Stt.push (N := []) (Same.refl F0) .raw st1) hio' h1 (fun _ _ _ z => z.elim) k⟩
theorem se_methExN {EK2 : EKt} {φ : WF} {n : Nat} {cn : Cn} {m : Str} {r : WE} {tr : TE} (hm : Nf cn.ns m) (hn : ks.length + 1 = n) (hr : SE K pv EK ξ tr r) (ha : SK K pv EK ξ ks tas as) : SE K pv EK ξ (tMethE (He.ga K cn.nm) m (spOf K n φ) EK2 tr tas) (eMethEx r cn φ ks xNo as) := ⟨fun F0 Mf env P σ H Q hE st h k =>
  hr.run F0 Mf env _ σ H _ hE st h fun x env0 v H0 ⟨⟨o, zs, hz⟩, h⟩ st0 => by
    subst hz
    obtain ⟨F3, N3, M3, e3, hp, hA, he, hs, hB, hBA⟩ := st0.all
    obtain ⟨p, dx, us, rfl, h1, h2⟩ := hBA.1.obj hs
    obtain ⟨F, N, e, rv, st2⟩ := st0.pull
    refine ⟨p, dx, _, rfl, h1, fld_none hm.h, ha.run F (N ++ Mf) env0 _ σ H0 _ (hE.up e) st2 h fun xs env1 vs H1 h1 st1 hio => ?_⟩
    show spOf K n φ (.ref p :: vs) H1 Q (EK2 σ)
    have hio' : IoOk (none :: ks) (.ref p :: vs) (.obj o cn zs :: xs) σ := hio
    rw [← hn, show ks.length + 1 = (none :: ks : List (Option Nat)).length from rfl, ← hio'.len]
    exact call_core (EK := fun _ _ _ _ => False) (ks := none :: ks) (errNo hE.1) (Stt.push e rv st1) hio' h1 (fun _ _ _ z => z.elim) k⟩
theorem se_makeN {EK2 : EKt} {φ : WF} {n : Nat} {cn : Cn} (hn : ks.length + 1 = n) (ha : SK K pv EK ξ ks tas as) : SE K pv EK ξ (tMakeE (He.ga K cn.nm) (spOf K n φ) EK2 tas) (eMake cn φ ks xNo as) := ⟨fun F0 Mf env P σ H Q hE st h k =>
  ha.run F0 Mf env _ σ H _ hE st h fun xs env1 vs H1 h1 st1 hio => by
    show nMake (He.ga K cn.nm) (spOf K n φ) (EK2 σ) vs H1 Q
    rw [← hn, ← hio.len]
    exact make_core (EK := fun _ _ _ _ => False) (ξ := xNo) (errNo hE.1) st1 hio h1 (fun _ _ _ z => z.elim) k⟩
theorem rgC_up {i j c : Int} (h0 : 0 ≤ i) (h1 : i ≤ j) (h2 : j ≤ 1152921504606846976) (hc : 1 ≤ c) (hc2 : c < 1073741824) : ∃ n : Nat, RgC i j c n ∧ ∀ k : Nat, k < n → i + (k : Int) * c < j := by
  have hz : 0 ≤ Builtin.Range.rangeSize i j c ∧ Builtin.Range.rangeSize i j c ≤ j - i ∧ ∀ k : Int, 0 ≤ k → k < Builtin.Range.rangeSize i j c → i + k * c < j := by
    unfold Builtin.Range.rangeSize
    rw [if_pos (by omega)]
    split
    · rename_i hlt
      have a0 : 0 ≤ (j - i - 1) / c := Int.ediv_nonneg (by omega) (by omega)
      have a1 : (j - i - 1) / c ≤ j - i - 1 := Int.ediv_le_self _ (by omega)
      refine ⟨by omega, by omega, fun k k0 k1 => ?_⟩
      have : k ≤ (j - i - 1) / c := by omega
      have h3 : k * c ≤ (j - i - 1) / c * c := Int.mul_le_mul_of_nonneg_right this (by omega)
      have h4 := Int.ediv_mul_le (j - i - 1) (show c ≠ 0 by omega)
      omega
    · refine ⟨by omega, by omega, fun k k0 k1 => by omega⟩
  obtain ⟨z0, z1, z2⟩ := hz
  refine ⟨(Builtin.Range.rangeSize i j c).toNat, ⟨by omega, by omega, ?_, by omega⟩, fun k hk => z2 k (by omega) (by omega)⟩
  unfold Builtin.Range.small
  simp only [Builtin.Range.rangeFitsLong, Bool.and_eq_true, Bool.or_eq_true, decide_eq_true_eq, beq_iff_eq, show c > 0 by omega, if_true]
  omega
def nR3 (xs : List Vl) (q : Int → Nat → Int → Prop) : Prop := ∃ (i j c : Int) (n : Nat), xs = [.int i, .int j, .int c] ∧ RgC i j c n ∧ q i n c
theorem v_r3 {i j c : Int} {q : Int → Nat → Int → Prop} (h0 : 0 ≤ i) (h1 : i ≤ j) (h2 : j ≤ 1152921504606846976) (hc : 1 ≤ c) (hc2 : c < 1073741824) (h : ∀ n : Nat, (∀ k : Nat, k < n → i + (k : Int) * c < j) → q i n c) : nR3 [.int i, .int j, .int c] q := by
  obtain ⟨n, g1, g2⟩ := rgC_up h0 h1 h2 hc hc2
  exact ⟨i, j, c, n, rfl, g1, h n g2⟩
instance {PI : Nat → (Nat → Vl → Prop) → Ev → Prop} : St1 (iR3 as env PI) (as env fun xs env1 => nR3 xs fun i n c => PI n (fun k y => y = .int (i + (k : Int) * c)) env1) := ⟨id⟩
/-- what stands at a place, frozen there -/
def eFrzP (get : Ev → Option Vl) (set : Ev → Vl → Ev) : WE := fun env P => ∃ x, get env = some x ∧ P x.frz (set env x.frz)
theorem se_frzP {get : Ev → Option Vl} {set : Ev → Vl → Ev} {te : TE} (hpl : SPl K pv te get set) : SE K pv EK ξ te (eFrzP get set) := ⟨fun F0 Mf env P σ H Q hE st ⟨x, hx, hP⟩ k => by
  obtain ⟨F, v, N, N0, R, e, hev, hr, hA, hs, hB, back⟩ := hpl.run F0 Mf env [] [] σ H x st hx
  cases hA
  obtain ⟨q1, q2⟩ := hs_mem hs
  obtain ⟨F', e', r', hs'⟩ := hr.freeze hs
  exact hev H _ q1 q2 (k _ _ v H hP (back F' x.frz [] H [v] [x.frz] [] e' r' (RepA.one r') hs'))⟩
instance {cn : Cn} {n k : Nat} {env' : Ev} {P : Vl → Ev → Prop} [l : GfE env n cn k (.lst true xs)] [f : FzAc xs] [e : PfE env n cn k (.lst false xs) env'] : St1 (eFrzP (gFd n cn k) (pFd n cn k) env P) (P (.lst false xs) env') := ⟨fun h => ⟨_, l.h, by rw [show (Vl.lst true xs).frz = .lst false (Vl.frzA xs) from rfl, frz_fzA f.h, e.h]; exact h⟩⟩
end
end Sh


set_option Elab.async false
set_option linter.all false
set_option maxRecDepth 100000
set_option maxHeartbeats 4000000
/-! # Dicts over trees: keys ints and texts -/
namespace Sh
open PySem PySem.Spec PyProof.Rows L2
open SX (S)
local macro_rules | `(tactic| walk_at "prm") => `(tactic| (refine List.perm_iff_count.mpr fun x => ?_; simp only [List.count_append, List.count_cons, List.count_nil, List.append_assoc, List.nil_append, List.append_nil] <;> omega))
def keyV : Vl → Option Key
  | .int i => some (.inl i)
  | .str s => some (.inr s)
  | _ => none
def valD (xs : List (Key × Vl)) (k : Key) : Option Vl := (xs.find? fun kv => decide (kv.1 = k)).map (·.2)
def putD (xs : List (Key × Vl)) (k : Key) (v : Vl) : List (Key × Vl) :=
  if (xs.any fun kv => decide (kv.1 = k)) = true then xs.map (fun kv => if kv.1 = k then (kv.1, v) else kv) else xs ++ [(k, v)]
def BorD (K : PySem.W.Frag) (F : Hp) (M : Ow) : List (Key × V) → List (Key × Vl) → Prop
  | [], [] => True
  | p :: ps, q :: qs => p.1 = q.1 ∧ Bor K F M p.2 q.2 ∧ BorD K F M ps qs
  | _, _ => False
theorem valD_nil {k : Key} : valD [] k = none := rfl
theorem valD_pos {p : Key × Vl} {r : List (Key × Vl)} {k : Key} (e : p.1 = k) : valD (p :: r) k = some p.2 := by simp [valD, List.find?_cons, e]
theorem valD_neg {p : Key × Vl} {r : List (Key × Vl)} {k : Key} (e : ¬ p.1 = k) : valD (p :: r) k = valD r k := by simp [valD, List.find?_cons, e]
section
variable {K : PySem.W.Frag} {pv : List (Option V)} {EK : EKt} {ξ : Xi} {F F' F0 H : Hp} {M M' N R Mf : Ow} {v w : V} {x y : Vl} {es : List (Key × V)} {xs : List (Key × Vl)} {σ : L2.St} {env : Ev} {a b : WE} {ta tb te : TE} {i j : Nat} {get : Ev → Option Vl} {set : Ev → Vl → Ev}
theorem BorD.of : ∀ {es : List (Key × V)} {xs : List (Key × Vl)} {N R : Ow}, RepD K F es xs N → M.Perm (N ++ R) → BorD K F M es xs
  | _, _, _, _, .nil, _ => trivial
  | _, _, _, R, .cons (M := M1) (N := N1) a r, p => ⟨rfl, ⟨M1, N1 ++ R, a, p.trans (by walk_at "prm")⟩, BorD.of (R := M1 ++ R) r (p.trans (by walk_at "prm"))⟩
theorem BorD.val {k : Key} : ∀ {es : List (Key × V)} {xs : List (Key × Vl)}, BorD K F M es xs → (∀ x, valD xs k = some x → ∃ v, valV es k = some v ∧ Bor K F M v x) ∧ (valV es k).isSome = (valD xs k).isSome
  | [], [], _ => ⟨fun x h => (nomatch h), rfl⟩
  | p :: ps, q :: qs, h => by
    obtain ⟨h1, h2, h3⟩ := h
    have ih := BorD.val (k := k) h3
    by_cases e : p.1 = k
    · rw [valV_pos e, valD_pos (h1.symm.trans e)]
      exact ⟨fun x hx => by cases hx; exact ⟨_, rfl, h2⟩, rfl⟩
    · rw [valV_neg e, valD_neg (fun z => e (h1.trans z))]
      exact ih
  | [], _ :: _, h => h.elim
  | _ :: _, [], h => h.elim
theorem Bor.dic {o : Bool} (hs : Hs F M H) (h : Bor K F M v (.dic o xs)) : ∃ a es, v = .ref a ∧ H a = some (.dK es) ∧ BorD K F M es xs := by
  obtain ⟨N, R, h, p⟩ := h
  cases h with
  | dicF h r => exact ⟨_, _, rfl, hs.f h, .of r p⟩
  | dicO r =>
    rename_i a es M0
    refine ⟨_, _, rfl, (Hs.perm hs p).get (M := M0 ++ R), .of (N := M0) (R := (a, HO.dK es) :: R) r (p.trans (by walk_at "prm"))⟩
theorem Bor.key {k : Key} (h : Bor K F M v x) (hk : keyV x = some k) : v = kV k := by
  cases x <;> first | cases hk | skip
  · rw [h.int]; rfl
  · rw [h.str]; rfl
/-- d[y] -/
def wDGet : W2 := fun x y P => ∃ o xs k z, x = .dic o xs ∧ keyV y = some k ∧ valD xs k = some z ∧ P z
def bDGet (a b : WB) : WB := fun env P => a env fun x => b env fun y => wDGet x y P
theorem sb_dGet {a b : WB} (ha : SB K ta a) (hb : SB K tb b) : SB K (tDGet ta tb) (bDGet a b) := ⟨fun F M σ env H P Q he hs h k =>
  ha.run F M σ env H _ _ he hs h fun F1 H1 v x e1 hs1 b1 h1 => hb.run F1 M σ env H1 _ _ (he.mono e1) hs1 h1 fun F2 H2 w y e2 hs2 b2 ⟨o, xs, ky, z, ex, ek, ez, hP⟩ => by
    subst ex
    obtain ⟨p, es, rfl, hp, hb⟩ := (b1.mono e2).dic hs2
    obtain ⟨u, hu, bu⟩ := (hb.val (k := ky)).1 z ez
    cases b2.key ek
    exact ⟨p, u, rfl, by rw [← hu]; exact DGet.k hp, k F2 H2 u z (e1.trans e2) hs2 bu hP⟩⟩
/-- y in d -/
def wDIn (neg : Bool) : W2 := fun y x P => ∃ o xs k, x = .dic o xs ∧ keyV y = some k ∧ P (.bl ((valD xs k).isSome ^^ neg))
def bDIn (b a : WB) : WB := fun env P => b env fun y => a env fun x => wDIn false y x P
def bDNotIn (b a : WB) : WB := fun env P => b env fun y => a env fun x => wDIn true y x P
theorem sb_dIn {a b : WB} (hb : SB K tb b) (ha : SB K ta a) : SB K (tDIn tb ta) (bDIn b a) := ⟨fun F M σ env H P Q he hs h k =>
  hb.run F M σ env H _ _ he hs h fun F1 H1 w y e1 hs1 b1 h1 => ha.run F1 M σ env H1 _ _ (he.mono e1) hs1 h1 fun F2 H2 v x e2 hs2 b2 ⟨o, xs, ky, ex, ek, hP⟩ => by
    subst ex
    obtain ⟨p, es, rfl, hp, hb⟩ := b2.dic hs2
    cases (b1.mono e2).key ek
    refine ⟨p, _, rfl, DGet.k hp, k F2 H2 _ _ (e1.trans e2) hs2 (.of .bl) ?_⟩
    rw [(hb.val (k := ky)).2]
    rw [Bool.xor_false] at hP
    exact hP⟩
theorem sb_dNotIn {a b : WB} (hb : SB K tb b) (ha : SB K ta a) : SB K (tDNotIn tb ta) (bDNotIn b a) := ⟨fun F M σ env H P Q he hs h k =>
  hb.run F M σ env H _ _ he hs h fun F1 H1 w y e1 hs1 b1 h1 => ha.run F1 M σ env H1 _ _ (he.mono e1) hs1 h1 fun F2 H2 v x e2 hs2 b2 ⟨o, xs, ky, ex, ek, hP⟩ => by
    subst ex
    obtain ⟨p, es, rfl, hp, hb⟩ := b2.dic hs2
    cases (b1.mono e2).key ek
    refine ⟨p, _, rfl, DGet.k hp, k F2 H2 _ _ (e1.trans e2) hs2 (.of .bl) ?_⟩
    rw [(hb.val (k := ky)).2]
    rw [Bool.xor_true] at hP
    exact hP⟩
/-- d[y] = v, what is put is frozen -/
theorem RepD.any (k : Key) : ∀ {es : List (Key × V)} {xs : List (Key × Vl)} {M : Ow}, RepD K F es xs M → (es.any fun kv => decide (kv.1 = k)) = (xs.any fun kv => decide (kv.1 = k))
  | _, _, _, .nil => rfl
  | _, _, _, .cons a r => by rw [List.any_cons, List.any_cons, r.any k]
theorem RepD.repl {k : Key} (hv : Rep K F v x []) : ∀ {es : List (Key × V)} {xs : List (Key × Vl)} {M : Ow}, RepD K F es xs M → ∃ M' D, RepD K F (es.map fun kv => if kv.1 = k then (kv.1, v) else kv) (xs.map fun kv => if kv.1 = k then (kv.1, x) else kv) M' ∧ M.Perm (D ++ M')
  | _, _, _, .nil => ⟨[], [], .nil, .refl _⟩
  | _, _, _, .cons (k := k0) (v := v0) (x := x0) (M := M0) (N := N0) a r => by
    obtain ⟨M', D, h1, h2⟩ := RepD.repl (k := k) hv r
    rw [List.map_cons, List.map_cons]
    by_cases e : k0 = k
    · rw [if_pos e, if_pos e]
      exact ⟨M', M0 ++ D, RepD.cons (M := []) hv h1, ((List.Perm.refl M0).append h2).trans (by walk_at "prm")⟩
    · rw [if_neg e, if_neg e]
      exact ⟨M0 ++ M', D, .cons a h1, ((List.Perm.refl M0).append h2).trans (by walk_at "prm")⟩
theorem RepD.app : ∀ {es fs : List (Key × V)} {xs ys : List (Key × Vl)} {M N : Ow}, RepD K F es xs M → RepD K F fs ys N → RepD K F (es ++ fs) (xs ++ ys) (M ++ N)
  | _, _, _, _, _, _, .nil, h => h
  | _, _, _, _, _, N, .cons (M := M0) (N := N0) a r, h => by
    rw [List.append_assoc]
    exact .cons a (r.app h)
theorem RepD.putF {k : Key} {M : Ow} (h : RepD K F es xs M) (hv : Rep K F v x []) : ∃ M' D, RepD K F (putK es k v) (putD xs k x) M' ∧ M.Perm (D ++ M') := by
  unfold putK putD
  rw [h.any k]
  by_cases e : (xs.any fun kv => decide (kv.1 = k)) = true
  · rw [if_pos e, if_pos e]
    exact RepD.repl hv h
  · rw [if_neg e, if_neg e]
    exact ⟨M ++ ([] ++ []), [], h.app (.cons (M := []) (N := []) hv .nil), by walk_at "prm"⟩
def sDPutV (get : Ev → Option Vl) (set : Ev → Vl → Ev) (β : WB) (a : WE) : WS := fun VD env => a env fun y env1 => ∃ xs, get env1 = some (.dic true xs) ∧ y.fz = true ∧ β env1 fun iv => ∃ k, keyV iv = some k ∧ xs.length < 16777216 ∧ VD.nx (set env1 (.dic true (putD xs k y)))
theorem ss_dPut {ti : TE} {β : WB} (hpl : SPl K pv te get set) (hi : SB K ti β) (ha : SE K pv EK ξ ta a) : SS K pv EK ξ (sDPut te ti ta) (sDPutV get set β a) := ⟨fun F0 Mf env VD D σ H hE st hD h =>
  ha.run F0 Mf env _ σ H _ hE st h fun y env1 w H1 ⟨xs, hx, hz, h1⟩ st1 => by
    obtain ⟨F, p, A, N0, R, e, hev, hr, hA, hs, hB, back⟩ := hpl.run F0 Mf env1 [w] [y] σ H1 _ st1 hx
    obtain ⟨q1, q2⟩ := hs_mem hs
    refine hev H1 _ q1 q2 (hi.run F _ σ env1 H1 _ _ hB hs h1 fun F1 H2 u iv e1 hs1 b1 ⟨ky, ek, hl, hP⟩ => ?_)
    cases b1.key ek
    cases hr with
    | dicO hr =>
      rename_i q es M0
      cases hA with
      | cons ry rn =>
        cases rn
        rename_i B
        have hB0 := ry.fz_nil hz
        subst hB0
        obtain ⟨M', D1, h2, h3⟩ := (hr.mono e1).putF (k := ky) (ry.mono e1)
        refine ⟨q, _, rfl, DPut.k hs1.get (by rw [hr.len]; exact hl), hD.nx _ _ _ hP (back F1 _ _ _ [] [] [] e1 (.dicO h2) .nil ?_)⟩
        refine Hs.sub (M := D1) (Hs.perm (Hs.putA (M := M0) (R := (([] ++ []) ++ (R ++ Mf))) hs1) ?_)
        exact (List.Perm.cons _ (h3.append_right _)).trans (by walk_at "prm")⟩
/-! ### {"a": x, ..}: keys written, what is put frozen -/
structure SD (K : PySem.W.Frag) (pv : List (Option V)) (EK : EKt) (ξ : Xi) (ks : List Str) (trs : List (TE × TE)) (as : WA) : Prop where
  run : ∀ F0 Mf env P σ H Q, ErrOk K F0 pv Mf EK ξ → Stt K F0 pv σ env [] [] Mf H → as env P → (∀ xs env' vs H', P xs env' → xs.length = ks.length → Stt K F0 pv σ env' vs xs Mf H' → Q ((ks.map V.str).zip vs) H') → tPairs trs σ H Q
theorem sd_nil : SD K pv EK ξ [] [] aNil := ⟨fun F0 Mf env P σ H Q hE st h k => k [] env [] H h rfl st⟩
theorem sd_cons {z : Str} {ks : List Str} {trs : List (TE × TE)} {as : WA} (ha : SE K pv EK ξ ta a) (hr : SD K pv EK ξ ks trs as) : SD K pv EK ξ (z :: ks) ((tC (.str z), ta) :: trs) (aCons a as) := ⟨fun F0 Mf env P σ H Q hE st h k =>
  ha.run F0 Mf env _ σ H _ hE st h fun x env1 v H1 h1 st1 => by
    obtain ⟨F, N, e, r, st2⟩ := st1.pull
    exact hr.run F (N ++ Mf) env1 _ σ H1 _ (hE.up e) st2 h1 fun xs env2 vs H2 h2 hl st3 => k _ _ _ _ h2 (by rw [List.length_cons, List.length_cons, hl]) (Stt.push e r st3)⟩
def zipD (ks : List Str) (xs : List Vl) : List (Key × Vl) := (ks.map Sum.inr).zip xs
def eDisp (ks : List Str) (as : WA) : WE := fun env P => as env fun xs env1 => Vl.fzA xs = true ∧ P (.dic true (zipD ks xs)) env1
theorem mergeK_nodup : ∀ {more kvs : List (Key × V)}, ((kvs ++ more).map Prod.fst).Nodup → mergeK kvs more = kvs ++ more
  | [], kvs, _ => by rw [List.append_nil]; rfl
  | p :: r, kvs, h => by
    show mergeK (putK kvs p.1 p.2) r = _
    have hn : valV kvs p.1 = none := by
      cases e : valV kvs p.1 with
      | none => rfl
      | some u =>
        exfalso
        have h1 : (kvs.any fun kv => decide (kv.1 = p.1)) = true := by rw [valV_any, e]; rfl
        obtain ⟨q, hq, hq2⟩ := List.any_eq_true.mp h1
        rw [List.map_append, List.nodup_append] at h
        exact h.2.2 q.1 (List.mem_map.mpr ⟨q, hq, rfl⟩) p.1 (List.mem_map.mpr ⟨p, List.mem_cons_self, rfl⟩) (of_decide_eq_true hq2)
    rw [putK_new _ hn, mergeK_nodup (by rw [List.append_assoc]; exact h), List.append_assoc]
    rfl
theorem repD_zip : ∀ {ks : List Str} {vs : List V} {xs : List Vl}, RepA K F vs xs [] → RepD K F ((ks.map Sum.inr).zip vs) ((ks.map Sum.inr).zip xs) []
  | [], _, _, _ => .nil
  | k :: ks, _, _, h => by
    generalize hM : ([] : Ow) = M at h
    cases h with
    | nil => exact .nil
    | cons a r =>
      obtain ⟨e1, e2⟩ := List.append_eq_nil_iff.mp hM.symm
      subst e1 e2
      exact .cons (M := []) (N := []) a (repD_zip r)
theorem zip_keys : ∀ {ks : List Str} {vs : List V}, ks.length = vs.length → ((ks.map (Sum.inr : Str → Key)).zip vs).map (·.1) = ks.map Sum.inr
  | [], _, _ => by simp
  | k :: ks, [], h => by simp at h
  | k :: ks, v :: vs, h => by
    rw [List.map_cons, List.zip_cons_cons, List.map_cons, zip_keys (by simpa using h)]
theorem zip_kV : ∀ {ks : List Str} {vs : List V}, (ks.map V.str).zip vs = ((ks.map (Sum.inr : Str → Key)).zip vs).map fun kv => (kV kv.1, kv.2)
  | [], _ => by simp
  | k :: ks, [] => by simp
  | k :: ks, v :: vs => by
    rw [List.map_cons, List.map_cons, List.zip_cons_cons, List.zip_cons_cons, List.map_cons, zip_kV]
    rfl
theorem se_disp {ks : List Str} {trs : List (TE × TE)} {as : WA} (hd : (ks.map (Sum.inr : Str → Key)).Nodup) (hl : ks.length ≤ 15) (h : SD K pv EK ξ ks trs as) : SE K pv EK ξ (tDisp trs) (eDisp ks as) := ⟨fun F0 Mf env P σ H Q hE st hb k => by
  intro p hp
  obtain ⟨F, M, e, hpn, he, hs⟩ := st.at_
  have st0 : Stt K F pv σ env [] [] ((p, .dK []) :: Mf) (upd H p (.dK [])) := ⟨F, [], M, Same.refl F, hpn, .nil, he, (hs.new hp).perm (by walk_at "prm")⟩
  have hE2 : ErrOk K F pv ((p, .dK []) :: Mf) EK ξ := by
    have := ErrOk.up (N := [(p, HO.dK [])]) e hE
    exact this
  refine h.run F _ env _ σ _ _ hE2 st0 hb fun xs env1 vs H1 ⟨hz, hP⟩ hlen st1 => ?_
  obtain ⟨F1, N1, M1, e1, hp1, hA, he1, hs1⟩ := st1
  have hvl := hA.len
  have hN : N1 = [] := hA.fz_nil hz
  subst hN
  have hown : H1 p = some (.dK []) := (Hs.perm hs1 (N := (p, HO.dK []) :: (M1 ++ Mf)) (by walk_at "prm")).get
  refine ⟨hown, (ks.map Sum.inr).zip vs, zip_kV, ?_, ?_⟩
  · rw [List.length_zip, List.length_map, hvl, hlen]; omega
  · have hnd : (([] ++ (ks.map (Sum.inr : Str → Key)).zip vs).map Prod.fst).Nodup := by
      rw [List.nil_append, zip_keys (by rw [hvl, hlen])]; exact hd
    rw [mergeK_nodup hnd, List.nil_append]
    refine k _ _ _ _ hP ⟨F1, [(p, .dK _)], M1, e.trans e1, hp1, RepA.one (Rep.dicO (repD_zip hA)), he1, ?_⟩
    exact Hs.perm (Hs.put (Hs.perm hs1 (N := (p, HO.dK []) :: (M1 ++ Mf)) (by walk_at "prm"))) (by walk_at "prm")⟩
/-! ### over calls -/
def eDNew : WE := fun env P => P (.dic true []) env
theorem se_dNew : SE K pv EK ξ tDNewK eDNew := ⟨fun F0 Mf env P σ H Q hE st hb k => by
  intro p hp
  obtain ⟨F, M, e, hpn, he, hs⟩ := st.at_
  exact k _ _ _ _ hb ⟨F, [(p, .dK [])], M, e, hpn, RepA.one (Rep.dicO .nil), he, (hs.new hp).perm (by walk_at "prm")⟩⟩
def eDGet (a b : WE) : WE := fun env P => a env fun x env1 => b env1 fun y env2 => wDGet x y (wz fun z => P z env2)
theorem se_dGet (ha : SE K pv EK ξ ta a) (hb : SE K pv EK ξ tb b) : SE K pv EK ξ (tDGet ta tb) (eDGet a b) := ⟨fun F0 Mf env P σ H Q hE st h k =>
  ha.run F0 Mf env _ σ H _ hE st h fun x env1 v H1 h1 st1 => by
    obtain ⟨F, N, e, rv, st2⟩ := st1.pull
    refine hb.run F (N ++ Mf) env1 _ σ H1 _ (hE.up e) st2 h1 fun y env2 w H2 ⟨o, xs, ky, z, ex, ek, ez, hz, hP⟩ st3 => ?_
    subst ex
    obtain ⟨F3, N3, M3, e3, hp, hA, he, hs, hB, hBA⟩ := (Stt.push e rv st3).all
    obtain ⟨bv, bw⟩ : Bor K F3 _ v _ ∧ Bor K F3 _ w y := ⟨hBA.1, hBA.2.1⟩
    obtain ⟨p, es, rfl, hpp, hb⟩ := bv.dic hs
    obtain ⟨u, hu, bu⟩ := (hb.val (k := ky)).1 z ez
    cases bw.key ek
    refine ⟨p, u, rfl, by rw [← hu]; exact DGet.k hpp, k z env2 u H2 hP ⟨F3, [], M3, e3, hp, RepA.one (bu.rep hz), he, Hs.sub (M := N3) hs⟩⟩⟩
abbrev WEO := Ev → (Option Int → Ev → Prop) → Prop
structure SEO (K : PySem.W.Frag) (pv : List (Option V)) (EK : EKt) (ξ : Xi) (to : TO) (ω : WEO) : Prop where
  run : ∀ F0 Mf env P σ H Q, ErrOk K F0 pv Mf EK ξ → Stt K F0 pv σ env [] [] Mf H → ω env P → (∀ o env' H', P o env' → Stt K F0 pv σ env' [] [] Mf H' → Q o H') → to σ H Q
def eoNo : WEO := fun env P => P none env
theorem seo_no : SEO K pv EK ξ tNoPart eoNo := ⟨fun F0 Mf env P σ H Q hE st h k => k none env H h st⟩
def eoAt (a : WE) : WEO := fun env P => a env fun x env1 => ∃ i, x = .int i ∧ P (some i) env1
theorem seo_at (ha : SE K pv EK ξ ta a) : SEO K pv EK ξ (tPart ta) (eoAt a) := ⟨fun F0 Mf env P σ H Q hE st h k =>
  ha.run F0 Mf env _ σ H _ hE st h fun x env1 v H1 ⟨i, e, hP⟩ st1 => by
    subst e
    obtain ⟨F3, N3, M3, e3, hp, hA, he, hs, hB, hBA⟩ := st1.all
    exact ⟨i, hBA.1.int, k (some i) env1 H1 hP st1.dropV⟩⟩
def eSlS (a : WE) (l u : WEO) : WE := fun env P => a env fun x env1 => l env1 fun lo env2 => u env2 fun hi env3 => ∃ z : List Nat, x = .str (S z) ∧ z.length ≤ 16777216 ∧ P (.str (cutS (S z) lo hi)) env3
theorem se_slS {tl th : TO} {l u : WEO} (ha : SE K pv EK ξ ta a) (hl : SEO K pv EK ξ tl l) (hu : SEO K pv EK ξ th u) : SE K pv EK ξ (tSl rSlS ta tl th) (eSlS a l u) := ⟨fun F0 Mf env P σ H Q hE st h k =>
  ha.run F0 Mf env _ σ H _ hE st h fun x env1 v H1 h1 st1 => by
    obtain ⟨F, N, e, rv, st2⟩ := st1.pull
    refine hl.run F (N ++ Mf) env1 _ σ H1 _ (hE.up e) st2 h1 fun lo env2 H2 h2 st3 => ?_
    refine hu.run F (N ++ Mf) env2 _ σ H2 _ (hE.up e) st3 h2 fun hi env3 H3 ⟨z, ex, hz, hP⟩ st4 => ?_
    subst ex
    cases rv
    exact ⟨S z, rfl, by rw [SX.S_len]; exact sz hz, k _ _ _ _ hP (Stt.push (N := []) (Same.refl F0) .str (st4.sub e))⟩⟩
def wRevS : W1 := fun x P => ∃ z : List Nat, x = .str (S z) ∧ z.length ≤ 16777216 ∧ P (.str (S z.reverse))
theorem se_revS (ha : SE K pv EK ξ ta a) : SE K pv EK ξ (tRevS K ta) (eUn wRevS a) := ⟨fun F0 Mf env P σ H Q hE st h k =>
  ha.run F0 Mf env _ σ H _ hE st h fun x env1 v H1 ⟨z, ex, hz, _, hP⟩ st1 => by
    subst ex
    obtain ⟨F3, N3, M3, e3, hp, hA, he, hs, hB, hBA⟩ := st1.all
    exact ⟨z, hBA.1.str, hz, k _ _ _ _ hP (Stt.push (N := []) (Same.refl F0) .str st1.dropV)⟩⟩
/-! ### steps -/
section
variable {P : Vl → Ev → Prop} {Q : Vl → Prop} {p : Ev → Prop} {β β' : WB} {a b : WE} {as : WA} {k : Key} {s : WS} {env' : Ev} {n : Nat} {c : Bool} {cn : Cn} {N : Ev → Prop} {R : Vl → Ev → Prop} {B C : Ev → Prop} {l u : WEO}
instance {xs ys : List Vl} [f : FzAc xs] [g : FzAc ys] : FzAc (xs ++ ys) := ⟨by rw [fzA_app, f.h, g.h]; rfl⟩
class KyV (x : Vl) (k : outParam Key) : Prop where
  h : keyV x = some k
instance {i : Int} : KyV (.int i) (.inl i) := ⟨rfl⟩
instance {i : Str} : KyV (.str i) (.inr i) := ⟨rfl⟩
class VdX (xs : List (Key × Vl)) (k : Key) (z : outParam Vl) : Prop where
  h : valD xs k = some z
instance [f : KyV y k] [g : VdX xs k x] : St1 (wDGet (.dic c xs) y Q) (Q x) := ⟨fun h => ⟨c, xs, k, x, rfl, f.h, g.h, h⟩⟩
instance : St1 (bDGet β β' env Q) (β env fun x => β' env fun y => wDGet x y Q) := ⟨id⟩
instance : St1 (bDIn β β' env Q) (β env fun y => β' env fun x => wDIn false y x Q) := ⟨id⟩
instance : St1 (bDNotIn β β' env Q) (β env fun y => β' env fun x => wDIn true y x Q) := ⟨id⟩
instance : St1 (eDGet a b env P) (a env fun x env1 => b env1 fun y env2 => wDGet x y (wz fun z => P z env2)) := ⟨id⟩
instance : St1 (eDNew env P) (P (.dic true []) env) := ⟨id⟩
def nDisp (ks : List Str) (xs : List Vl) (q : Prop) : Prop := Vl.fzA xs = true ∧ q
instance {ks : List Str} {ys : List Vl} {q : Prop} [f : FzAc ys] : St1 (nDisp ks ys q) q := ⟨fun h => ⟨f.h, h⟩⟩
instance {ks : List Str} : St1 (eDisp ks as env P) (as env fun xs env1 => nDisp ks xs (P (.dic true (zipD ks xs)) env1)) := ⟨id⟩
instance {Ro : Option Int → Ev → Prop} : St1 (eoNo env Ro) (Ro none env) := ⟨id⟩
instance {Ro : Option Int → Ev → Prop} : St1 (eoAt a env Ro) (a env fun x env1 => nI x fun i => Ro (some i) env1) := ⟨fun h => h⟩
instance : St1 (eSlS a l u env P) (a env fun x env1 => l env1 fun lo env2 => u env2 fun hi env3 => nCutSv x lo hi fun z => P z env3) := ⟨id⟩
instance : St1 (wRevS x Q) (nRevSv x Q) := ⟨id⟩
def nDPut (get : Ev → Option Vl) (set : Ev → Vl → Ev) (y : Vl) (β : WB) (env1 : Ev) (N : Ev → Prop) : Prop := ∃ xs, get env1 = some (.dic true xs) ∧ y.fz = true ∧ β env1 fun iv => ∃ k, keyV iv = some k ∧ xs.length < 16777216 ∧ N (set env1 (.dic true (putD xs k y)))
instance : St1 (sDPutV get set β a (VE.mk N R B C) env) (a env fun y env1 => nDPut get set y β env1 N) := ⟨id⟩
def nDPut2 (set : Ev → Vl → Ev) (xs : List (Key × Vl)) (y iv : Vl) (env1 : Ev) (N : Ev → Prop) : Prop := ∃ k, keyV iv = some k ∧ xs.length < 16777216 ∧ N (set env1 (.dic true (putD xs k y)))
instance [l : LkE env n (.dic true xs)] [f : Fzc y] : St1 (nDPut (gSl n) (pSl n) y β env p) (β env fun iv => nDPut2 (pSl n) xs y iv env p) := ⟨fun h => ⟨xs, gSl_of, f.h, h⟩⟩
end
end
end Sh


set_option Elab.async false
set_option linter.all false
set_option maxRecDepth 100000
set_option maxHeartbeats 4000000
/-! # Rules and the texts that they make -/
namespace Sh
open PySem PySem.Spec PyProof.Rows L2
open SX (S)
abbrev Tx := List Nat
inductive Ru where
  | wri (w : Tx)
  | join (i j : Nat)
  | power (i t : Nat)
  | part (i a b : Nat)
  | back (i : Nat)
def signs : Tx := [32, 33, 34, 35, 36, 38, 39, 40, 41, 42, 43, 44, 45, 46, 47, 48, 49, 50, 51, 52, 53, 54, 55, 56, 57, 58, 59, 60, 61, 62, 63, 64, 65, 66, 67, 68, 69, 70, 71, 72, 73, 74, 75, 76, 77, 78, 79, 80, 81, 82, 83, 84, 85, 86, 87, 88, 89, 90, 91, 92, 93, 94, 95, 96, 97, 98, 99, 100, 101, 102, 103, 104, 105, 106, 107, 108, 109, 110, 111, 112, 113, 114, 115, 116, 117, 118, 119, 120, 121, 122, 123, 124, 125, 126]
theorem signs_eq : (" !\"#$&'()*+,-./0123456789:;<=>?@ABCDEFGHIJKLMNOPQRSTUVWXYZ[\\]^_`abcdefghijklmnopqrstuvwxyz{|}~" : Str) = S signs := by decide +kernel
theorem empty_eq : ("" : Str) = S [] := by decide +kernel
/-- the text that a rule makes of earlier ones -/
def gt (ts : List Tx) (i : Nat) : Tx := ts.getD i []
def ruT (ts : List Tx) : Ru → Tx
  | .wri w => w
  | .join i j => gt ts i ++ gt ts j
  | .power i t => (List.replicate t (gt ts i)).flatten
  | .part i a b => ((gt ts i).take b).drop a
  | .back i => (gt ts i).reverse
def ruV : Ru → List V
  | .wri w => [.str "letters", .str (S w)]
  | .join i j => [.str "join", .int (i : Int), .int (j : Int)]
  | .power i t => [.str "power", .int (i : Int), .int (t : Int)]
  | .part i a b => [.str "part", .int (i : Int), .int (a : Int), .int (b : Int)]
  | .back i => [.str "back", .int (i : Int)]
/-- a rule behind n others -/
def RuK (n : Nat) (ts : List Tx) : Ru → Prop
  | .wri w => w.length ≤ 64 ∧ ∀ c ∈ w, c ∈ signs
  | .join i j => i < n ∧ j < n
  | .power i t => i < n ∧ t ≤ 1000000000000
  | .part i a b => i < n ∧ a ≤ b ∧ b ≤ (gt ts i).length
  | .back i => i < n
/-- rules and their texts -/
structure Tab (rs : List Ru) (ts : List Tx) : Prop where
  ln : ts.length = rs.length
  ok : ∀ i r, rs[i]? = some r → RuK i ts r ∧ ts[i]? = some (ruT ts r) ∧ (ruT ts r).length ≤ 1000000000000
theorem Tab.nil : Tab [] [] := ⟨rfl, fun i r h => by simp at h⟩
theorem gt_at {ts : List Tx} {i : Nat} {t : Tx} (h : ts[i]? = some t) : gt ts i = t := by unfold gt; rw [List.getD_eq_getElem?_getD, h]; rfl
theorem at_gt {ts : List Tx} {i : Nat} (h : i < ts.length) : ts[i]? = some (gt ts i) := by
  rw [List.getElem?_eq_getElem h, gt_at (List.getElem?_eq_getElem h)]
theorem gt_app {ts us : List Tx} {i : Nat} (h : i < ts.length) : gt (ts ++ us) i = gt ts i := gt_at (by rw [List.getElem?_append_left h]; exact at_gt h)
theorem gt_app2 {ts us : List Tx} {i : Nat} : gt (ts ++ us) (ts.length + i) = gt us i := by
  unfold gt
  rw [List.getD_eq_getElem?_getD, List.getD_eq_getElem?_getD, List.getElem?_append_right (by omega)]
  congr 2; omega
theorem ruT_app {n : Nat} {ts us : List Tx} {r : Ru} (h : RuK n ts r) (hn : n ≤ ts.length) : ruT (ts ++ us) r = ruT ts r := by
  cases r with
  | wri w => rfl
  | join i j => obtain ⟨h1, h2⟩ := h; show gt _ i ++ gt _ j = _; rw [gt_app (by omega), gt_app (by omega)]; rfl
  | power i t => obtain ⟨h1, h2⟩ := h; show (List.replicate t (gt _ i)).flatten = _; rw [gt_app (by omega)]; rfl
  | part i a b => obtain ⟨h1, h2⟩ := h; show ((gt _ i).take b).drop a = _; rw [gt_app (by omega)]; rfl
  | back i => have h1 : i < n := h; show (gt _ i).reverse = _; rw [gt_app (by omega)]; rfl
theorem RuK.app {n : Nat} {ts us : List Tx} {r : Ru} (h : RuK n ts r) (hn : n ≤ ts.length) : RuK n (ts ++ us) r := by
  cases r with
  | part i a b => obtain ⟨h1, h2, h3⟩ := h; exact ⟨h1, h2, by rw [gt_app (by omega)]; exact h3⟩
  | wri w => exact h
  | join i j => exact h
  | power i t => exact h
  | back i => exact h
theorem RuK.more {n m : Nat} {ts : List Tx} {r : Ru} (h : RuK n ts r) (hn : n ≤ m) : RuK m ts r := by
  cases r with
  | part i a b => obtain ⟨h1, h2, h3⟩ := h; exact ⟨by omega, h2, h3⟩
  | wri w => exact h
  | join i j => obtain ⟨h1, h2⟩ := h; exact ⟨by omega, by omega⟩
  | power i t => obtain ⟨h1, h2⟩ := h; exact ⟨by omega, h2⟩
  | back i => have h1 : i < n := h; show i < m; omega
theorem Tab.snoc {rs : List Ru} {ts : List Tx} {r : Ru} (h : Tab rs ts) (k : RuK rs.length ts r) (hl : (ruT ts r).length ≤ 1000000000000) : Tab (rs ++ [r]) (ts ++ [ruT ts r]) := by
  refine ⟨by simp [h.ln], fun i r' hi => ?_⟩
  by_cases hlt : i < rs.length
  · rw [List.getElem?_append_left hlt] at hi
    obtain ⟨h1, h2, h3⟩ := h.ok i r' hi
    have := h.ln
    rw [ruT_app h1 (by omega)]
    exact ⟨h1.app (by omega), by rw [List.getElem?_append_left (by omega)]; exact h2, h3⟩
  · rw [List.getElem?_append_right (by omega)] at hi
    have hlen : i - rs.length < 1 := by
      have := (List.getElem?_eq_some_iff.mp hi).1
      simpa using this
    have : i = rs.length := by omega
    subst this
    simp at hi
    subst hi
    have := h.ln
    rw [ruT_app k (by omega)]
    exact ⟨k.app (by omega), by rw [List.getElem?_append_right (by omega), h.ln, Nat.sub_self]; rfl, hl⟩
theorem Tab.get {rs : List Ru} {ts : List Tx} (h : Tab rs ts) {i : Nat} (hi : i < ts.length) : ∃ r, rs[i]? = some r ∧ RuK i ts r ∧ gt ts i = ruT ts r ∧ (gt ts i).length ≤ 1000000000000 := by
  have hl := h.ln
  have e := List.getElem?_eq_getElem (l := rs) (i := i) (by omega)
  obtain ⟨h1, h2, h3⟩ := h.ok i _ e
  exact ⟨_, e, h1, gt_at h2, by rw [gt_at h2]; exact h3⟩
theorem Tab.le {rs : List Ru} {ts : List Tx} (h : Tab rs ts) (i : Nat) : (gt ts i).length ≤ 1000000000000 := by
  by_cases hi : i < ts.length
  · obtain ⟨r, _, _, _, h4⟩ := h.get hi; exact h4
  · unfold gt
    rw [List.getD_eq_getElem?_getD, List.getElem?_eq_none (by omega)]
    simp
theorem gt_take {ts : List Tx} {i j : Nat} (h : j < i) : gt (ts.take i) j = gt ts j := by
  unfold gt
  rw [List.getD_eq_getElem?_getD, List.getD_eq_getElem?_getD, List.getElem?_take, if_pos h]
theorem gt_take_le {ts : List Tx} {n : Nat} (h : ∀ i, (gt ts i).length ≤ n) (i j : Nat) : (gt (ts.take i) j).length ≤ n := by
  by_cases hj : j < i
  · rw [gt_take hj]; exact h j
  · unfold gt
    rw [List.getD_eq_getElem?_getD, List.getElem?_eq_none (by rw [List.length_take]; omega)]
    simp
theorem Tab.pre {rs : List Ru} {ts : List Tx} (h : Tab rs ts) {i : Nat} {r : Ru} (hr : rs[i]? = some r) : RuK i (ts.take i) r ∧ ruT (ts.take i) r = gt ts i ∧ (ts.take i).length = i := by
  have hi := (List.getElem?_eq_some_iff.mp hr).1
  have hl := h.ln
  obtain ⟨h1, h2, h3⟩ := h.ok i r hr
  have l : (ts.take i).length = i := by rw [List.length_take]; omega
  have hk : RuK i (ts.take i) r := by
    cases r with
    | part j a b => obtain ⟨k1, k2, k3⟩ := h1; exact ⟨k1, k2, by rw [gt_take k1]; exact k3⟩
    | wri w => exact h1
    | join i j => exact h1
    | power i t => exact h1
    | back i => exact h1
  refine ⟨hk, ?_, l⟩
  rw [gt_at h2]
  have e := ruT_app (us := ts.drop i) hk (by omega)
  rw [List.take_append_drop] at e
  exact e.symm
theorem take_one {α : Type} {l : List α} {i : Nat} {x : α} (h : l[i]? = some x) : l.take (i + 1) = l.take i ++ [x] := by rw [List.take_add_one, h]; rfl
/-- the lengths -/
def lens (ts : List Tx) : List V := ts.map fun t => .int (t.length : Int)
theorem lens_get {ts : List Tx} {i : Nat} (h : i < ts.length) : (lens ts)[i]? = some (.int ((gt ts i).length : Int)) := by
  unfold lens
  rw [List.getElem?_map, at_gt h]; rfl
theorem lens_at {ts : List Tx} {i : Nat} (h : i < ts.length) : atI (lens ts) (i : Int) = some (.int ((gt ts i).length : Int)) := atI_nat (lens_get h)
theorem lens_len {ts : List Tx} : (lens ts).length = ts.length := by simp [lens]
theorem lens_snoc {ts : List Tx} {t : Tx} : lens (ts ++ [t]) = lens ts ++ [.int (t.length : Int)] := by simp [lens]

/-! ### places and parts of a power, a part, what is turned round -/
theorem rep_len {x : Tx} {t : Nat} : (List.replicate t x).flatten.length = t * x.length := by simp [List.length_flatten]
theorem rep_at {x : Tx} : ∀ {t p : Nat}, p < t * x.length → (List.replicate t x).flatten[p]? = x[p % x.length]?
  | 0, p, h => by omega
  | t + 1, p, h => by
    rw [List.replicate_succ, List.flatten_cons]
    by_cases hp : p < x.length
    · rw [List.getElem?_append_left hp, Nat.mod_eq_of_lt hp]
    · rw [List.getElem?_append_right (by omega), rep_at (by rw [Nat.add_mul] at h; omega)]
      congr 1
      rw [← Nat.mod_eq_sub_mod (by omega)]
theorem rev_at {x : Tx} {p : Nat} (h : p < x.length) : x.reverse[p]? = x[x.length - 1 - p]? := by
  rw [List.getElem?_reverse h]
theorem cut_at {x : Tx} {a b p : Nat} (h : p < b - a) : ((x.take b).drop a)[p]? = x[p + a]? := by
  rw [List.getElem?_drop, List.getElem?_take, if_pos (by omega), Nat.add_comm]
theorem cut_len {x : Tx} {a b : Nat} (h : b ≤ x.length) : ((x.take b).drop a).length = b - a := by
  rw [List.length_drop, List.length_take]; omega
/-- where the letter at p of a rule's text stands in an earlier one -/
def inP (ts : List Tx) : Ru → Nat → Nat × Nat
  | .wri _, p => (0, p)
  | .join i j, p => if p < (gt ts i).length then (i, p) else (j, p - (gt ts i).length)
  | .power i _, p => (i, p % (gt ts i).length)
  | .part i a _, p => (i, p + a)
  | .back i, p => (i, (gt ts i).length - 1 - p)
theorem inP_ok {n : Nat} {ts : List Tx} {r : Ru} {p : Nat} (h : RuK n ts r) (hw : ∀ w, r ≠ .wri w) (hp : p < (ruT ts r).length) : (inP ts r p).1 < n ∧ (inP ts r p).2 < (gt ts (inP ts r p).1).length ∧ (ruT ts r)[p]? = (gt ts (inP ts r p).1)[(inP ts r p).2]? := by
  cases r with
  | wri w => exact absurd rfl (hw w)
  | join i j =>
    obtain ⟨h1, h2⟩ := h
    have hp' : p < (gt ts i).length + (gt ts j).length := by rw [← List.length_append]; exact hp
    show (if p < (gt ts i).length then (i, p) else (j, p - (gt ts i).length)).1 < n ∧ _
    by_cases hlt : p < (gt ts i).length
    · simp only [inP, if_pos hlt]
      exact ⟨h1, hlt, List.getElem?_append_left hlt⟩
    · simp only [inP, if_neg hlt]
      exact ⟨h2, by omega, List.getElem?_append_right (by omega)⟩
  | power i t =>
    have hp' : p < t * (gt ts i).length := by rw [← rep_len]; exact hp
    have : 0 < (gt ts i).length := by
      rcases Nat.eq_zero_or_pos (gt ts i).length with z | z
      · rw [z, Nat.mul_zero] at hp'; omega
      · exact z
    exact ⟨h.1, Nat.mod_lt _ this, rep_at hp'⟩
  | part i a b =>
    obtain ⟨h1, h2, h3⟩ := h
    have hp' : p < b - a := by rw [← cut_len h3]; exact hp
    exact ⟨h1, by show p + a < (gt ts i).length; omega, cut_at hp'⟩
  | back i =>
    have h1 : i < n := h
    have hp' : p < (gt ts i).length := by rw [← List.length_reverse]; exact hp
    exact ⟨h1, by show (gt ts i).length - 1 - p < (gt ts i).length; omega, rev_at hp'⟩
/-- a part of a text -/
def cut (x : Tx) (a b : Nat) : Tx := (x.take b).drop a
theorem cut_len' {x : Tx} {a b : Nat} (h : b ≤ x.length) : (cut x a b).length = b - a := cut_len h
theorem cut_nil {x : Tx} {a b : Nat} (h : b ≤ a) : cut x a b = [] := by
  unfold cut
  rw [List.drop_eq_nil_iff, List.length_take]; omega
theorem cut_all {x : Tx} : cut x 0 x.length = x := by simp [cut]
theorem cut_get {x : Tx} {a b p : Nat} (h : p < b - a) : (cut x a b)[p]? = x[p + a]? := cut_at h
theorem cut_app {x : Tx} {a b c : Nat} (h1 : a ≤ b) (h2 : b ≤ c) : cut x a b ++ cut x b c = cut x a c := by
  unfold cut
  rw [List.drop_take, List.drop_take, List.drop_take]
  have e : x.drop b = (x.drop a).drop (b - a) := by rw [List.drop_drop]; congr 1; omega
  rw [e]
  have e2 : c - a = (b - a) + (c - b) := by omega
  rw [e2, List.take_add]
theorem cut_cut {x : Tx} {a b c d : Nat} (h : a + d ≤ b) : cut (cut x a b) c d = cut x (a + c) (a + d) := by
  unfold cut
  simp only [List.drop_take, List.take_take, List.drop_drop]
  congr 1
  omega
theorem cut_append {x y : Tx} {a b : Nat} (h : a ≤ b) : cut (x ++ y) a b = cut x a (min b x.length) ++ cut y (a - x.length) (b - x.length) := by
  unfold cut
  rw [List.take_append, List.drop_append]
  congr 1
  · congr 1
    exact List.take_eq_take_min
  · rw [List.length_take]
    congr 1
    omega
theorem cut_rev {x : Tx} {a b : Nat} (h : b ≤ x.length) : cut x.reverse a b = (cut x (x.length - b) (x.length - a)).reverse := by
  by_cases hab : a ≤ b
  · apply List.ext_getElem?
    intro i
    have l1 : (cut x.reverse a b).length = b - a := cut_len' (by rw [List.length_reverse]; exact h)
    have l2 : (cut x (x.length - b) (x.length - a)).length = b - a := by rw [cut_len' (by omega)]; omega
    by_cases hi : i < b - a
    · rw [cut_get hi, rev_at (by omega), List.getElem?_reverse (by omega), l2, cut_get (by omega)]
      congr 1; omega
    · rw [List.getElem?_eq_none (by omega), List.getElem?_eq_none (by rw [List.length_reverse]; omega)]
  · rw [cut_nil (by omega), cut_nil (by omega)]; rfl
end Sh


set_option Elab.async false
set_option linter.all false
set_option maxRecDepth 100000
set_option maxHeartbeats 4000000
/-! # Words compared; rules as data -/
namespace Sh
open PySem PySem.Spec PyProof.Rows L2
open SX (S)
/-- whether two written words are one -/
class Wd (a b : Str) (r : outParam Bool) : Prop where
  h : decide (a = b) = r
instance : Wd "letters" "letters" true := ⟨by decide +kernel⟩
instance : Wd "letters" "join" false := ⟨by decide +kernel⟩
instance : Wd "letters" "power" false := ⟨by decide +kernel⟩
instance : Wd "letters" "part" false := ⟨by decide +kernel⟩
instance : Wd "letters" "back" false := ⟨by decide +kernel⟩
instance : Wd "letters" "" false := ⟨by decide +kernel⟩
instance : Wd "join" "letters" false := ⟨by decide +kernel⟩
instance : Wd "join" "join" true := ⟨by decide +kernel⟩
instance : Wd "join" "power" false := ⟨by decide +kernel⟩
instance : Wd "join" "part" false := ⟨by decide +kernel⟩
instance : Wd "join" "back" false := ⟨by decide +kernel⟩
instance : Wd "join" "" false := ⟨by decide +kernel⟩
instance : Wd "power" "letters" false := ⟨by decide +kernel⟩
instance : Wd "power" "join" false := ⟨by decide +kernel⟩
instance : Wd "power" "power" true := ⟨by decide +kernel⟩
instance : Wd "power" "part" false := ⟨by decide +kernel⟩
instance : Wd "power" "back" false := ⟨by decide +kernel⟩
instance : Wd "power" "" false := ⟨by decide +kernel⟩
instance : Wd "part" "letters" false := ⟨by decide +kernel⟩
instance : Wd "part" "join" false := ⟨by decide +kernel⟩
instance : Wd "part" "power" false := ⟨by decide +kernel⟩
instance : Wd "part" "part" true := ⟨by decide +kernel⟩
instance : Wd "part" "back" false := ⟨by decide +kernel⟩
instance : Wd "part" "" false := ⟨by decide +kernel⟩
instance : Wd "back" "letters" false := ⟨by decide +kernel⟩
instance : Wd "back" "join" false := ⟨by decide +kernel⟩
instance : Wd "back" "power" false := ⟨by decide +kernel⟩
instance : Wd "back" "part" false := ⟨by decide +kernel⟩
instance : Wd "back" "back" true := ⟨by decide +kernel⟩
instance : Wd "back" "" false := ⟨by decide +kernel⟩
instance : Wd "" "letters" false := ⟨by decide +kernel⟩
instance : Wd "" "join" false := ⟨by decide +kernel⟩
instance : Wd "" "power" false := ⟨by decide +kernel⟩
instance : Wd "" "part" false := ⟨by decide +kernel⟩
instance : Wd "" "back" false := ⟨by decide +kernel⟩
instance : Wd "" "" true := ⟨by decide +kernel⟩

section
variable {K : PySem.W.Frag} {H F F' : Hp} {Q : VK} {a b : Str} {r : Bool}
instance (priority := 1100) [w : Wd a b r] : St1 (rEq (.str a) (.str b) H Q) (Q (.bl r) H) := ⟨fun h => ⟨rfl, by rw [dS, w.h]; exact h⟩⟩
instance (priority := 1100) [w : Wd a b r] : St1 (rNe (.str a) (.str b) H Q) (Q (.bl (!r)) H) := ⟨fun h => ⟨rfl, by rw [dS, w.h]; exact h⟩⟩
theorem dEmpty {z : List Nat} : decide (S z = ("" : Str)) = z.isEmpty := by
  rw [empty_eq]
  cases z with
  | nil => exact decide_eq_true rfl
  | cons a z => exact decide_eq_false fun h => by cases SX.S_inj h
instance (priority := 1200) {z : List Nat} : St1 (rEq (.str (S z)) (.str "") H Q) (Q (.bl z.isEmpty) H) := ⟨fun h => ⟨rfl, by rw [dS, dEmpty]; exact h⟩⟩
instance (priority := 1200) {z : List Nat} : St1 (rNe (.str (S z)) (.str "") H Q) (Q (.bl (!z.isEmpty)) H) := ⟨fun h => ⟨rfl, by rw [dS, dEmpty]; exact h⟩⟩
/-- a rule as data -/
def ruD : Ru → PyData
  | .wri w => .tuple [.str "letters", .str (S w)]
  | .join i j => .tuple [.str "join", .int (i : Int), .int (j : Int)]
  | .power i t => .tuple [.str "power", .int (i : Int), .int (t : Int)]
  | .part i a b => .tuple [.str "part", .int (i : Int), .int (a : Int), .int (b : Int)]
  | .back i => .tuple [.str "back", .int (i : Int)]
theorem dpa_two {xs : List V} {d1 d2 : PyData} (h : DpAll K F xs [d1, d2]) : ∃ v1 v2, xs = [v1, v2] ∧ Dp K F v1 d1 ∧ Dp K F v2 d2 := by
  cases h with | cons a r => cases r with | cons b r => cases r; exact ⟨_, _, rfl, a, b⟩
theorem dpa_three {xs : List V} {d1 d2 d3 : PyData} (h : DpAll K F xs [d1, d2, d3]) : ∃ v1 v2 v3, xs = [v1, v2, v3] ∧ Dp K F v1 d1 ∧ Dp K F v2 d2 ∧ Dp K F v3 d3 := by
  cases h with | cons a r => cases r with | cons b r => cases r with | cons c r => cases r; exact ⟨_, _, _, rfl, a, b, c⟩
theorem dpa_four {xs : List V} {d1 d2 d3 d4 : PyData} (h : DpAll K F xs [d1, d2, d3, d4]) : ∃ v1 v2 v3 v4, xs = [v1, v2, v3, v4] ∧ Dp K F v1 d1 ∧ Dp K F v2 d2 ∧ Dp K F v3 d3 ∧ Dp K F v4 d4 := by
  cases h with | cons a r => cases r with | cons b r => cases r with | cons c r => cases r with | cons d r => cases r; exact ⟨_, _, _, _, rfl, a, b, c, d⟩
theorem dpa_two' {v1 v2 : V} {d1 d2 : PyData} (a : Dp K F v1 d1) (b : Dp K F v2 d2) : DpAll K F [v1, v2] [d1, d2] := .cons a (.cons b .nil)
theorem dpa_three' {v1 v2 v3 : V} {d1 d2 d3 : PyData} (a : Dp K F v1 d1) (b : Dp K F v2 d2) (c : Dp K F v3 d3) : DpAll K F [v1, v2, v3] [d1, d2, d3] := .cons a (.cons b (.cons c .nil))
theorem dpa_four' {v1 v2 v3 v4 : V} {d1 d2 d3 d4 : PyData} (a : Dp K F v1 d1) (b : Dp K F v2 d2) (c : Dp K F v3 d3) (d : Dp K F v4 d4) : DpAll K F [v1, v2, v3, v4] [d1, d2, d3, d4] := .cons a (.cons b (.cons c (.cons d .nil)))
theorem dp_ru {v : V} {r : Ru} (h : Dp K F v (ruD r)) : ∃ a, v = .ref a ∧ SqT K F a (ruV r) := by
  cases r with
  | wri w =>
    obtain ⟨a, xs, rfl, h1, h2⟩ := dp_tup h
    obtain ⟨v1, v2, rfl, d1, d2⟩ := dpa_two h2
    rw [dp_str d1, dp_str d2] at h1; exact ⟨a, rfl, h1⟩
  | join i j =>
    obtain ⟨a, xs, rfl, h1, h2⟩ := dp_tup h
    obtain ⟨v1, v2, v3, rfl, d1, d2, d3⟩ := dpa_three h2
    rw [dp_str d1, dp_int d2, dp_int d3] at h1; exact ⟨a, rfl, h1⟩
  | power i j =>
    obtain ⟨a, xs, rfl, h1, h2⟩ := dp_tup h
    obtain ⟨v1, v2, v3, rfl, d1, d2, d3⟩ := dpa_three h2
    rw [dp_str d1, dp_int d2, dp_int d3] at h1; exact ⟨a, rfl, h1⟩
  | part i j k =>
    obtain ⟨a, xs, rfl, h1, h2⟩ := dp_tup h
    obtain ⟨v1, v2, v3, v4, rfl, d1, d2, d3, d4⟩ := dpa_four h2
    rw [dp_str d1, dp_int d2, dp_int d3, dp_int d4] at h1; exact ⟨a, rfl, h1⟩
  | back i =>
    obtain ⟨a, xs, rfl, h1, h2⟩ := dp_tup h
    obtain ⟨v1, v2, rfl, d1, d2⟩ := dpa_two h2
    rw [dp_str d1, dp_int d2] at h1; exact ⟨a, rfl, h1⟩
theorem dp_ruI {a : Addr} {r : Ru} (h : SqT K F a (ruV r)) : Dp K F (.ref a) (ruD r) := by
  cases r with
  | wri w => exact .tup h (dpa_two' (.str _) (.str _))
  | join i j => exact .tup h (dpa_three' (.str _) (.int _) (.int _))
  | power i t => exact .tup h (dpa_three' (.str _) (.int _) (.int _))
  | part i a b => exact .tup h (dpa_four' (.str _) (.int _) (.int _) (.int _))
  | back i => exact .tup h (dpa_two' (.str _) (.int _))
theorem dpa_rev : ∀ {xs : List V} {ds : List PyData}, DpAll K F xs ds → DpAll K F xs.reverse ds.reverse
  | _, _, .nil => .nil
  | _, _, .cons a r => by rw [List.reverse_cons, List.reverse_cons]; exact dpa_app (dpa_rev r) (.cons a .nil)
theorem dp_rus {vs : List V} {rs : List Ru} {i : Nat} {r : Ru} (h : DpAll K F vs (rs.map ruD)) (hr : rs[i]? = some r) : ∃ a, vs[i]? = some (.ref a) ∧ SqT K F a (ruV r) := by
  have hl := dpa_len h
  have hi := (List.getElem?_eq_some_iff.mp hr).1
  rw [List.length_map] at hl
  obtain ⟨v, d, h1, h2, h3⟩ := dpa_get (i := i) h (by rw [List.length_map]; exact hi)
  rw [List.getElem?_map, hr] at h2
  cases h2
  obtain ⟨a, rfl, h4⟩ := dp_ru h3
  exact ⟨a, h1, h4⟩
/-- rules that are passed: lists or tuples -/
def Pas (K : PySem.W.Frag) (F : Hp) (vs : List V) (rs : List Ru) : Prop := vs.length = rs.length ∧ ∀ (i : Nat) v r, vs[i]? = some v → rs[i]? = some r → ∃ a, v = .ref a ∧ (SqL K F a (ruV r) ∨ SqT K F a (ruV r))
theorem Pas.mono {vs : List V} {rs : List Ru} (e : Same F F') (h : Pas K F vs rs) : Pas K F' vs rs := ⟨h.1, fun i v r h1 h2 => by
  obtain ⟨a, h3, h4⟩ := h.2 i v r h1 h2
  exact ⟨a, h3, h4.imp (same_l e) (same_t e)⟩⟩
theorem Pas.of {vs : List V} {rs : List Ru} (h : DpAll K F vs (rs.map ruD)) : Pas K F vs rs := by
  have hl := dpa_len h
  rw [List.length_map] at hl
  refine ⟨hl, fun i v r h1 h2 => ?_⟩
  obtain ⟨a, h3, h4⟩ := dp_rus h h2
  rw [h1] at h3; cases h3
  exact ⟨a, rfl, .inr h4⟩
/-- a part that waits: number, first, last, turned -/
abbrev Pt := Nat × Nat × Nat × Bool
def ptD (p : Pt) : PyData := .tuple [.int (p.1 : Int), .int (p.2.1 : Int), .int (p.2.2.1 : Int), .bool p.2.2.2]
def ptT (ts : List Tx) (p : Pt) : Tx := if p.2.2.2 = true then (cut (gt ts p.1) p.2.1 p.2.2.1).reverse else cut (gt ts p.1) p.2.1 p.2.2.1
theorem dp_pt {v : V} {p : Pt} (h : Dp K F v (ptD p)) : ∃ a, v = .ref a ∧ SqT K F a [.int (p.1 : Int), .int (p.2.1 : Int), .int (p.2.2.1 : Int), .bl p.2.2.2] := by
  obtain ⟨a, xs, rfl, h1, h2⟩ := dp_tup h
  obtain ⟨v1, v2, v3, v4, rfl, d1, d2, d3, d4⟩ := dpa_four h2
  rw [dp_int d1, dp_int d2, dp_int d3] at h1
  cases d4
  exact ⟨a, rfl, h1⟩
theorem dp_ptI {a : Addr} {n x y : Nat} {c : Bool} (h : SqT K F a [.int (n : Int), .int (x : Int), .int (y : Int), .bl c]) : Dp K F (.ref a) (ptD (n, x, y, c)) := .tup h (dpa_four' (.int _) (.int _) (.int _) (.bl _))
end
/-- parts that are there, of earlier rules, not empty -/
def PtK (n : Nat) (ts : List Tx) (p : Pt) : Prop := p.1 < n ∧ p.2.1 < p.2.2.1 ∧ p.2.2.1 ≤ (gt ts p.1).length
def ptsT (ts : List Tx) (ps : List Pt) : Tx := (ps.map (ptT ts)).flatten
theorem ptsT_app {ts : List Tx} {a b : List Pt} : ptsT ts (a ++ b) = ptsT ts a ++ ptsT ts b := by simp [ptsT]
theorem ptsT_nil {ts : List Tx} : ptsT ts [] = [] := rfl
theorem ptsT_one {ts : List Tx} {p : Pt} : ptsT ts [p] = ptT ts p := by simp [ptsT]
/-- turned round: the other way about, each part turned -/
def flip (p : Pt) : Pt := (p.1, p.2.1, p.2.2.1, !decide (p.2.2.2 = true))
theorem ptT_flip {ts : List Tx} {p : Pt} : ptT ts (flip p) = (ptT ts p).reverse := by
  obtain ⟨n, a, b, c⟩ := p
  cases c <;> simp [ptT, flip]
theorem ptsT_turn {ts : List Tx} : ∀ {ps : List Pt}, ptsT ts ((ps.map flip).reverse) = (ptsT ts ps).reverse
  | [] => rfl
  | p :: ps => by
    rw [List.map_cons, List.reverse_cons, ptsT_app, ptsT_turn, ptsT_one, ptT_flip]
    show _ = (ptT ts p ++ ptsT ts ps).reverse
    rw [List.reverse_append]
/-- what is to be done -/
def ptM (ps : List Pt) : Nat := (ps.map fun p => 2 * (p.2.2.1 - p.2.1) * (p.1 + 1) + 1).sum
def ptL (ps : List Pt) : Nat := (ps.map fun p => p.2.2.1 - p.2.1).sum
theorem ptM_app {a b : List Pt} : ptM (a ++ b) = ptM a + ptM b := by simp [ptM]
theorem ptL_app {a b : List Pt} : ptL (a ++ b) = ptL a + ptL b := by simp [ptL]
theorem ptM_le {n : Nat} {ts : List Tx} : ∀ {ps : List Pt}, (∀ p ∈ ps, PtK n ts p) → ptM ps ≤ 2 * ptL ps * n + ps.length ∧ ps.length ≤ ptL ps
  | [], _ => by simp [ptM, ptL]
  | p :: ps, h => by
    obtain ⟨h1, h2⟩ := ptM_le (ps := ps) fun q hq => h q (List.mem_cons_of_mem _ hq)
    obtain ⟨k1, k2, k3⟩ := h p (List.mem_cons_self ..)
    have e1 : ptM (p :: ps) = (2 * (p.2.2.1 - p.2.1) * (p.1 + 1) + 1) + ptM ps := by simp [ptM]
    have e2 : ptL (p :: ps) = (p.2.2.1 - p.2.1) + ptL ps := by simp [ptL]
    have e3 : 2 * (p.2.2.1 - p.2.1) * (p.1 + 1) ≤ 2 * (p.2.2.1 - p.2.1) * n := Nat.mul_le_mul_left _ k1
    rw [e1, e2, List.length_cons]
    have e4 : 2 * (p.2.2.1 - p.2.1 + ptL ps) * n = 2 * (p.2.2.1 - p.2.1) * n + 2 * ptL ps * n := by rw [Nat.mul_add, Nat.add_mul]
    rw [e4]
    omega
theorem ptL_len {n : Nat} {ts : List Tx} : ∀ {ps : List Pt}, (∀ p ∈ ps, PtK n ts p) → (ptsT ts ps).length = ptL ps
  | [], _ => rfl
  | p :: ps, h => by
    have h1 := ptL_len (ps := ps) fun q hq => h q (List.mem_cons_of_mem _ hq)
    obtain ⟨k1, k2, k3⟩ := h p (List.mem_cons_self ..)
    have e2 : ptL (p :: ps) = (p.2.2.1 - p.2.1) + ptL ps := by simp [ptL]
    have e3 : (ptT ts p).length = p.2.2.1 - p.2.1 := by
      unfold ptT
      split
      · rw [List.length_reverse, cut_len' k3]
      · rw [cut_len' k3]
    show (ptT ts p ++ ptsT ts ps).length = _
    rw [List.length_append, h1, e2, e3]
theorem flip_all {ps : List Pt} : ptM (ps.map flip) = ptM ps ∧ ptL (ps.map flip) = ptL ps := by
  constructor
  · simp only [ptM, List.map_map]; rfl
  · simp only [ptL, List.map_map]; rfl
theorem ptM_rev {ps : List Pt} : ptM ps.reverse = ptM ps ∧ ptL ps.reverse = ptL ps := by
  constructor
  · simp [ptM]
  · simp [ptL]
/-- one word of a power -/
theorem rep_cut {x : Tx} {t k u v : Nat} (hk : k < t) (hv : v ≤ x.length) : cut (List.replicate t x).flatten (k * x.length + u) (k * x.length + v) = cut x u v := by
  have e : t = k + (t - k) := by omega
  rw [e, ← List.replicate_append_replicate, List.flatten_append]
  obtain ⟨m, hm⟩ : ∃ m, t - k = m + 1 := ⟨t - k - 1, by omega⟩
  rw [hm, List.replicate_succ, List.flatten_cons]
  have hl : ((List.replicate k x).flatten).length = k * x.length := rep_len
  unfold cut
  rw [List.take_append, hl, List.drop_append]
  have z1 : ((List.replicate k x).flatten.take (k * x.length + v)).drop (k * x.length + u) = [] := by
    rw [List.drop_eq_nil_iff, List.length_take, hl]; omega
  rw [z1, List.nil_append, List.length_take, hl]
  have z2 : k * x.length + u - min (k * x.length + v) (k * x.length) = u := by omega
  have z3 : k * x.length + v - k * x.length = v := by omega
  rw [z2, z3, List.take_append_of_le_length hv]
/-- .. one word more -/
theorem rep_step {x : Tx} {t k a b : Nat} (hk : k < t) (h1 : a / x.length ≤ k) (h2 : k * x.length < b) (hb : b ≤ t * x.length) (hab : a < b) (hx : 0 < x.length) :
    cut (List.replicate t x).flatten a (min b (k * x.length)) ++ cut x (a - k * x.length) (min (b - k * x.length) x.length) = cut (List.replicate t x).flatten a (min b ((k + 1) * x.length)) := by
  have ha : a < (k + 1) * x.length := by
    have := Nat.lt_mul_of_div_lt (Nat.lt_succ_of_le h1) hx
    exact this
  rw [Nat.add_mul, Nat.one_mul] at ha
  have e1 : min b (k * x.length) = k * x.length := Nat.min_eq_right (by omega)
  rw [e1, ← rep_cut (t := t) (k := k) (x := x) (u := a - k * x.length) hk (Nat.min_le_right _ _)]
  have e2 : k * x.length + min (b - k * x.length) x.length = min b ((k + 1) * x.length) := by rw [Nat.add_mul, Nat.one_mul]; omega
  rw [e2]
  by_cases hak : a ≤ k * x.length
  · have e3 : k * x.length + (a - k * x.length) = k * x.length := by omega
    rw [e3]
    exact cut_app hak (by rw [Nat.add_mul, Nat.one_mul]; omega)
  · have e3 : k * x.length + (a - k * x.length) = a := by omega
    rw [e3, cut_nil (a := a) (b := k * x.length) (by omega), List.nil_append]
end Sh


set_option Elab.async false
set_option linter.all false
set_option maxRecDepth 100000
set_option maxHeartbeats 4000000
namespace Sh
open PySem PySem.Spec PyProof.Rows L2
open SX (S)
namespace Tr
set_option synthInstance.maxSize 4096
set_option synthInstance.maxHeartbeats 400000
local macro_rules | `(tactic| walk_at "vv1") => `(tactic| first
  | refine go ?_
  | (with_reducible refine v_mulL (by omega) (by omega) ?_) | (with_reducible refine v_mulR (by omega) (by omega) ?_) | (with_reducible refine v_divI (by omega) (by omega) ?_) | (with_reducible refine v_modI (by omega) ?_)
  | (with_reducible refine v_r1 (by omega) (by omega) ?_) | (with_reducible refine v_r2 (by omega) (by omega) (by omega) (by omega) ?_))
local macro_rules | `(tactic| walk_at "vv") => `(tactic| repeat (walk_at "vv1"))
def N_law_pool : List Str := ["_law_script", "_law_cell"]
theorem st_law_pool {v0 : V} : start N_law_pool [v0] = [some v0, none] := rfl
def t_law_pool (K : PySem.W.Frag) : TS := (tRet (tLst (tCons (tLc (iList K (tVar 0)) (gName 1) tYes (tIf (tTest (tOp rGeI (tVar 1) (tC (.int 0)))) (tOp rMulI (tC (.int 2)) (tVar 1)) (tOp rSubI (tOp rMulI (tUn rNegI (tC (.int 2))) (tVar 1)) (tC (.int 1)))) [1]) (tCons (tC (.int 0)) (tCons (tC (.int 0)) (tCons (tC (.int 17)) tNil))))))
def s_law_pool (ξ : Xi) : WS := (sRet (eLst (aCons (eLc (iL (eFrz 0)) (gNm 1) tYs (eIf (tB0 (bTest (bOp wGeI (bVar 1) (bC (.int 0))))) (eB (bOp wMulI (bC (.int 2)) (bVar 1))) (eB (bOp wSubI (bOp wMulI (bUn wNegI (bC (.int 2))) (bVar 1)) (bC (.int 1))))) [1]) (aCons (eB (bC (.int 0))) (aCons (eB (bC (.int 0))) (aCons (eB (bC (.int 17))) aNil))))))
theorem snd_law_pool {K : PySem.W.Frag} (v0 : V) (E : XK) (ξ : Xi) : SS K [none] (fun _ => E) ξ (t_law_pool K) (s_law_pool ξ) := by
  unfold t_law_pool s_law_pool
  exact (ss_ret (se_lst (sa_cons (se_lc (si_list se_frz) (sg_name (.inr rfl)) st_yes (se_if (st_b (sb_test (sb_op sr_geI sb_var sb_int))) (se_b (sb_op sr_mulI sb_int sb_var)) (se_b (sb_op sr_subI (sb_op sr_mulI (sb_un sr_negI sb_int) sb_var) sb_int))) (by decide) (by rfl)) (sa_cons (se_b sb_int) (sa_cons (se_b sb_int) (sa_cons (se_b sb_int) sa_nil))))))
def v_law_pool : WF := wf (s_law_pool) [false] 2
theorem w_law_pool (x0 : Vl) (P : Vl → Ev → Prop) (PX : Xi) : v_law_pool [x0] P PX = s_law_pool (fun C fs env => nOut [false] env (PX C fs)) (VE.mk (fun env => nOut [false] env (P .non)) (fun x env => nOut [false] env (P x)) (fun _ => False) (fun _ => False)) [some x0, none] := rfl
theorem pure_law_pool {K : PySem.W.Frag} (vs : List V) (H : Hp) (Q : VK) (E : XK) (h : spOf K 1 (v_law_pool) vs H Q E) : t_law_pool K { nx := fun _ H' => Q .non H', rt := Q } (start N_law_pool vs) H :=
  body_ok (N := N_law_pool) (pn := [false]) (t := fun E => t_law_pool K) (fun vs hl E ξ => match vs, hl with | [v0], _ => snd_law_pool v0 E ξ) h
def N_law_take : List Str := ["_law_pool_here", "_law_many", "_law_digit", "_law_cell", "_law_mixed"]
theorem st_law_take {v0 v1 : V} : start N_law_take [v0, v1] = [some v0, some v1, none, none, none] := rfl
def t_law_take (K : PySem.W.Frag) (sp_law_take : Sp) : TS := (tSeq (tIfS (tTest (tOp rGtI (tOp (rIx K) (tVar 0) (tC (.int 2))) (tC (.int 0)))) (tSeq (tAsg (tOp rModI (tCB rInt1 (tCons (tOp (rIx K) (tVar 0) (tC (.int 2))) tNil)) (tVar 1)) (gName 2)) (tSeq (tAsg (tOp rDivI (tOp (rIx K) (tVar 0) (tC (.int 2))) (tVar 1)) (gSub (tVar 0) (tC (.int 2)) rSetL)) (tRet (tVar 2)))) tNext) (tSeq (tAsg (tC (.int 0)) (gName 3)) (Evl.tCut (tIfS (tTest (tOp rLtI (tOp (rIx K) (tVar 0) (tC (.int 1))) (tCB (rLn K) (tCons (tOp (rIx K) (tVar 0) (tC (.int 0))) tNil)))) (tAsg (tOp (rIx K) (tOp (rIx K) (tVar 0) (tC (.int 0))) (tOp (rIx K) (tVar 0) (tC (.int 1)))) (gName 3)) tNext) (tSeq (tAsg (tOp rAddI (tOp (rIx K) (tVar 0) (tC (.int 1))) (tC (.int 1))) (gSub (tVar 0) (tC (.int 1)) rSetL)) (tSeq (tIfS (tTest (tOp rGeI (tVar 3) (tOp rPowI (tC (.int 10)) (tC (.int 18))))) (tSeq (tAsg (tOp rDivI (tVar 3) (tC (.int 2))) (gSub (tVar 0) (tC (.int 2)) rSetL)) (tRet (tCall sp_law_take [] E0 (tCons (tVar 0) (tCons (tVar 1) tNil))))) tNext) (tSeq (tAsg (tOp rModI (tCB rInt1 (tCons (tOp rAddI (tOp rAddI (tOp rMulI (tOp (rIx K) (tVar 0) (tC (.int 3))) (tC (.int 48271))) (tOp rMulI (tVar 3) (tC (.int 69621)))) (tOp rMulI (tOp (rIx K) (tVar 0) (tC (.int 1))) (tC (.int 613)))) tNil)) (tC (.int 2147483647))) (gSub (tVar 0) (tC (.int 3)) rSetL)) (tSeq (tAsg (tOp rModI (tCB rInt1 (tCons (tOp rAddI (tOp rAddI (tOp rMulI (tOp (rIx K) (tVar 0) (tC (.int 3))) (tOp (rIx K) (tVar 0) (tC (.int 3)))) (tOp rMulI (tOp (rIx K) (tVar 0) (tC (.int 3))) (tC (.int 7919)))) (tC (.int 104729))) tNil)) (tC (.int 1000000007))) (gName 4)) (tRet (tOp rModI (tCB rInt1 (tCons (tOp rDivI (tVar 4) (tC (.int 3))) tNil)) (tVar 1))))))))))
def s_law_take (φ_law_take : WF) (ξ : Xi) : WS := (sSeq (sIf (tB0 (bTest (bOp wGtI (bOp wIx (bVar 0) (bC (.int 2))) (bC (.int 0))))) (sSeq (sAsg (eB (bOp wModI (bCB wInt1 (bCons (bOp wIx (bVar 0) (bC (.int 2))) bNil)) (bVar 1))) (gNm 2)) (sSeq (sAsg (eB (bOp wDivI (bOp wIx (bVar 0) (bC (.int 2))) (bVar 1))) (gSt (gSl 0) (pSl 0) (bC (.int 2)))) (sRet (eMov 2)))) sNext) (sSeq (sAsg (eB (bC (.int 0))) (gNm 3)) (sCut (sIf (tB0 (bTest (bOp wLtI (bOp wIx (bVar 0) (bC (.int 1))) (bCB wLen (bCons (bOp wIx (bVar 0) (bC (.int 0))) bNil))))) (sAsg (eB (bOp wIx (bOp wIx (bVar 0) (bC (.int 0))) (bOp wIx (bVar 0) (bC (.int 1))))) (gNm 3)) sNext) (sSeq (sAsg (eB (bOp wAddI (bOp wIx (bVar 0) (bC (.int 1))) (bC (.int 1)))) (gSt (gSl 0) (pSl 0) (bC (.int 1)))) (sSeq (sIf (tB0 (bTest (bOp wGeI (bVar 3) (bOp wPowI (bC (.int 10)) (bC (.int 18)))))) (sSeq (sAsg (eB (bOp wDivI (bVar 3) (bC (.int 2)))) (gSt (gSl 0) (pSl 0) (bC (.int 2)))) (sRet (eCall φ_law_take [some 0, none] xNo (aIo 0 (aCons (eFrz 1) aNil))))) sNext) (sSeq (sAsg (eB (bOp wModI (bCB wInt1 (bCons (bOp wAddI (bOp wAddI (bOp wMulI (bOp wIx (bVar 0) (bC (.int 3))) (bC (.int 48271))) (bOp wMulI (bVar 3) (bC (.int 69621)))) (bOp wMulI (bOp wIx (bVar 0) (bC (.int 1))) (bC (.int 613)))) bNil)) (bC (.int 2147483647)))) (gSt (gSl 0) (pSl 0) (bC (.int 3)))) (sSeq (sAsg (eB (bOp wModI (bCB wInt1 (bCons (bOp wAddI (bOp wAddI (bOp wMulI (bOp wIx (bVar 0) (bC (.int 3))) (bOp wIx (bVar 0) (bC (.int 3)))) (bOp wMulI (bOp wIx (bVar 0) (bC (.int 3))) (bC (.int 7919)))) (bC (.int 104729))) bNil)) (bC (.int 1000000007)))) (gNm 4)) (sRet (eB (bOp wModI (bCB wInt1 (bCons (bOp wDivI (bVar 4) (bC (.int 3))) bNil)) (bVar 1)))))))))))
theorem snd_law_take {K : PySem.W.Frag} (φ_law_take : WF) (v0 v1 : V) (E : XK) (ξ : Xi) : SS K [some v0, none] (fun _ => E) ξ (t_law_take K (spOf K 2 φ_law_take)) (s_law_take φ_law_take ξ) := by
  unfold t_law_take s_law_take
  exact (ss_seq (ss_if (st_b (sb_test (sb_op sr_gtI (sb_op sr_ix sb_var sb_int) sb_int))) (ss_seq (ss_asg (se_b (sb_op sr_modI (sb_cb sr_int1 (sb_cons (sb_op sr_ix sb_var sb_int) sb_nil)) sb_var)) (sg_name (.inr rfl))) (ss_seq (ss_asg (se_b (sb_op sr_divI (sb_op sr_ix sb_var sb_int) sb_var)) (sg_set spl_slot sb_int)) (ss_ret se_mov))) ss_next) (ss_seq (ss_asg (se_b sb_int) (sg_name (.inr rfl))) (ss_cut (ss_if (st_b (sb_test (sb_op sr_ltI (sb_op sr_ix sb_var sb_int) (sb_cb sr_len (sb_cons (sb_op sr_ix sb_var sb_int) sb_nil))))) (ss_asg (se_b (sb_op sr_ix (sb_op sr_ix sb_var sb_int) (sb_op sr_ix sb_var sb_int))) (sg_name (.inr rfl))) ss_next) (ss_seq (ss_asg (se_b (sb_op sr_addI (sb_op sr_ix sb_var sb_int) sb_int)) (sg_set spl_slot sb_int)) (ss_seq (ss_if (st_b (sb_test (sb_op sr_geI sb_var (sb_op sr_powI sb_int sb_int)))) (ss_seq (ss_asg (se_b (sb_op sr_divI sb_var sb_int)) (sg_set spl_slot sb_int)) (ss_ret (se_call rfl (sk_io (sk_ex se_frz sk_nil))))) ss_next) (ss_seq (ss_asg (se_b (sb_op sr_modI (sb_cb sr_int1 (sb_cons (sb_op sr_addI (sb_op sr_addI (sb_op sr_mulI (sb_op sr_ix sb_var sb_int) sb_int) (sb_op sr_mulI sb_var sb_int)) (sb_op sr_mulI (sb_op sr_ix sb_var sb_int) sb_int)) sb_nil)) sb_int)) (sg_set spl_slot sb_int)) (ss_seq (ss_asg (se_b (sb_op sr_modI (sb_cb sr_int1 (sb_cons (sb_op sr_addI (sb_op sr_addI (sb_op sr_mulI (sb_op sr_ix sb_var sb_int) (sb_op sr_ix sb_var sb_int)) (sb_op sr_mulI (sb_op sr_ix sb_var sb_int) sb_int)) sb_int) sb_nil)) sb_int)) (sg_name (.inr rfl))) (ss_ret (se_b (sb_op sr_modI (sb_cb sr_int1 (sb_cons (sb_op sr_divI sb_var sb_int) sb_nil)) sb_var))))))))))
def v_law_take (φ_law_take : WF) : WF := wf (s_law_take φ_law_take) [true, false] 5
theorem w_law_take (φ_law_take : WF) (x0 x1 : Vl) (P : Vl → Ev → Prop) (PX : Xi) : v_law_take φ_law_take [x0, x1] P PX = s_law_take φ_law_take (fun C fs env => nOut [true, false] env (PX C fs)) (VE.mk (fun env => nOut [true, false] env (P .non)) (fun x env => nOut [true, false] env (P x)) (fun _ => False) (fun _ => False)) [some x0, some x1, none, none, none] := rfl
theorem pure_law_take {K : PySem.W.Frag} (φ_law_take : WF) (vs : List V) (H : Hp) (Q : VK) (E : XK) (h : spOf K 2 (v_law_take φ_law_take) vs H Q E) : t_law_take K (spOf K 2 φ_law_take) { nx := fun _ H' => Q .non H', rt := Q } (start N_law_take vs) H :=
  body_ok (N := N_law_take) (pn := [true, false]) (t := fun E => t_law_take K (spOf K 2 φ_law_take)) (fun vs hl E ξ => match vs, hl with | [v0, v1], _ => snd_law_take φ_law_take v0 v1 E ξ) h
def N_law_written : List Str := ["_law_pool_here", "_law_signs", "_law_kind", "_law_many", "_law_row", "_law_k"]
theorem st_law_written {v0 : V} : start N_law_written [v0] = [some v0, none, none, none, none, none] := rfl
def t_law_written (K : PySem.W.Frag) (sp_law_take : Sp) : TS := (tSeq (tAsg (tC (.str " !\"#$&'()*+,-./0123456789:;<=>?@ABCDEFGHIJKLMNOPQRSTUVWXYZ[\\]^_`abcdefghijklmnopqrstuvwxyz{|}~")) (gName 1)) (tSeq (tAsg (tCall sp_law_take [] E0 (tCons (tVar 0) (tCons (tC (.int 6)) tNil))) (gName 2)) (tSeq (tAsg (tCall sp_law_take [] E0 (tCons (tVar 0) (tCons (tC (.int 6)) tNil))) (gName 3)) (Evl.tCut (tIfS (tTest (tOp rEq (tVar 2) (tC (.int 0)))) (tAsg (tCall sp_law_take [] E0 (tCons (tVar 0) (tCons (tC (.int 65)) tNil))) (gName 3)) tNext) (tSeq (tAsg (tLst tNil) (gName 4)) (tSeq (tFor (iRng1 (tCons (tVar 3) tNil)) (gName 5) (tIfS (tTest (tOp rLtI (tVar 2) (tC (.int 3)))) (tDrop (tBM K "list" rAppend (tVar 4) (tCons (tOp (rIx K) (tVar 1) (tCall sp_law_take [] E0 (tCons (tVar 0) (tCons (tC (.int 94)) tNil)))) tNil))) (tDrop (tBM K "list" rAppend (tVar 4) (tCons (tOp (rIx K) (tC (.str "ab")) (tCall sp_law_take [] E0 (tCons (tVar 0) (tCons (tC (.int 2)) tNil)))) tNil))))) (tRet (tJoin K (tC (.str "")) (tVar 4)))))))))
def s_law_written (φ_law_take : WF) (ξ : Xi) : WS := (sSeq (sAsg (eB (bC (.str " !\"#$&'()*+,-./0123456789:;<=>?@ABCDEFGHIJKLMNOPQRSTUVWXYZ[\\]^_`abcdefghijklmnopqrstuvwxyz{|}~"))) (gNm 1)) (sSeq (sAsg (eCall φ_law_take [some 0, none] xNo (aIo 0 (aCons (eB (bC (.int 6))) aNil))) (gNm 2)) (sSeq (sAsg (eCall φ_law_take [some 0, none] xNo (aIo 0 (aCons (eB (bC (.int 6))) aNil))) (gNm 3)) (sCut (sIf (tB0 (bTest (bOp (wEqB false) (bVar 2) (bC (.int 0))))) (sAsg (eCall φ_law_take [some 0, none] xNo (aIo 0 (aCons (eB (bC (.int 65))) aNil))) (gNm 3)) sNext) (sSeq (sAsg (eLst aNil) (gNm 4)) (sSeq (sFor (iR1 (aCons (eFrz 3) aNil)) (gNm 5) (sIf (tB0 (bTest (bOp wLtI (bVar 2) (bC (.int 3))))) (sDrop (eMs 4 mApp (aCons (eOp wIx (eFrz 1) (eCall φ_law_take [some 0, none] xNo (aIo 0 (aCons (eB (bC (.int 94))) aNil)))) aNil))) (sDrop (eMs 4 mApp (aCons (eOp wIx (eB (bC (.str "ab"))) (eCall φ_law_take [some 0, none] xNo (aIo 0 (aCons (eB (bC (.int 2))) aNil)))) aNil))))) (sRet (eB (bJoin (bVar 4))))))))))
theorem snd_law_written {K : PySem.W.Frag} (φ_law_take : WF) (v0 : V) (E : XK) (ξ : Xi) : SS K [some v0] (fun _ => E) ξ (t_law_written K (spOf K 2 φ_law_take)) (s_law_written φ_law_take ξ) := by
  unfold t_law_written s_law_written
  exact (ss_seq (ss_asg (se_b sb_str) (sg_name (.inr rfl))) (ss_seq (ss_asg (se_call rfl (sk_io (sk_ex (se_b sb_int) sk_nil))) (sg_name (.inr rfl))) (ss_seq (ss_asg (se_call rfl (sk_io (sk_ex (se_b sb_int) sk_nil))) (sg_name (.inr rfl))) (ss_cut (ss_if (st_b (sb_test (sb_op sr_eq sb_var sb_int))) (ss_asg (se_call rfl (sk_io (sk_ex (se_b sb_int) sk_nil))) (sg_name (.inr rfl))) ss_next) (ss_seq (ss_asg (se_lst sa_nil) (sg_name (.inr rfl))) (ss_seq (ss_for (si_rng1 (sa_cons se_frz sa_nil)) (sg_name (.inr rfl)) (ss_if (st_b (sb_test (sb_op sr_ltI sb_var sb_int))) (ss_drop (se_ms sm_append (sa_cons (se_op sr_ix se_frz (se_call rfl (sk_io (sk_ex (se_b sb_int) sk_nil)))) sa_nil))) (ss_drop (se_ms sm_append (sa_cons (se_op sr_ix (se_b sb_str) (se_call rfl (sk_io (sk_ex (se_b sb_int) sk_nil)))) sa_nil))))) (ss_ret (se_b (sb_join sb_var)))))))))
def v_law_written (φ_law_take : WF) : WF := wf (s_law_written φ_law_take) [true] 6
theorem w_law_written (φ_law_take : WF) (x0 : Vl) (P : Vl → Ev → Prop) (PX : Xi) : v_law_written φ_law_take [x0] P PX = s_law_written φ_law_take (fun C fs env => nOut [true] env (PX C fs)) (VE.mk (fun env => nOut [true] env (P .non)) (fun x env => nOut [true] env (P x)) (fun _ => False) (fun _ => False)) [some x0, none, none, none, none, none] := rfl
theorem pure_law_written {K : PySem.W.Frag} (φ_law_take : WF) (vs : List V) (H : Hp) (Q : VK) (E : XK) (h : spOf K 1 (v_law_written φ_law_take) vs H Q E) : t_law_written K (spOf K 2 φ_law_take) { nx := fun _ H' => Q .non H', rt := Q } (start N_law_written vs) H :=
  body_ok (N := N_law_written) (pn := [true]) (t := fun E => t_law_written K (spOf K 2 φ_law_take)) (fun vs hl E ξ => match vs, hl with | [v0], _ => snd_law_written φ_law_take v0 E ξ) h
def N_law_number : List Str := ["_law_pool_here", "_law_many"]
theorem st_law_number {v0 v1 : V} : start N_law_number [v0, v1] = [some v0, some v1] := rfl
def t_law_number (K : PySem.W.Frag) (sp_law_take : Sp) : TS := (tSeq (tIfS (tTest (tOp rGtI (tCall sp_law_take [] E0 (tCons (tVar 0) (tCons (tC (.int 3)) tNil))) (tC (.int 0)))) (tRet (tOp rSubI (tVar 1) (tC (.int 1)))) tNext) (tRet (tCall sp_law_take [] E0 (tCons (tVar 0) (tCons (tVar 1) tNil)))))
def s_law_number (φ_law_take : WF) (ξ : Xi) : WS := (sSeq (sIf (tTst (eOp wGtI (eCall φ_law_take [some 0, none] xNo (aIo 0 (aCons (eB (bC (.int 3))) aNil))) (eB (bC (.int 0))))) (sRet (eB (bOp wSubI (bVar 1) (bC (.int 1))))) sNext) (sRet (eCall φ_law_take [some 0, none] xNo (aIo 0 (aCons (eFrz 1) aNil)))))
theorem snd_law_number {K : PySem.W.Frag} (φ_law_take : WF) (v0 v1 : V) (E : XK) (ξ : Xi) : SS K [some v0, none] (fun _ => E) ξ (t_law_number K (spOf K 2 φ_law_take)) (s_law_number φ_law_take ξ) := by
  unfold t_law_number s_law_number
  exact (ss_seq (ss_if (st_test (se_op sr_gtI (se_call rfl (sk_io (sk_ex (se_b sb_int) sk_nil))) (se_b sb_int))) (ss_ret (se_b (sb_op sr_subI sb_var sb_int))) ss_next) (ss_ret (se_call rfl (sk_io (sk_ex se_frz sk_nil)))))
def v_law_number (φ_law_take : WF) : WF := wf (s_law_number φ_law_take) [true, false] 2
theorem w_law_number (φ_law_take : WF) (x0 x1 : Vl) (P : Vl → Ev → Prop) (PX : Xi) : v_law_number φ_law_take [x0, x1] P PX = s_law_number φ_law_take (fun C fs env => nOut [true, false] env (PX C fs)) (VE.mk (fun env => nOut [true, false] env (P .non)) (fun x env => nOut [true, false] env (P x)) (fun _ => False) (fun _ => False)) [some x0, some x1] := rfl
theorem pure_law_number {K : PySem.W.Frag} (φ_law_take : WF) (vs : List V) (H : Hp) (Q : VK) (E : XK) (h : spOf K 2 (v_law_number φ_law_take) vs H Q E) : t_law_number K (spOf K 2 φ_law_take) { nx := fun _ H' => Q .non H', rt := Q } (start N_law_number vs) H :=
  body_ok (N := N_law_number) (pn := [true, false]) (t := fun E => t_law_number K (spOf K 2 φ_law_take)) (fun vs hl E ξ => match vs, hl with | [v0, v1], _ => snd_law_number φ_law_take v0 v1 E ξ) h
def N_law_next : List Str := ["_law_pool_here", "_law_texts", "_law_most", "_law_kind", "_law_first", "_law_size", "_law_second", "_law_times", "_law_start"]
theorem st_law_next {v0 v1 v2 : V} : start N_law_next [v0, v1, v2] = [some v0, some v1, some v2, none, none, none, none, none, none] := rfl
def t_law_next (K : PySem.W.Frag) (sp_law_take : Sp) (sp_law_written : Sp) (sp_law_number : Sp) : TS := (tSeq (tAsg (tCall sp_law_take [] E0 (tCons (tVar 0) (tCons (tC (.int 7)) tNil))) (gName 3)) (tSeq (tIfS (tOr (tTest (tOp rEq (tVar 3) (tC (.int 0)))) (tNot (tTru K (tVar 1)))) (tRet (tTup (tCons (tC (.str "letters")) (tCons (tCall sp_law_written [] E0 (tCons (tVar 0) tNil)) tNil)))) tNext) (tSeq (tAsg (tCall sp_law_number [] E0 (tCons (tVar 0) (tCons (tCB (rLn K) (tCons (tVar 1) tNil)) tNil))) (gName 4)) (tSeq (tAsg (tCB (rLn K) (tCons (tOp (rIx K) (tVar 1) (tVar 4)) tNil)) (gName 5)) (Evl.tCut (tIfS (tTest (tOp rLtI (tVar 3) (tC (.int 3)))) (tSeq (tAsg (tCall sp_law_take [] E0 (tCons (tVar 0) (tCons (tCB (rLn K) (tCons (tVar 1) tNil)) tNil))) (gName 6)) (tSeq (tIfS (tTest (tOp rEq (tCall sp_law_take [] E0 (tCons (tVar 0) (tCons (tC (.int 2)) tNil))) (tC (.int 1)))) (tSeq (tPar 4 6 (tCons (tVar 6) (tCons (tVar 4) tNil))) (tAsg (tCB (rLn K) (tCons (tOp (rIx K) (tVar 1) (tVar 4)) tNil)) (gName 5))) tNext) (tIfS (tTest (tOp rLeI (tOp rAddI (tCB (rLn K) (tCons (tOp (rIx K) (tVar 1) (tVar 4)) tNil)) (tCB (rLn K) (tCons (tOp (rIx K) (tVar 1) (tVar 6)) tNil))) (tVar 2))) (tRet (tTup (tCons (tC (.str "join")) (tCons (tVar 4) (tCons (tVar 6) tNil))))) tNext))) tNext) (Evl.tCut (tIfS (tTest (tOp rEq (tVar 3) (tC (.int 3)))) (tSeq (tAsg (tCall sp_law_take [] E0 (tCons (tVar 0) (tCons (tC (.int 6)) tNil))) (gName 7)) (tSeq (tIfS (tTest (tOp rEq (tVar 5) (tC (.int 0)))) (tAsg (tOp (rIx K) (tTup (tCons (tC (.int 0)) (tCons (tC (.int 1)) (tCons (tC (.int 7)) (tCons (tOp rPowI (tC (.int 10)) (tC (.int 12))) tNil))))) (tCall sp_law_take [] E0 (tCons (tVar 0) (tCons (tC (.int 4)) tNil)))) (gName 7)) tNext) (tIfS (tTest (tOp rLeI (tOp rMulI (tVar 5) (tVar 7)) (tVar 2))) (tRet (tTup (tCons (tC (.str "power")) (tCons (tVar 4) (tCons (tVar 7) tNil))))) tNext))) tNext) (tSeq (tIfS (tTest (tOp rLtI (tVar 3) (tC (.int 6)))) (tSeq (tAsg (tCall sp_law_take [] E0 (tCons (tVar 0) (tCons (tOp rAddI (tVar 5) (tC (.int 1))) tNil))) (gName 8)) (tRet (tTup (tCons (tC (.str "part")) (tCons (tVar 4) (tCons (tVar 8) (tCons (tOp rAddI (tVar 8) (tCall sp_law_take [] E0 (tCons (tVar 0) (tCons (tOp rAddI (tOp rSubI (tVar 5) (tVar 8)) (tC (.int 1))) tNil)))) tNil))))))) tNext) (tRet (tTup (tCons (tC (.str "back")) (tCons (tVar 4) tNil)))))))))))
def s_law_next (φ_law_take : WF) (φ_law_written : WF) (φ_law_number : WF) (ξ : Xi) : WS := (sSeq (sAsg (eCall φ_law_take [some 0, none] xNo (aIo 0 (aCons (eB (bC (.int 7))) aNil))) (gNm 3)) (sSeq (sIf (tB0 (bOr (bTest (bOp (wEqB false) (bVar 3) (bC (.int 0)))) (bNot (bTru (bVar 1))))) (sRet (eTup (aCons (eB (bC (.str "letters"))) (aCons (eCall φ_law_written [some 0] xNo (aIo 0 aNil)) aNil)))) sNext) (sSeq (sAsg (eCall φ_law_number [some 0, none] xNo (aIo 0 (aCons (eB (bCB wLen (bCons (bVar 1) bNil))) aNil))) (gNm 4)) (sSeq (sAsg (eB (bCB wLen (bCons (bOp wIx (bVar 1) (bVar 4)) bNil))) (gNm 5)) (sCut (sIf (tB0 (bTest (bOp wLtI (bVar 3) (bC (.int 3))))) (sSeq (sAsg (eCall φ_law_take [some 0, none] xNo (aIo 0 (aCons (eB (bCB wLen (bCons (bVar 1) bNil))) aNil))) (gNm 6)) (sSeq (sIf (tTst (eOp (wEqB false) (eCall φ_law_take [some 0, none] xNo (aIo 0 (aCons (eB (bC (.int 2))) aNil))) (eB (bC (.int 1))))) (sSeq (sPar 4 6 (aCons (eFrz 6) (aCons (eFrz 4) aNil))) (sAsg (eB (bCB wLen (bCons (bOp wIx (bVar 1) (bVar 4)) bNil))) (gNm 5))) sNext) (sIf (tB0 (bTest (bOp wLeI (bOp wAddI (bCB wLen (bCons (bOp wIx (bVar 1) (bVar 4)) bNil)) (bCB wLen (bCons (bOp wIx (bVar 1) (bVar 6)) bNil))) (bVar 2)))) (sRet (eTup (aCons (eB (bC (.str "join"))) (aCons (eMov 4) (aCons (eMov 6) aNil))))) sNext))) sNext) (sCut (sIf (tB0 (bTest (bOp (wEqB false) (bVar 3) (bC (.int 3))))) (sSeq (sAsg (eCall φ_law_take [some 0, none] xNo (aIo 0 (aCons (eB (bC (.int 6))) aNil))) (gNm 7)) (sSeq (sIf (tB0 (bTest (bOp (wEqB false) (bVar 5) (bC (.int 0))))) (sAsg (eOp wIx (eTup (aCons (eB (bC (.int 0))) (aCons (eB (bC (.int 1))) (aCons (eB (bC (.int 7))) (aCons (eB (bOp wPowI (bC (.int 10)) (bC (.int 12)))) aNil))))) (eCall φ_law_take [some 0, none] xNo (aIo 0 (aCons (eB (bC (.int 4))) aNil)))) (gNm 7)) sNext) (sIf (tB0 (bTest (bOp wLeI (bOp wMulI (bVar 5) (bVar 7)) (bVar 2)))) (sRet (eTup (aCons (eB (bC (.str "power"))) (aCons (eMov 4) (aCons (eMov 7) aNil))))) sNext))) sNext) (sSeq (sIf (tB0 (bTest (bOp wLtI (bVar 3) (bC (.int 6))))) (sSeq (sAsg (eCall φ_law_take [some 0, none] xNo (aIo 0 (aCons (eB (bOp wAddI (bVar 5) (bC (.int 1)))) aNil))) (gNm 8)) (sRet (eTup (aCons (eB (bC (.str "part"))) (aCons (eMov 4) (aCons (eFrz 8) (aCons (eOp wAddI (eFrz 8) (eCall φ_law_take [some 0, none] xNo (aIo 0 (aCons (eB (bOp wAddI (bOp wSubI (bVar 5) (bVar 8)) (bC (.int 1)))) aNil)))) aNil))))))) sNext) (sRet (eTup (aCons (eB (bC (.str "back"))) (aCons (eMov 4) aNil)))))))))))
theorem snd_law_next {K : PySem.W.Frag} (φ_law_take : WF) (φ_law_written : WF) (φ_law_number : WF) (v0 v1 v2 : V) (E : XK) (ξ : Xi) : SS K [some v0, some v1, none] (fun _ => E) ξ (t_law_next K (spOf K 2 φ_law_take) (spOf K 1 φ_law_written) (spOf K 2 φ_law_number)) (s_law_next φ_law_take φ_law_written φ_law_number ξ) := by
  unfold t_law_next s_law_next
  exact (ss_seq (ss_asg (se_call rfl (sk_io (sk_ex (se_b sb_int) sk_nil))) (sg_name (.inr rfl))) (ss_seq (ss_if (st_b (sb_or (sb_test (sb_op sr_eq sb_var sb_int)) (sb_not (sb_tru sb_var)))) (ss_ret (se_tup (sa_cons (se_b sb_str) (sa_cons (se_call rfl (sk_io sk_nil)) sa_nil)))) ss_next) (ss_seq (ss_asg (se_call rfl (sk_io (sk_ex (se_b (sb_cb sr_len (sb_cons sb_var sb_nil))) sk_nil))) (sg_name (.inr rfl))) (ss_seq (ss_asg (se_b (sb_cb sr_len (sb_cons (sb_op sr_ix sb_var sb_var) sb_nil))) (sg_name (.inr rfl))) (ss_cut (ss_if (st_b (sb_test (sb_op sr_ltI sb_var sb_int))) (ss_seq (ss_asg (se_call rfl (sk_io (sk_ex (se_b (sb_cb sr_len (sb_cons sb_var sb_nil))) sk_nil))) (sg_name (.inr rfl))) (ss_seq (ss_if (st_test (se_op sr_eq (se_call rfl (sk_io (sk_ex (se_b sb_int) sk_nil))) (se_b sb_int))) (ss_seq (ss_par (.inr rfl) (.inr rfl) (sa_cons se_frz (sa_cons se_frz sa_nil))) (ss_asg (se_b (sb_cb sr_len (sb_cons (sb_op sr_ix sb_var sb_var) sb_nil))) (sg_name (.inr rfl)))) ss_next) (ss_if (st_b (sb_test (sb_op sr_leI (sb_op sr_addI (sb_cb sr_len (sb_cons (sb_op sr_ix sb_var sb_var) sb_nil)) (sb_cb sr_len (sb_cons (sb_op sr_ix sb_var sb_var) sb_nil))) sb_var))) (ss_ret (se_tup (sa_cons (se_b sb_str) (sa_cons se_mov (sa_cons se_mov sa_nil))))) ss_next))) ss_next) (ss_cut (ss_if (st_b (sb_test (sb_op sr_eq sb_var sb_int))) (ss_seq (ss_asg (se_call rfl (sk_io (sk_ex (se_b sb_int) sk_nil))) (sg_name (.inr rfl))) (ss_seq (ss_if (st_b (sb_test (sb_op sr_eq sb_var sb_int))) (ss_asg (se_op sr_ix (se_tup (sa_cons (se_b sb_int) (sa_cons (se_b sb_int) (sa_cons (se_b sb_int) (sa_cons (se_b (sb_op sr_powI sb_int sb_int)) sa_nil))))) (se_call rfl (sk_io (sk_ex (se_b sb_int) sk_nil)))) (sg_name (.inr rfl))) ss_next) (ss_if (st_b (sb_test (sb_op sr_leI (sb_op sr_mulI sb_var sb_var) sb_var))) (ss_ret (se_tup (sa_cons (se_b sb_str) (sa_cons se_mov (sa_cons se_mov sa_nil))))) ss_next))) ss_next) (ss_seq (ss_if (st_b (sb_test (sb_op sr_ltI sb_var sb_int))) (ss_seq (ss_asg (se_call rfl (sk_io (sk_ex (se_b (sb_op sr_addI sb_var sb_int)) sk_nil))) (sg_name (.inr rfl))) (ss_ret (se_tup (sa_cons (se_b sb_str) (sa_cons se_mov (sa_cons se_frz (sa_cons (se_op sr_addI se_frz (se_call rfl (sk_io (sk_ex (se_b (sb_op sr_addI (sb_op sr_subI sb_var sb_var) sb_int)) sk_nil)))) sa_nil))))))) ss_next) (ss_ret (se_tup (sa_cons (se_b sb_str) (sa_cons se_mov sa_nil)))))))))))
def v_law_next (φ_law_take : WF) (φ_law_written : WF) (φ_law_number : WF) : WF := wf (s_law_next φ_law_take φ_law_written φ_law_number) [true, true, false] 9
theorem w_law_next (φ_law_take : WF) (φ_law_written : WF) (φ_law_number : WF) (x0 x1 x2 : Vl) (P : Vl → Ev → Prop) (PX : Xi) : v_law_next φ_law_take φ_law_written φ_law_number [x0, x1, x2] P PX = s_law_next φ_law_take φ_law_written φ_law_number (fun C fs env => nOut [true, true, false] env (PX C fs)) (VE.mk (fun env => nOut [true, true, false] env (P .non)) (fun x env => nOut [true, true, false] env (P x)) (fun _ => False) (fun _ => False)) [some x0, some x1, some x2, none, none, none, none, none, none] := rfl
theorem pure_law_next {K : PySem.W.Frag} (φ_law_take : WF) (φ_law_written : WF) (φ_law_number : WF) (vs : List V) (H : Hp) (Q : VK) (E : XK) (h : spOf K 3 (v_law_next φ_law_take φ_law_written φ_law_number) vs H Q E) : t_law_next K (spOf K 2 φ_law_take) (spOf K 1 φ_law_written) (spOf K 2 φ_law_number) { nx := fun _ H' => Q .non H', rt := Q } (start N_law_next vs) H :=
  body_ok (N := N_law_next) (pn := [true, true, false]) (t := fun E => t_law_next K (spOf K 2 φ_law_take) (spOf K 1 φ_law_written) (spOf K 2 φ_law_number)) (fun vs hl E ξ => match vs, hl with | [v0, v1, v2], _ => snd_law_next φ_law_take φ_law_written φ_law_number v0 v1 v2 E ξ) h
def N_law_made : List Str := ["_law_texts", "_law_rule"]
theorem st_law_made {v0 v1 : V} : start N_law_made [v0, v1] = [some v0, some v1] := rfl
def t_law_made (K : PySem.W.Frag) : TS := (tSeq (tIfS (tTest (tOp rEq (tOp (rIx K) (tVar 1) (tC (.int 0))) (tC (.str "letters")))) (tRet (tOp (rIx K) (tVar 1) (tC (.int 1)))) tNext) (tSeq (tIfS (tTest (tOp rEq (tOp (rIx K) (tVar 1) (tC (.int 0))) (tC (.str "join")))) (tRet (tOp rAddS (tOp (rIx K) (tVar 0) (tOp (rIx K) (tVar 1) (tC (.int 1)))) (tOp (rIx K) (tVar 0) (tOp (rIx K) (tVar 1) (tC (.int 2)))))) tNext) (tSeq (tIfS (tTest (tOp rEq (tOp (rIx K) (tVar 1) (tC (.int 0))) (tC (.str "power")))) (tSeq (tIfS (tTest (tOp rEq (tOp (rIx K) (tVar 0) (tOp (rIx K) (tVar 1) (tC (.int 1)))) (tC (.str "")))) (tRet (tC (.str ""))) tNext) (tRet (tOp rRepS (tOp (rIx K) (tVar 0) (tOp (rIx K) (tVar 1) (tC (.int 1)))) (tOp (rIx K) (tVar 1) (tC (.int 2)))))) tNext) (tSeq (tIfS (tTest (tOp rEq (tOp (rIx K) (tVar 1) (tC (.int 0))) (tC (.str "part")))) (tRet (tSl rSlS (tOp (rIx K) (tVar 0) (tOp (rIx K) (tVar 1) (tC (.int 1)))) (tPart (tOp (rIx K) (tVar 1) (tC (.int 2)))) (tPart (tOp (rIx K) (tVar 1) (tC (.int 3)))))) tNext) (tRet (tRevS K (tOp (rIx K) (tVar 0) (tOp (rIx K) (tVar 1) (tC (.int 1))))))))))
def s_law_made (ξ : Xi) : WS := (sSeq (sIf (tB0 (bTest (bOp (wEqB false) (bOp wIx (bVar 1) (bC (.int 0))) (bC (.str "letters"))))) (sRet (eB (bOp wIx (bVar 1) (bC (.int 1))))) sNext) (sSeq (sIf (tB0 (bTest (bOp (wEqB false) (bOp wIx (bVar 1) (bC (.int 0))) (bC (.str "join"))))) (sRet (eB (bOp wAddS (bOp wIx (bVar 0) (bOp wIx (bVar 1) (bC (.int 1)))) (bOp wIx (bVar 0) (bOp wIx (bVar 1) (bC (.int 2))))))) sNext) (sSeq (sIf (tB0 (bTest (bOp (wEqB false) (bOp wIx (bVar 1) (bC (.int 0))) (bC (.str "power"))))) (sSeq (sIf (tB0 (bTest (bOp (wEqB false) (bOp wIx (bVar 0) (bOp wIx (bVar 1) (bC (.int 1)))) (bC (.str ""))))) (sRet (eB (bC (.str "")))) sNext) (sRet (eB (bOp wRepS (bOp wIx (bVar 0) (bOp wIx (bVar 1) (bC (.int 1)))) (bOp wIx (bVar 1) (bC (.int 2))))))) sNext) (sSeq (sIf (tB0 (bTest (bOp (wEqB false) (bOp wIx (bVar 1) (bC (.int 0))) (bC (.str "part"))))) (sRet (eB (bSlS (bOp wIx (bVar 0) (bOp wIx (bVar 1) (bC (.int 1)))) (oAt (bOp wIx (bVar 1) (bC (.int 2)))) (oAt (bOp wIx (bVar 1) (bC (.int 3))))))) sNext) (sRet (eB (bRevS (bOp wIx (bVar 0) (bOp wIx (bVar 1) (bC (.int 1)))))))))))
theorem snd_law_made {K : PySem.W.Frag} (v0 v1 : V) (E : XK) (ξ : Xi) : SS K [some v0, none] (fun _ => E) ξ (t_law_made K) (s_law_made ξ) := by
  unfold t_law_made s_law_made
  exact (ss_seq (ss_if (st_b (sb_test (sb_op sr_eq (sb_op sr_ix sb_var sb_int) sb_str))) (ss_ret (se_b (sb_op sr_ix sb_var sb_int))) ss_next) (ss_seq (ss_if (st_b (sb_test (sb_op sr_eq (sb_op sr_ix sb_var sb_int) sb_str))) (ss_ret (se_b (sb_op sr_addS (sb_op sr_ix sb_var (sb_op sr_ix sb_var sb_int)) (sb_op sr_ix sb_var (sb_op sr_ix sb_var sb_int))))) ss_next) (ss_seq (ss_if (st_b (sb_test (sb_op sr_eq (sb_op sr_ix sb_var sb_int) sb_str))) (ss_seq (ss_if (st_b (sb_test (sb_op sr_eq (sb_op sr_ix sb_var (sb_op sr_ix sb_var sb_int)) sb_str))) (ss_ret (se_b sb_str)) ss_next) (ss_ret (se_b (sb_op sr_repS (sb_op sr_ix sb_var (sb_op sr_ix sb_var sb_int)) (sb_op sr_ix sb_var sb_int))))) ss_next) (ss_seq (ss_if (st_b (sb_test (sb_op sr_eq (sb_op sr_ix sb_var sb_int) sb_str))) (ss_ret (se_b (sb_slS (sb_op sr_ix sb_var (sb_op sr_ix sb_var sb_int)) (so_at (sb_op sr_ix sb_var sb_int)) (so_at (sb_op sr_ix sb_var sb_int))))) ss_next) (ss_ret (se_b (sb_revS (sb_op sr_ix sb_var (sb_op sr_ix sb_var sb_int)))))))))
def v_law_made : WF := wf (s_law_made) [true, false] 2
theorem w_law_made (x0 x1 : Vl) (P : Vl → Ev → Prop) (PX : Xi) : v_law_made [x0, x1] P PX = s_law_made (fun C fs env => nOut [true, false] env (PX C fs)) (VE.mk (fun env => nOut [true, false] env (P .non)) (fun x env => nOut [true, false] env (P x)) (fun _ => False) (fun _ => False)) [some x0, some x1] := rfl
theorem pure_law_made {K : PySem.W.Frag} (vs : List V) (H : Hp) (Q : VK) (E : XK) (h : spOf K 2 (v_law_made) vs H Q E) : t_law_made K { nx := fun _ H' => Q .non H', rt := Q } (start N_law_made vs) H :=
  body_ok (N := N_law_made) (pn := [true, false]) (t := fun E => t_law_made K) (fun vs hl E ξ => match vs, hl with | [v0, v1], _ => snd_law_made v0 v1 E ξ) h
def N_law_rules : List Str := ["_law_pool_here", "_law_most", "_law_rules_here", "_law_texts", "_law_k", "_law_rule"]
theorem st_law_rules {v0 v1 : V} : start N_law_rules [v0, v1] = [some v0, some v1, none, none, none, none] := rfl
def t_law_rules (K : PySem.W.Frag) (sp_law_take : Sp) (sp_law_next : Sp) (sp_law_made : Sp) : TS := (tSeq (tAsg (tLst tNil) (gName 2)) (tSeq (tAsg (tLst tNil) (gName 3)) (tSeq (tFor (iRng1 (tCons (tOp rAddI (tC (.int 1)) (tCall sp_law_take [] E0 (tCons (tVar 0) (tCons (tC (.int 20)) tNil)))) tNil)) (gName 4) (tSeq (tAsg (tCall sp_law_next [] E0 (tCons (tVar 0) (tCons (tVar 3) (tCons (tVar 1) tNil)))) (gName 5)) (tSeq (tDrop (tBM K "list" rAppend (tVar 2) (tCons (tVar 5) tNil))) (tDrop (tBM K "list" rAppend (tVar 3) (tCons (tCall sp_law_made [] E0 (tCons (tVar 3) (tCons (tVar 5) tNil))) tNil)))))) (tRet (tTup (tCons (tVar 2) (tCons (tVar 3) tNil)))))))
def s_law_rules (φ_law_take : WF) (φ_law_next : WF) (φ_law_made : WF) (ξ : Xi) : WS := (sSeq (sAsg (eLst aNil) (gNm 2)) (sSeq (sAsg (eLst aNil) (gNm 3)) (sSeq (sFor (iR1 (aCons (eOp wAddI (eB (bC (.int 1))) (eCall φ_law_take [some 0, none] xNo (aIo 0 (aCons (eB (bC (.int 20))) aNil)))) aNil)) (gNm 4) (sSeq (sAsg (eCall φ_law_next [some 0, some 3, none] xNo (aIo 0 (aIo 3 (aCons (eFrz 1) aNil)))) (gNm 5)) (sSeq (sDrop (eMs 2 mApp (aCons (eFrz 5) aNil))) (sDrop (eMs 3 mApp (aCons (eCall φ_law_made [some 3, none] xNo (aIo 3 (aCons (eFrz 5) aNil))) aNil)))))) (sRet (eTup (aCons (eMov 2) (aCons (eMov 3) aNil)))))))
theorem snd_law_rules {K : PySem.W.Frag} (φ_law_take : WF) (φ_law_next : WF) (φ_law_made : WF) (v0 v1 : V) (E : XK) (ξ : Xi) : SS K [some v0, none] (fun _ => E) ξ (t_law_rules K (spOf K 2 φ_law_take) (spOf K 3 φ_law_next) (spOf K 2 φ_law_made)) (s_law_rules φ_law_take φ_law_next φ_law_made ξ) := by
  unfold t_law_rules s_law_rules
  exact (ss_seq (ss_asg (se_lst sa_nil) (sg_name (.inr rfl))) (ss_seq (ss_asg (se_lst sa_nil) (sg_name (.inr rfl))) (ss_seq (ss_for (si_rng1 (sa_cons (se_op sr_addI (se_b sb_int) (se_call rfl (sk_io (sk_ex (se_b sb_int) sk_nil)))) sa_nil)) (sg_name (.inr rfl)) (ss_seq (ss_asg (se_call rfl (sk_io (sk_io (sk_ex se_frz sk_nil)))) (sg_name (.inr rfl))) (ss_seq (ss_drop (se_ms sm_append (sa_cons se_frz sa_nil))) (ss_drop (se_ms sm_append (sa_cons (se_call rfl (sk_io (sk_ex se_frz sk_nil))) sa_nil)))))) (ss_ret (se_tup (sa_cons se_mov (sa_cons se_mov sa_nil)))))))
def v_law_rules (φ_law_take : WF) (φ_law_next : WF) (φ_law_made : WF) : WF := wf (s_law_rules φ_law_take φ_law_next φ_law_made) [true, false] 6
theorem w_law_rules (φ_law_take : WF) (φ_law_next : WF) (φ_law_made : WF) (x0 x1 : Vl) (P : Vl → Ev → Prop) (PX : Xi) : v_law_rules φ_law_take φ_law_next φ_law_made [x0, x1] P PX = s_law_rules φ_law_take φ_law_next φ_law_made (fun C fs env => nOut [true, false] env (PX C fs)) (VE.mk (fun env => nOut [true, false] env (P .non)) (fun x env => nOut [true, false] env (P x)) (fun _ => False) (fun _ => False)) [some x0, some x1, none, none, none, none] := rfl
theorem pure_law_rules {K : PySem.W.Frag} (φ_law_take : WF) (φ_law_next : WF) (φ_law_made : WF) (vs : List V) (H : Hp) (Q : VK) (E : XK) (h : spOf K 2 (v_law_rules φ_law_take φ_law_next φ_law_made) vs H Q E) : t_law_rules K (spOf K 2 φ_law_take) (spOf K 3 φ_law_next) (spOf K 2 φ_law_made) { nx := fun _ H' => Q .non H', rt := Q } (start N_law_rules vs) H :=
  body_ok (N := N_law_rules) (pn := [true, false]) (t := fun E => t_law_rules K (spOf K 2 φ_law_take) (spOf K 3 φ_law_next) (spOf K 2 φ_law_made)) (fun vs hl E ξ => match vs, hl with | [v0, v1], _ => snd_law_rules φ_law_take φ_law_next φ_law_made v0 v1 E ξ) h
def N_law_near : List Str := ["_law_pool_here", "_law_low", "_law_high"]
theorem st_law_near {v0 v1 v2 : V} : start N_law_near [v0, v1, v2] = [some v0, some v1, some v2] := rfl
def t_law_near (K : PySem.W.Frag) (sp_law_take : Sp) : TS := (tSeq (tIfS (tTest (tOp rEq (tCall sp_law_take [] E0 (tCons (tVar 0) (tCons (tC (.int 7)) tNil))) (tC (.int 1)))) (tRet (tOp (rIx K) (tTup (tCons (tOp rSubI (tVar 1) (tC (.int 1))) (tCons (tOp rAddI (tVar 2) (tC (.int 1))) (tCons (tOp rSubI (tVar 1) (tC (.int 3))) (tCons (tOp rAddI (tVar 2) (tC (.int 9))) tNil))))) (tCall sp_law_take [] E0 (tCons (tVar 0) (tCons (tC (.int 4)) tNil))))) tNext) (tRet (tOp rAddI (tVar 1) (tCall sp_law_take [] E0 (tCons (tVar 0) (tCons (tOp rAddI (tOp rSubI (tVar 2) (tVar 1)) (tC (.int 1))) tNil))))))
def s_law_near (φ_law_take : WF) (ξ : Xi) : WS := (sSeq (sIf (tTst (eOp (wEqB false) (eCall φ_law_take [some 0, none] xNo (aIo 0 (aCons (eB (bC (.int 7))) aNil))) (eB (bC (.int 1))))) (sRet (eOp wIx (eTup (aCons (eB (bOp wSubI (bVar 1) (bC (.int 1)))) (aCons (eB (bOp wAddI (bVar 2) (bC (.int 1)))) (aCons (eB (bOp wSubI (bVar 1) (bC (.int 3)))) (aCons (eB (bOp wAddI (bVar 2) (bC (.int 9)))) aNil))))) (eCall φ_law_take [some 0, none] xNo (aIo 0 (aCons (eB (bC (.int 4))) aNil))))) sNext) (sRet (eOp wAddI (eFrz 1) (eCall φ_law_take [some 0, none] xNo (aIo 0 (aCons (eB (bOp wAddI (bOp wSubI (bVar 2) (bVar 1)) (bC (.int 1)))) aNil))))))
theorem snd_law_near {K : PySem.W.Frag} (φ_law_take : WF) (v0 v1 v2 : V) (E : XK) (ξ : Xi) : SS K [some v0, none, none] (fun _ => E) ξ (t_law_near K (spOf K 2 φ_law_take)) (s_law_near φ_law_take ξ) := by
  unfold t_law_near s_law_near
  exact (ss_seq (ss_if (st_test (se_op sr_eq (se_call rfl (sk_io (sk_ex (se_b sb_int) sk_nil))) (se_b sb_int))) (ss_ret (se_op sr_ix (se_tup (sa_cons (se_b (sb_op sr_subI sb_var sb_int)) (sa_cons (se_b (sb_op sr_addI sb_var sb_int)) (sa_cons (se_b (sb_op sr_subI sb_var sb_int)) (sa_cons (se_b (sb_op sr_addI sb_var sb_int)) sa_nil))))) (se_call rfl (sk_io (sk_ex (se_b sb_int) sk_nil))))) ss_next) (ss_ret (se_op sr_addI se_frz (se_call rfl (sk_io (sk_ex (se_b (sb_op sr_addI (sb_op sr_subI sb_var sb_var) sb_int)) sk_nil))))))
def v_law_near (φ_law_take : WF) : WF := wf (s_law_near φ_law_take) [true, false, false] 3
theorem w_law_near (φ_law_take : WF) (x0 x1 x2 : Vl) (P : Vl → Ev → Prop) (PX : Xi) : v_law_near φ_law_take [x0, x1, x2] P PX = s_law_near φ_law_take (fun C fs env => nOut [true, false, false] env (PX C fs)) (VE.mk (fun env => nOut [true, false, false] env (P .non)) (fun x env => nOut [true, false, false] env (P x)) (fun _ => False) (fun _ => False)) [some x0, some x1, some x2] := rfl
theorem pure_law_near {K : PySem.W.Frag} (φ_law_take : WF) (vs : List V) (H : Hp) (Q : VK) (E : XK) (h : spOf K 3 (v_law_near φ_law_take) vs H Q E) : t_law_near K (spOf K 2 φ_law_take) { nx := fun _ H' => Q .non H', rt := Q } (start N_law_near vs) H :=
  body_ok (N := N_law_near) (pn := [true, false, false]) (t := fun E => t_law_near K (spOf K 2 φ_law_take)) (fun vs hl E ξ => match vs, hl with | [v0, v1, v2], _ => snd_law_near φ_law_take v0 v1 v2 E ξ) h
/-! ### the pool, over trees -/
def plV (ks : List Int) (i b m : Int) : Vl := .lst true [.lst true (ks.map Vl.int), .int i, .int b, .int m]
class PoolV (x : Vl) : Prop where
  h : ∃ (ks : List Int) (i b m : Int), x = plV ks i b m ∧ ks.length ≤ 63 ∧ (∀ k ∈ ks, 0 ≤ k) ∧ 0 ≤ i ∧ 0 ≤ b ∧ 0 ≤ m ∧ m < 2147483647
def noF : WF := fun _ _ _ => False
abbrev V_take0 : WF := v_law_take noF
abbrev V_take : WF := v_law_take V_take0
theorem pool_ok {ns : List Int} {P : Vl → Ev → Prop} {PX : Xi} (h : ns.length ≤ 63) (k : ∀ x, PoolV x → P x [none]) : v_law_pool [.scr ns] P PX := by
  rw [w_law_pool]
  unfold s_law_pool
  walk_at "vv"
  refine ⟨by omega, fun i acc env => env = [some (.scr ns), none] ∧ ∃ ks : List Int, acc = ks.map Vl.int ∧ ks.length = i ∧ ∀ k ∈ ks, 0 ≤ k, ⟨rfl, [], rfl, rfl, by simp⟩, ?_, ?_⟩
  · rintro i x acc env1 hi ⟨z, hx, rfl⟩ hl ⟨rfl, ks, rfl, hk, hp⟩
    walk_at "vv"
    refine ifP (fun h => ?_) (fun h => ?_) <;> walk_at "vv"
    · refine ⟨rfl, ks ++ [2 * z], by simp, by simp [hk], fun k hm => ?_⟩
      rcases List.mem_append.mp hm with hm | hm
      · exact hp k hm
      · rw [List.mem_singleton.mp hm]; omega
    · refine ⟨rfl, ks ++ [-2 * z - 1], by simp, by simp [hk], fun k hm => ?_⟩
      rcases List.mem_append.mp hm with hm | hm
      · exact hp k hm
      · rw [List.mem_singleton.mp hm]; omega
  · rintro acc env1 hl ⟨rfl, ks, rfl, hk, hp⟩
    show aCons _ _ [_, _] _
    walk_at "vv"
    exact k _ ⟨ks, 0, 0, 17, rfl, by omega, hp, by decide, by decide, by decide, by decide⟩
theorem take0_ok {φ : WF} {ks : List Int} {i b m n : Int} {P : Vl → Ev → Prop} {PX : Xi} (hb : 0 < b) (hn : 0 < n) (hn2 : n < 18446744073709551616)
    (k : ∀ r b', 0 ≤ r → r < n → 0 ≤ b' → P (.int r) [some (plV ks i b' m), none]) : v_law_take φ [plV ks i b m, .int n] P PX := by
  rw [w_law_take]
  unfold s_law_take plV
  walk_at "vv"
  refine ifPT hb ?_
  walk_at "vv"
  exact k _ _ (Int.emod_nonneg _ (by omega)) (Int.emod_lt_of_pos _ hn) (Int.ediv_nonneg (by omega) (by omega))
theorem take_ok {x : Vl} [hP : PoolV x] {n : Int} {P : Vl → Ev → Prop} {PX : Xi} (hn : 0 < n) (hn2 : n < 18446744073709551616)
    (k : ∀ r x', 0 ≤ r → r < n → PoolV x' → P (.int r) [some x', none]) : V_take [x, .int n] P PX := by
  obtain ⟨ks, i, b, z, rfl, hl, hp, hi, hb, hz0, hz1⟩ := hP.h
  by_cases hb0 : 0 < b
  · exact take0_ok hb0 hn hn2 fun r b' h1 h2 h3 => k r _ h1 h2 ⟨ks, i, b', z, rfl, hl, hp, hi, h3, hz0, hz1⟩
  · have hb1 : b = 0 := by omega
    subst hb1
    unfold V_take
    rw [w_law_take]
    unfold s_law_take plV
    walk_at "vv"
    refine ifPF (by omega) ?_
    walk_at "vv"
    refine ⟨fun env => ∃ z1 : Int, 0 ≤ z1 ∧ env = [some (plV ks i 0 z), some (.int n), none, some (.int z1), none], ?_, ?_⟩
    · unfold plV
      walk_at "vv"
      rw [List.length_map]
      refine ifP (fun h => ?_) (fun h => ?_)
      · walk_at "vv"
        have h2 : i.toNat < ks.length := by omega
        refine v_ixL (z := .int ks[i.toNat]) ?_ ?_
        · have e : i = ((i.toNat : Nat) : Int) := by omega
          generalize i.toNat = j at *
          subst e
          exact atI_nat (by rw [List.getElem?_map, List.getElem?_eq_getElem h2]; rfl)
        · walk_at "vv"
          exact ⟨_, hp _ (List.getElem_mem h2), rfl⟩
      · walk_at "vv"
        exact ⟨0, by decide, rfl⟩
    rintro env ⟨z1, hz1', rfl⟩
    unfold plV
    walk_at "vv"
    refine ifP (fun h => ?_) (fun h => ?_)
    · walk_at "vv"
      exact take0_ok (by omega) hn hn2 fun r b' h1 h2 h3 => by
        walk_at "vv"
        exact k r _ h1 h2 ⟨ks, i + 1, b', z, rfl, hl, hp, by omega, h3, hz0, hz1⟩
    · walk_at "vv"
      refine k _ _ (Int.emod_nonneg _ (by omega)) (Int.emod_lt_of_pos _ hn) ⟨ks, i + 1, 0, _, rfl, hl, hp, by omega, by omega, Int.emod_nonneg _ (by omega), Int.emod_lt_of_pos _ (by omega)⟩

/-! ### drawn rules, over trees -/
abbrev V_written : WF := v_law_written V_take
abbrev V_number : WF := v_law_number V_take
abbrev V_next : WF := v_law_next V_take V_written V_number
abbrev V_made : WF := v_law_made
abbrev V_rules : WF := v_law_rules V_take V_next V_made
def txL (t : Tx) : Vl := .str (S t)
def ruL : Ru → Vl
  | .wri w => .tup [.str "letters", .str (S w)]
  | .join i j => .tup [.str "join", .int (i : Int), .int (j : Int)]
  | .power i t => .tup [.str "power", .int (i : Int), .int (t : Int)]
  | .part i a b => .tup [.str "part", .int (i : Int), .int (a : Int), .int (b : Int)]
  | .back i => .tup [.str "back", .int (i : Int)]
instance {r : Ru} : Fzc (ruL r) := ⟨by cases r <;> rfl⟩
instance {t : Tx} : Fzc (txL t) := ⟨rfl⟩
instance {ts : List Tx} : FzAc (ts.map txL) := ⟨fzA_map fun _ => rfl⟩
instance {rs : List Ru} : FzAc (rs.map ruL) := ⟨fzA_map fun r => by cases r <;> rfl⟩
theorem txL_get {ts : List Tx} {i : Nat} (h : i < ts.length) : atI (ts.map txL) (i : Int) = some (.str (S (gt ts i))) := atI_nat (by rw [List.getElem?_map, at_gt h]; rfl)
theorem flat1 : ∀ w : Tx, (w.map fun c => [c]).flatten = w
  | [] => rfl
  | a :: w => by rw [List.map_cons, List.flatten_cons, flat1 w]; rfl
theorem written_ok {x : Vl} [hP : PoolV x] {P : Vl → Ev → Prop} {PX : Xi} (k : ∀ (w : Tx) x', w.length ≤ 64 → (∀ c ∈ w, c ∈ signs) → PoolV x' → P (.str (S w)) [some x']) : V_written [x] P PX := by
  unfold V_written
  rw [w_law_written]
  unfold s_law_written
  rw [signs_eq]
  walk_at "vv"
  refine take_ok (by decide) (by decide) fun kind x1 h0 h1 hP1 => ?_
  walk_at "vv"
  refine take_ok (by decide) (by decide) fun mn x2 h2 h3 hP2 => ?_
  walk_at "vv"
  refine ⟨fun env => ∃ (many : Int) (x' : Vl), env = [some x', some (.str (S signs)), some (.int kind), some (.int many), none, none] ∧ 0 ≤ many ∧ many ≤ 64 ∧ PoolV x', ?_, ?_⟩
  · walk_at "vv"
    refine ifP (fun c => ?_) (fun c => ?_)
    · walk_at "vv"
      refine take_ok (by decide) (by decide) fun mn2 x3 h4 h5 hP3 => ?_
      walk_at "vv"
      exact ⟨_, _, rfl, h4, by omega, hP3⟩
    · walk_at "vv"
      exact ⟨_, _, rfl, h2, by omega, hP2⟩
  rintro env ⟨many, x1, rfl, h0, h1, hP1⟩
  walk_at "vv"
  refine ⟨fun i env => ∃ (w : Tx) (x' : Vl) (o : Option Vl), env = [some x', some (.str (S signs)), some (.int kind), some (.int many), some (.lst true (strsOf (w.map fun c => [c]))), o] ∧ w.length = i ∧ (∀ c ∈ w, c ∈ signs) ∧ PoolV x', ⟨[], x1, none, rfl, rfl, by simp, hP1⟩, ?_, ?_⟩
  · rintro i y env hi rfl ⟨w, x', o, rfl, hw, hs, hP'⟩
    have step : ∀ (c : Nat) x2, c ∈ signs → PoolV x2 → ∃ (w' : Tx) (x'' : Vl) (o' : Option Vl), [some x2, some (Vl.str (S signs)), some (.int kind), some (.int many), some (.lst true (strsOf (w.map fun c => [c]) ++ [.str (S [c])])), some (.int (0 + (i : Int)))] = [some x'', some (Vl.str (S signs)), some (.int kind), some (.int many), some (.lst true (strsOf (w'.map fun c => [c]))), o'] ∧ w'.length = i + 1 ∧ (∀ c ∈ w', c ∈ signs) ∧ PoolV x'' :=
      fun c x2 hc h2 => ⟨w ++ [c], x2, some (.int (0 + (i : Int))), by simp [strsOf], by simp [hw], fun d hd => by
        rcases List.mem_append.mp hd with hd | hd
        · exact hs d hd
        · rw [List.mem_singleton.mp hd]; exact hc, h2⟩
    walk_at "vv"
    refine ifP (fun c => ?_) (fun c => ?_)
    · walk_at "vv"
      refine take_ok (by decide) (by decide) fun r x2 r0 r1 hP2 => ?_
      walk_at "vv"
      obtain ⟨n, rfl⟩ : ∃ n : Nat, r = (n : Int) := ⟨r.toNat, by omega⟩
      have hn : n < signs.length := by show n < 94; omega
      refine v_ixS (by decide) (m := signs[n]) (atI_nat (List.getElem?_eq_getElem hn)) ?_
      walk_at "vv"
      refine v_app (by simp [strsOf]; omega) ?_
      exact step _ _ (List.getElem_mem hn) hP2
    · walk_at "vv"
      refine take_ok (by decide) (by decide) fun r x2 r0 r1 hP2 => ?_
      walk_at "vv"
      rw [show ("ab" : Str) = S [97, 98] by decide +kernel]
      obtain rfl | rfl : r = 0 ∨ r = 1 := by omega
      · refine v_ixS (by decide) (m := 97) rfl ?_
        walk_at "vv"
        refine v_app (by simp [strsOf]; omega) ?_
        exact step _ _ (by decide) hP2
      · refine v_ixS (by decide) (m := 98) rfl ?_
        walk_at "vv"
        refine v_app (by simp [strsOf]; omega) ?_
        exact step _ _ (by decide) hP2
  · rintro env ⟨w, x', o, rfl, hw, hs, hP'⟩
    have e := flat1 w
    walk_at "vv"
    refine v_join rfl (by rw [e]; omega) ?_
    rw [e]
    walk_at "vv"
    exact k w x' (by omega) hs hP'
theorem number_ok {x : Vl} [hP : PoolV x] {n : Nat} {P : Vl → Ev → Prop} {PX : Xi} (h0 : 0 < n) (h1 : n < 1000000000) (k : ∀ (r : Nat) x', r < n → PoolV x' → P (.int (r : Int)) [some x', none]) : V_number [x, .int (n : Int)] P PX := by
  unfold V_number
  rw [w_law_number]
  unfold s_law_number
  walk_at "vv"
  refine take_ok (by decide) (by decide) fun r x1 r0 r1 hP1 => ?_
  walk_at "vv"
  refine ifP (fun c => ?_) (fun c => ?_)
  · walk_at "vv"
    rw [show (n : Int) - 1 = ((n - 1 : Nat) : Int) by omega]
    exact k _ _ (by omega) hP1
  · walk_at "vv"
    refine take_ok (by omega) (by omega) fun r x2 r0 r1 hP2 => ?_
    walk_at "vv"
    obtain ⟨m, rfl⟩ : ∃ m : Nat, r = (m : Int) := ⟨r.toNat, by omega⟩
    exact k m _ (by omega) hP2

theorem txs_emp {ts : List Tx} : (ts.map txL).isEmpty = ts.isEmpty := by cases ts <;> rfl
theorem next_okM {x : Vl} [hP : PoolV x] {ts : List Tx} {most m : Nat} {P : Vl → Ev → Prop} {PX : Xi} (hl0 : ts.length ≤ 1000) (hm0 : 64 ≤ m) (hmm : most ≤ m) (hm1 : m ≤ 100000) (hle : ∀ i, (gt ts i).length ≤ m)
    (k : ∀ (r : Ru) x', PoolV x' → RuK ts.length ts r → (ruT ts r).length ≤ m → P (ruL r) [some x', some (.lst true (ts.map txL)), none]) : V_next [x, .lst true (ts.map txL), .int (most : Int)] P PX := by
  unfold V_next
  rw [w_law_next]
  unfold s_law_next
  walk_at "vv"
  refine take_ok (by decide) (by decide) fun kd x1 h0 h1 hP1 => ?_
  walk_at "vv"
  refine ifP (fun c => ?_) (fun c => ?_)
  · walk_at "vv"
    refine written_ok fun w x3 hw hs hP3 => ?_
    walk_at "vv"
    exact k (.wri w) x3 hP3 ⟨hw, hs⟩ (by show w.length ≤ m; omega)
  walk_at "vv"
  rw [txs_emp]
  cases hts : ts.isEmpty with
  | true =>
    walk_at "vv"
    refine written_ok fun w x3 hw hs hP3 => ?_
    walk_at "vv"
    exact k (.wri w) x3 hP3 ⟨hw, hs⟩ (by show w.length ≤ m; omega)
  | false =>
  have hne : 0 < ts.length := by
    cases ts with
    | nil => cases hts
    | cons a b => simp
  walk_at "vv"
  rw [List.length_map]
  refine number_ok hne (by omega) fun f x2 hf hP2 => ?_
  walk_at "vv"
  have hlf := hle f
  refine v_ixL (txL_get hf) ?_
  walk_at "vv"
  refine v_lenS (by omega) ?_
  walk_at "vv"
  refine ⟨fun env => ∃ (x' : Vl) (f : Nat) (o6 : Option Vl), env = [some x', some (.lst true (ts.map txL)), some (.int (most : Int)), some (.int kd), some (.int (f : Int)), some (.int ((gt ts f).length : Int)), o6, none, none] ∧ f < ts.length ∧ PoolV x', ?_, ?_⟩
  · walk_at "vv"
    refine ifP (fun c3 => ?_) (fun c3 => ?_)
    · walk_at "vv"
      rw [List.length_map]
      refine take_ok (by omega) (by omega) fun se x3 s0 s1 hP3 => ?_
      obtain ⟨se, rfl⟩ : ∃ z : Nat, se = (z : Int) := ⟨se.toNat, by omega⟩
      have hse : se < ts.length := by omega
      have hls := hle se
      walk_at "vv"
      refine take_ok (by decide) (by decide) fun sw x4 w0 w1 hP4 => ?_
      walk_at "vv"
      refine ifP (fun c4 => ?_) (fun c4 => ?_)
      · walk_at "vv"
        refine v_ixL (txL_get hse) ?_
        walk_at "vv"
        refine v_lenS (by omega) ?_
        walk_at "vv"
        refine v_ixL (txL_get hse) ?_
        walk_at "vv"
        refine v_lenS (by omega) ?_
        walk_at "vv"
        refine v_ixL (txL_get hf) ?_
        walk_at "vv"
        refine v_lenS (by omega) ?_
        walk_at "vv"
        refine ifP (fun c5 => ?_) (fun c5 => ?_)
        · walk_at "vv"
          exact k (.join se f) x4 hP4 ⟨hse, hf⟩ (by show (gt ts se ++ gt ts f).length ≤ m; rw [List.length_append]; omega)
        · walk_at "vv"
          exact ⟨x4, se, _, rfl, hse, hP4⟩
      · walk_at "vv"
        refine v_ixL (txL_get hf) ?_
        walk_at "vv"
        refine v_lenS (by omega) ?_
        walk_at "vv"
        refine v_ixL (txL_get hse) ?_
        walk_at "vv"
        refine v_lenS (by omega) ?_
        walk_at "vv"
        refine ifP (fun c5 => ?_) (fun c5 => ?_)
        · walk_at "vv"
          exact k (.join f se) x4 hP4 ⟨hf, hse⟩ (by show (gt ts f ++ gt ts se).length ≤ m; rw [List.length_append]; omega)
        · walk_at "vv"
          exact ⟨x4, f, _, rfl, hf, hP4⟩
    · walk_at "vv"
      exact ⟨x2, f, none, rfl, hf, hP2⟩
  rintro env ⟨x3, f, o6, rfl, hf, hP3⟩
  have hlf := hle f
  refine ⟨fun env => ∃ (x' : Vl) (o7 : Option Vl), env = [some x', some (.lst true (ts.map txL)), some (.int (most : Int)), some (.int kd), some (.int (f : Int)), some (.int ((gt ts f).length : Int)), o6, o7, none] ∧ PoolV x', ?_, ?_⟩
  · walk_at "vv"
    refine ifP (fun c => ?_) (fun c => ?_)
    · walk_at "vv"
      refine take_ok (by decide) (by decide) fun tm x4 t0 t1 hP4 => ?_
      walk_at "vv"
      have pw : ∀ (n : Nat) x5, n ≤ 1000000000000 → PoolV x5 → ((gt ts f).length : Int) * (n : Int) ≤ (most : Int) → P (ruL (.power f n)) [some x5, some (.lst true (ts.map txL)), none] := fun n x5 hn h5 hle5 => by
        refine k _ _ h5 ⟨hf, hn⟩ ?_
        show ((List.replicate n (gt ts f)).flatten).length ≤ m
        rw [rep_len, Nat.mul_comm]
        exact Nat.le_trans (Int.ofNat_le.mp (by rw [Int.natCast_mul]; exact hle5)) hmm
      refine ifP (fun c4 => ?_) (fun c4 => ?_)
      · walk_at "vv"
        refine take_ok (by decide) (by decide) fun ch x6 h0 h1 hP6 => ?_
        obtain rfl | rfl | rfl | rfl : ch = 0 ∨ ch = 1 ∨ ch = 2 ∨ ch = 3 := by omega
        · walk_at "vv"
          refine ifP (fun c5 => ?_) (fun c5 => ?_) <;> walk_at "vv"
          · exact pw 0 _ (by omega) hP6 c5
          · exact ⟨x6, _, rfl, hP6⟩
        · walk_at "vv"
          refine ifP (fun c5 => ?_) (fun c5 => ?_) <;> walk_at "vv"
          · exact pw 1 _ (by omega) hP6 c5
          · exact ⟨x6, _, rfl, hP6⟩
        · walk_at "vv"
          refine ifP (fun c5 => ?_) (fun c5 => ?_) <;> walk_at "vv"
          · exact pw 7 _ (by omega) hP6 c5
          · exact ⟨x6, _, rfl, hP6⟩
        · walk_at "vv"
          refine ifP (fun c5 => ?_) (fun c5 => ?_) <;> walk_at "vv"
          · exact pw 1000000000000 _ (by omega) hP6 c5
          · exact ⟨x6, _, rfl, hP6⟩
      · obtain ⟨n, rfl⟩ : ∃ z : Nat, tm = (z : Int) := ⟨tm.toNat, by omega⟩
        walk_at "vv"
        refine ifP (fun c5 => ?_) (fun c5 => ?_) <;> walk_at "vv"
        · exact pw n _ (by omega) hP4 c5
        · exact ⟨x4, _, rfl, hP4⟩
    · walk_at "vv"
      exact ⟨x3, none, rfl, hP3⟩
  rintro env ⟨x4, o7, rfl, hP4⟩
  walk_at "vv"
  refine ifP (fun c => ?_) (fun c => ?_)
  · walk_at "vv"
    refine take_ok (by omega) (by omega) fun st x5 s0 s1 hP5 => ?_
    obtain ⟨st, rfl⟩ : ∃ z : Nat, st = (z : Int) := ⟨st.toNat, by omega⟩
    walk_at "vv"
    refine take_ok (n := ((gt ts f).length : Int) - (st : Int) + 1) (by omega) (by omega) fun sp x6 p0 p1 hP6 => ?_
    obtain ⟨sp, rfl⟩ : ∃ z : Nat, sp = (z : Int) := ⟨sp.toNat, by omega⟩
    walk_at "vv"
    rw [show (st : Int) + (sp : Int) = ((st + sp : Nat) : Int) by omega]
    refine k (.part f st (st + sp)) x6 hP6 ⟨hf, by omega, by omega⟩ ?_
    show (((gt ts f).take (st + sp)).drop st).length ≤ m
    rw [cut_len (by omega)]; omega
  · walk_at "vv"
    exact k (.back f) x4 hP4 hf (by show (gt ts f).reverse.length ≤ m; rw [List.length_reverse]; omega)

theorem words_eq {a b : Str} {c : Bool} (h : decide (a = b) = c) : decide (a = b) = c := h
theorem next_ok {x : Vl} [hP : PoolV x] {ts : List Tx} {most : Nat} {P : Vl → Ev → Prop} {PX : Xi} (hl0 : ts.length ≤ 1000) (hm0 : 64 ≤ most) (hm1 : most ≤ 100000) (hle : ∀ i, (gt ts i).length ≤ most)
    (k : ∀ (r : Ru) x', PoolV x' → RuK ts.length ts r → (ruT ts r).length ≤ most → P (ruL r) [some x', some (.lst true (ts.map txL)), none]) : V_next [x, .lst true (ts.map txL), .int (most : Int)] P PX := next_okM hl0 hm0 (Nat.le_refl _) hm1 hle k
theorem made_ok {r : Ru} {ts : List Tx} {most : Nat} {P : Vl → Ev → Prop} {PX : Xi} (hm : most ≤ 100000) (hle : ∀ i, (gt ts i).length ≤ most) (hr : RuK ts.length ts r) (hl : (ruT ts r).length ≤ most)
    (k : P (.str (S (ruT ts r))) [some (.lst true (ts.map txL)), none]) : V_made [.lst true (ts.map txL), ruL r] P PX := by
  unfold V_made
  rw [w_law_made]
  unfold s_law_made
  cases r with
  | wri w =>
    unfold ruL
    walk_at "vv"
    rw [show decide (("letters" : Str) = "letters") = true by decide +kernel]
    walk_at "vv"
    exact k
  | join i j =>
    obtain ⟨hi, hj⟩ := hr
    have h1 := hle i
    have h2 := hle j
    unfold ruL
    walk_at "vv"
    rw [show decide (("join" : Str) = "letters") = false by decide +kernel]
    walk_at "vv"
    rw [show decide (("join" : Str) = "join") = true by decide +kernel]
    walk_at "vv"
    refine v_ixL (txL_get hi) ?_
    walk_at "vv"
    refine v_ixL (txL_get hj) ?_
    refine v_addS (by omega) ?_
    walk_at "vv"
    exact k
  | power i t =>
    obtain ⟨hi, ht⟩ := hr
    have h1 := hle i
    have hl' : t * (gt ts i).length ≤ most := by rw [← rep_len]; exact hl
    unfold ruL
    walk_at "vv"
    rw [show decide (("power" : Str) = "letters") = false by decide +kernel]
    walk_at "vv"
    rw [show decide (("power" : Str) = "join") = false by decide +kernel]
    walk_at "vv"
    rw [show decide (("power" : Str) = "power") = true by decide +kernel]
    walk_at "vv"
    refine v_ixL (txL_get hi) ?_
    walk_at "vv"
    rw [empty_eq]
    refine ifP (fun c => ?_) (fun c => ?_)
    · walk_at "vv"
      have e : ruT ts (.power i t) = [] := by
        have e1 : gt ts i = [] := by
          have := congrArg Str.length c
          rw [SX.S_len, SX.S_len] at this
          exact List.length_eq_zero_iff.mp this
        show (List.replicate t (gt ts i)).flatten = []
        rw [e1]
        exact List.flatten_eq_nil_iff.mpr fun l hl => (List.mem_replicate.mp hl).2
      rw [e] at k
      exact k
    · walk_at "vv"
      refine v_ixL (txL_get hi) ?_
      walk_at "vv"
      have hp : 0 < (gt ts i).length := by
        rcases Nat.eq_zero_or_pos (gt ts i).length with z | z
        · exact absurd (by rw [List.length_eq_zero_iff.mp z]) c
        · exact z
      have : t ≤ most := Nat.le_trans (Nat.le_mul_of_pos_right t hp) hl'
      refine v_repS (by omega) (by omega) ?_ ?_
      · rw [Int.toNat_natCast, Nat.mul_comm]; omega
      · rw [Int.toNat_natCast]
        walk_at "vv"
        exact k
  | part i a b =>
    obtain ⟨hi, hab, hb⟩ := hr
    have h1 := hle i
    unfold ruL
    walk_at "vv"
    rw [show decide (("part" : Str) = "letters") = false by decide +kernel]
    walk_at "vv"
    rw [show decide (("part" : Str) = "join") = false by decide +kernel]
    walk_at "vv"
    rw [show decide (("part" : Str) = "power") = false by decide +kernel]
    walk_at "vv"
    rw [show decide (("part" : Str) = "part") = true by decide +kernel]
    walk_at "vv"
    refine v_ixL (txL_get hi) ?_
    walk_at "vv"
    refine v_cutS (by omega) cutS_nat ?_
    walk_at "vv"
    exact k
  | back i =>
    have hi : i < ts.length := hr
    have h1 := hle i
    unfold ruL
    walk_at "vv"
    rw [show decide (("back" : Str) = "letters") = false by decide +kernel]
    walk_at "vv"
    rw [show decide (("back" : Str) = "join") = false by decide +kernel]
    walk_at "vv"
    rw [show decide (("back" : Str) = "power") = false by decide +kernel]
    walk_at "vv"
    rw [show decide (("back" : Str) = "part") = false by decide +kernel]
    walk_at "vv"
    refine v_ixL (txL_get hi) ?_
    walk_at "vv"
    refine v_revS (by omega) ?_
    walk_at "vv"
    exact k
theorem gt_snoc_le {ts : List Tx} {x : Tx} {n : Nat} (h : ∀ i, (gt ts i).length ≤ n) (hx : x.length ≤ n) (i : Nat) : (gt (ts ++ [x]) i).length ≤ n := by
  by_cases hi : i < ts.length
  · rw [gt_app hi]; exact h i
  · by_cases he : i = ts.length
    · rw [gt_at (t := x) (by rw [he, List.getElem?_append_right (by omega), Nat.sub_self]; rfl)]; exact hx
    · unfold gt
      rw [List.getD_eq_getElem?_getD, List.getElem?_eq_none (by rw [List.length_append]; simp; omega)]
      simp
/-- rules and their texts, all at most so long -/
structure TabL (rs : List Ru) (ts : List Tx) (most : Nat) : Prop where
  tab : Tab rs ts
  le : ∀ i, (gt ts i).length ≤ most
theorem TabL.nil {m : Nat} : TabL [] [] m := ⟨Tab.nil, fun i => by simp [gt]⟩
theorem TabL.snoc {rs : List Ru} {ts : List Tx} {r : Ru} {m : Nat} (h : TabL rs ts m) (hm : m ≤ 100000) (hk : RuK ts.length ts r) (hl : (ruT ts r).length ≤ m) : TabL (rs ++ [r]) (ts ++ [ruT ts r]) m :=
  ⟨h.tab.snoc (by rw [← h.tab.ln]; exact hk) (by omega), gt_snoc_le h.le hl⟩
theorem rules_okM {x : Vl} [hP : PoolV x] {most m : Nat} {P : Vl → Ev → Prop} {PX : Xi} (hm0 : 64 ≤ m) (hmm : most ≤ m) (hm1 : m ≤ 100000)
    (k : ∀ (rs : List Ru) (ts : List Tx) x', PoolV x' → TabL rs ts m → 1 ≤ rs.length → rs.length ≤ 20 → P (.tup [.lst true (rs.map ruL), .lst true (ts.map txL)]) [some x', none]) : V_rules [x, .int (most : Int)] P PX := by
  unfold V_rules
  rw [w_law_rules]
  unfold s_law_rules
  walk_at "vv"
  refine take_ok (by decide) (by decide) fun n x1 n0 n1 hP1 => ?_
  walk_at "vv"
  refine ⟨fun i env => ∃ (rs : List Ru) (ts : List Tx) (x' : Vl) (o4 o5 : Option Vl), env = [some x', some (.int (most : Int)), some (.lst true (rs.map ruL)), some (.lst true (ts.map txL)), o4, o5] ∧ TabL rs ts m ∧ rs.length = i ∧ PoolV x', ⟨[], [], x1, none, none, rfl, .nil, rfl, hP1⟩, ?_, ?_⟩
  · rintro i y env hi rfl ⟨rs, ts, x', o4, o5, rfl, hT, hri, hP'⟩
    have hln := hT.tab.ln
    walk_at "vv"
    refine next_okM (by omega) hm0 hmm hm1 hT.le fun r x2 hP2 hk hle => ?_
    walk_at "vv"
    refine v_app (by simp; omega) ?_
    walk_at "vv"
    refine made_ok hm1 hT.le hk hle ?_
    walk_at "vv"
    refine v_app (by simp; omega) ?_
    walk_at "vv"
    exact ⟨rs ++ [r], ts ++ [ruT ts r], x2, _, _, by simp only [List.map_append, List.map_cons, List.map_nil]; rfl, hT.snoc hm1 hk hle, by simp [hri], hP2⟩
  · rintro env ⟨rs, ts, x', o4, o5, rfl, hT, hri, hP'⟩
    walk_at "vv"
    exact k rs ts x' hP' hT (by omega) (by omega)
theorem rules_ok {x : Vl} [hP : PoolV x] {most : Nat} {P : Vl → Ev → Prop} {PX : Xi} (hm0 : 64 ≤ most) (hm1 : most ≤ 100000)
    (k : ∀ (rs : List Ru) (ts : List Tx) x', PoolV x' → TabL rs ts most → 1 ≤ rs.length → rs.length ≤ 20 → P (.tup [.lst true (rs.map ruL), .lst true (ts.map txL)]) [some x', none]) : V_rules [x, .int (most : Int)] P PX := rules_okM hm0 (Nat.le_refl _) hm1 k
abbrev V_near : WF := v_law_near V_take
theorem near_ok {x : Vl} [hP : PoolV x] {lo hi : Int} {P : Vl → Ev → Prop} {PX : Xi} (h0 : lo ≤ hi) (h1 : hi - lo < 1000000000) (k : ∀ (r : Int) x', PoolV x' → P (.int r) [some x', none, none]) : V_near [x, .int lo, .int hi] P PX := by
  unfold V_near
  rw [w_law_near]
  unfold s_law_near
  walk_at "vv"
  refine take_ok (by decide) (by decide) fun n x1 n0 n1 hP1 => ?_
  walk_at "vv"
  refine ifP (fun c => ?_) (fun c => ?_)
  · walk_at "vv"
    refine take_ok (by decide) (by decide) fun n x1 n0 n1 hP1 => ?_
    obtain rfl | rfl | rfl | rfl : n = 0 ∨ n = 1 ∨ n = 2 ∨ n = 3 := by omega
    all_goals
      walk_at "vv"
      exact k _ _ hP1
  · walk_at "vv"
    refine take_ok (n := hi - lo + 1) (by omega) (by omega) fun n x1 n0 n1 hP1 => ?_
    walk_at "vv"
    exact k _ _ hP1
end Tr
end Sh


set_option Elab.async false
set_option linter.all false
set_option maxRecDepth 100000
set_option maxHeartbeats 4000000
namespace Sh
open PySem PySem.Spec PyProof.Rows L2
/-! the steps, by themselves as far as nothing is to be decided -/
set_option synthInstance.maxSize 4096
set_option synthInstance.maxHeartbeats 400000
local macro_rules | `(tactic| walk_at "sm") => `(tactic| first | assumption | exact Same.refl _ | exact Sm.h | (refine Same.trans ?_ Sm.h; walk_at "sm"))
local macro_rules | `(tactic| walk_at "py1") => `(tactic| first
  | refine go ?_
  | (with_reducible refine py_mulL (by omega) (by omega) ?_) | (with_reducible refine py_mulR (by omega) (by omega) ?_) | (with_reducible refine py_divI (by omega) (by omega) ?_) | (with_reducible refine py_modI (by omega) ?_)
  | (with_reducible refine nSet_mk ?_; intro _ _) | (with_reducible refine nTupF (by simp) ?_; intro _ _ _ _ _ _ _ _) | (with_reducible refine nLstO (by simp) ?_; intro _ _ _ _)
  | (with_reducible refine nRng1_mk (by omega) (by omega) ?_) | (with_reducible refine nRng2_mk (by omega) (by omega) (by omega) (by omega) ?_))
local macro_rules | `(tactic| walk_at "py") => `(tactic| repeat (walk_at "py1"))
def N_rule_length : List Str := ["rule", "lengths", "word"]
theorem st_rule_length {v0 v1 : V} : start N_rule_length [v0, v1] = [some v0, some v1, none] := rfl
def t_rule_length (K : PySem.W.Frag) : TS := (tSeq (tAsg (tOp (rIx K) (tVar 0) (tC (.int 0))) (gName 2)) (tSeq (tIfS (tTest (tOp rEq (tVar 2) (tC (.str "letters")))) (tRet (tCB (rLn K) (tCons (tOp (rIx K) (tVar 0) (tC (.int 1))) tNil))) tNext) (tSeq (tIfS (tTest (tOp rEq (tVar 2) (tC (.str "join")))) (tRet (tOp rAddI (tOp (rIx K) (tVar 1) (tOp (rIx K) (tVar 0) (tC (.int 1)))) (tOp (rIx K) (tVar 1) (tOp (rIx K) (tVar 0) (tC (.int 2)))))) tNext) (tSeq (tIfS (tTest (tOp rEq (tVar 2) (tC (.str "power")))) (tRet (tOp rMulI (tOp (rIx K) (tVar 1) (tOp (rIx K) (tVar 0) (tC (.int 1)))) (tOp (rIx K) (tVar 0) (tC (.int 2))))) tNext) (tSeq (tIfS (tTest (tOp rEq (tVar 2) (tC (.str "part")))) (tRet (tOp rSubI (tOp (rIx K) (tVar 0) (tC (.int 3))) (tOp (rIx K) (tVar 0) (tC (.int 2))))) tNext) (tRet (tOp (rIx K) (tVar 1) (tOp (rIx K) (tVar 0) (tC (.int 1))))))))))
def N_earlier : List Str := ["rule"]
theorem st_earlier {v0 : V} : start N_earlier [v0] = [some v0] := rfl
def t_earlier (K : PySem.W.Frag) : TS := (tSeq (tIfS (tTest (tOp rEq (tOp (rIx K) (tVar 0) (tC (.int 0))) (tC (.str "letters")))) (tRet (tTup tNil)) tNext) (tRet (tIf (tTest (tOp rEq (tOp (rIx K) (tVar 0) (tC (.int 0))) (tC (.str "join")))) (tSl (rSlLT K) (tVar 0) (tPart (tC (.int 1))) (tPart (tC (.int 3)))) (tSl (rSlLT K) (tVar 0) (tPart (tC (.int 1))) (tPart (tC (.int 2)))))))
def N_fault : List Str := ["rule", "lengths", "word", "is_allowed", "letter", "number"]
theorem st_fault {v0 v1 : V} : start N_fault [v0, v1] = [some v0, some v1, none, none, none, none] := rfl
def t_fault (K : PySem.W.Frag) (sp_earlier : Sp) (sp_rule_length : Sp) : TS := (tSeq (tAsg (tIf (tTru K (tVar 0)) (tOp (rIx K) (tVar 0) (tC (.int 0))) (tC (.str ""))) (gName 2)) (tSeq (tIfS (tTest (tOp (rNotInK K (He.ga K "SIZES")) (tVar 2) (tC (.ref (He.ga K "SIZES"))))) (tRet (tC (.str "word"))) tNext) (tSeq (tIfS (tTest (tOp rNe (tCB (rLn K) (tCons (tVar 0) tNil)) (tOp (rIxK K (He.ga K "SIZES")) (tC (.ref (He.ga K "SIZES"))) (tVar 2)))) (tRet (tC (.str "length"))) tNext) (tSeq (tIfS (tTest (tOp rEq (tVar 2) (tC (.str "letters")))) (tSeq (tAsg (tAndV (tOp rLeI (tCB (rLn K) (tCons (tOp (rIx K) (tVar 0) (tC (.int 1))) tNil)) (tC (.int 64))) (tCB (rAll K) (tCons (tLc (iStr (tOp (rIx K) (tVar 0) (tC (.int 1)))) (gName 4) tYes (tOp rInSign (tVar 4) (tC (.str " !\"#$&'()*+,-./0123456789:;<=>?@ABCDEFGHIJKLMNOPQRSTUVWXYZ[\\]^_`abcdefghijklmnopqrstuvwxyz{|}~"))) [4]) tNil))) (gName 3)) (tRet (tIf (tTru K (tVar 3)) (tC .non) (tC (.str "letters"))))) tNext) (tSeq (tIfS (tNot (tB (tCB (rAll K) (tCons (tLc (iLT K (tCall sp_earlier [] E0 (tCons (tVar 0) tNil))) (gName 5) tYes (tChain rLeI rLtI (tC (.int 0)) (tVar 5) (tCB (rLn K) (tCons (tVar 1) tNil))) [5]) tNil)))) (tRet (tC (.str "rule"))) tNext) (tSeq (tIfS (tAnd (tTest (tOp rEq (tVar 2) (tC (.str "power")))) (tNot (tTest (tChain rLeI rLeI (tC (.int 0)) (tOp (rIx K) (tVar 0) (tC (.int 2))) (tC (.int 1000000000000)))))) (tRet (tC (.str "power"))) tNext) (tSeq (tIfS (tAnd (tTest (tOp rEq (tVar 2) (tC (.str "part")))) (tNot (tTest (tChain3 rLeI rLeI rLeI (tC (.int 0)) (tOp (rIx K) (tVar 0) (tC (.int 2))) (tOp (rIx K) (tVar 0) (tC (.int 3))) (tOp (rIx K) (tVar 1) (tOp (rIx K) (tVar 0) (tC (.int 1)))))))) (tRet (tC (.str "part"))) tNext) (tRet (tIf (tTest (tOp rGtI (tCall sp_rule_length [] E0 (tCons (tVar 0) (tCons (tVar 1) tNil))) (tC (.int 1000000000000)))) (tC (.str "large")) (tC .non))))))))))
def N_lengths_of : List Str := ["rules", "lengths", "rule"]
theorem st_lengths_of {v0 : V} : start N_lengths_of [v0] = [some v0, none, none] := rfl
def t_lengths_of (K : PySem.W.Frag) (sp_rule_length : Sp) : TS := (tSeq (tAsg (tLst tNil) (gName 1)) (tSeq (tFor (iTup K (tVar 0)) (gName 2) (tDrop (tBM K "list" rAppend (tVar 1) (tCons (tCall sp_rule_length [] E0 (tCons (tVar 2) (tCons (tVar 1) tNil))) tNil)))) (tRet (tCB (rTupleOf K) (tCons (tVar 1) tNil)))))
def N_check_rules : List Str := ["rules", "lengths", "number", "rule", "reason"]
theorem st_check_rules {v0 : V} : start N_check_rules [v0] = [some v0, none, none, none, none] := rfl
def t_check_rules (K : PySem.W.Frag) (sp_fault : Sp) (sp_rule_length : Sp) : TS := (tSeq (tIfS (tNot (tTest (tChain rLeI rLeI (tC (.int 1)) (tCB (rLn K) (tCons (tVar 0) tNil)) (tC (.int 60))))) tDead tNext) (tSeq (tAsg (tLst tNil) (gName 1)) (tFor (iEnum K (tCons (tVar 0) tNil)) (gTup K 2 (gCons (gName 2) (gCons (gName 3) gNil))) (tSeq (tAsg (tCall sp_fault [] E0 (tCons (tVar 3) (tCons (tVar 1) tNil))) (gName 4)) (tSeq (tIfS (tTest (tOp rNotNone (tVar 4) (tC .non))) tDead tNext) (tDrop (tBM K "list" rAppend (tVar 1) (tCons (tCall sp_rule_length [] E0 (tCons (tVar 3) (tCons (tVar 1) tNil))) tNil))))))))
open SX (S)
/-! ### rules: length, earlier ones, faults -/
section
variable (K : PySem.W.Frag)
def sp_rule_length : Sp := fun vs H Q _ => ∃ (F : Hp) (M : Ow) (a q : Addr) (r : Ru) (ts : List Tx), Hs F M H ∧ vs = [.ref a, .ref q] ∧ (SqL K F a (ruV r) ∨ SqT K F a (ruV r)) ∧ Im M q (.lst (lens ts)) ∧ RuK ts.length ts r ∧ (∀ i, (gt ts i).length ≤ 1000000000000) ∧
  Q (.int ((ruT ts r).length : Int)) H
/-- the earlier rules that a rule names -/
def refs : Ru → List V
  | .wri _ => []
  | .join i j => [.int (i : Int), .int (j : Int)]
  | .power i _ => [.int (i : Int)]
  | .part i _ _ => [.int (i : Int)]
  | .back i => [.int (i : Int)]
def sp_earlier : Sp := fun vs H Q _ => ∃ (F : Hp) (M : Ow) (a : Addr) (r : Ru), Hs F M H ∧ vs = [.ref a] ∧ (SqL K F a (ruV r) ∨ SqT K F a (ruV r)) ∧
  ∀ t F' H', Same F F' → Hs F' M H' → FzS K F' t (refs r) → Q (.ref t) H'
/-- a rule without a fault -/
def sp_fault : Sp := fun vs H Q _ => ∃ (F : Hp) (M : Ow) (a q : Addr) (r : Ru) (ts : List Tx), Hs F M H ∧ vs = [.ref a, .ref q] ∧ (SqL K F a (ruV r) ∨ SqT K F a (ruV r)) ∧ Im M q (.lst (lens ts)) ∧ RuK ts.length ts r ∧ (∀ i, (gt ts i).length ≤ 1000000000000) ∧
  (ruT ts r).length ≤ 1000000000000 ∧ ∀ F' H', Same F F' → Hs F' M H' → Q .non H'
def sp_lengths_of : Sp := fun vs H Q _ => ∃ (F : Hp) (M : Ow) (a : Addr) (vr : List V) (rs : List Ru) (ts : List Tx), Hs F M H ∧ vs = [.ref a] ∧ SqT K F a vr ∧ DpAll K F vr (rs.map ruD) ∧ Tab rs ts ∧ rs.length ≤ 1000 ∧
  ∀ t F' H', Same F F' → Hs F' M H' → FzT K F' t (lens ts) → Q (.ref t) H'
/-- rules without faults; a list of them -/
def sp_check_rules : Sp := fun vs H Q _ => ∃ (F : Hp) (M : Ow) (a : Addr) (vr : List V) (rs : List Ru) (ts : List Tx), Hs F M H ∧ vs = [.ref a] ∧ SqL K F a vr ∧ Pas K F vr rs ∧ Tab rs ts ∧ 1 ≤ rs.length ∧ rs.length ≤ 60 ∧
  ∀ F' H', Same F F' → Hs F' M H' → Q .non H'
class SzT : Prop where
  l : Tv K (He.ga K "SIZES") "letters" (.int 2)
  j : Tv K (He.ga K "SIZES") "join" (.int 3)
  p : Tv K (He.ga K "SIZES") "power" (.int 3)
  c : Tv K (He.ga K "SIZES") "part" (.int 4)
  b : Tv K (He.ga K "SIZES") "back" (.int 2)
end
section
variable {K : PySem.W.Frag}
instance [z : SzT K] : Tv K (He.ga K "SIZES") "letters" (.int 2) := z.l
instance [z : SzT K] : Tv K (He.ga K "SIZES") "join" (.int 3) := z.j
instance [z : SzT K] : Tv K (He.ga K "SIZES") "power" (.int 3) := z.p
instance [z : SzT K] : Tv K (He.ga K "SIZES") "part" (.int 4) := z.c
instance [z : SzT K] : Tv K (He.ga K "SIZES") "back" (.int 2) := z.b
theorem pure_rule_length (vs : List V) (H : Hp) (Q : VK) (E : XK) (h : sp_rule_length K vs H Q E) : t_rule_length K { nx := fun _ H' => Q .non H', rt := Q } (start N_rule_length vs) H := by
  obtain ⟨F, M, a, q, r, ts, hs, rfl, hr, hq, hk, hl, k⟩ := h
  unfold t_rule_length
  rw [st_rule_length]
  cases r with
  | wri w =>
    have : FzS K F a [.str "letters", .str (S w)] := ⟨hr⟩
    walk_at "py"
    exact nLnT (by have := hk.1; omega) k
  | join i j =>
    have : FzS K F a [.str "join", .int (i : Int), .int (j : Int)] := ⟨hr⟩
    obtain ⟨h1, h2⟩ := hk
    walk_at "py"
    refine nIxO (lens_at h1) ?_
    walk_at "py"
    refine nIxO (lens_at h2) ?_
    walk_at "py"
    rw [show ((ruT ts (.join i j)).length : Int) = (gt ts i).length + (gt ts j).length by simp [ruT]] at k
    exact k
  | power i t =>
    have : FzS K F a [.str "power", .int (i : Int), .int (t : Int)] := ⟨hr⟩
    obtain ⟨h1, h2⟩ := hk
    have := hl i
    walk_at "py"
    refine nIxO (lens_at h1) ?_
    walk_at "py"
    rw [show ((ruT ts (.power i t)).length : Int) = (gt ts i).length * (t : Int) by rw [← Int.natCast_mul, Nat.mul_comm]; show (((List.replicate t (gt ts i)).flatten).length : Int) = _; rw [rep_len]] at k
    exact k
  | part i b c =>
    have : FzS K F a [.str "part", .int (i : Int), .int (b : Int), .int (c : Int)] := ⟨hr⟩
    obtain ⟨h1, h2, h3⟩ := hk
    walk_at "py"
    rw [show ((ruT ts (.part i b c)).length : Int) = (c : Int) - (b : Int) by rw [show (ruT ts (.part i b c)).length = c - b from cut_len h3]; omega] at k
    exact k
  | back i =>
    have : FzS K F a [.str "back", .int (i : Int)] := ⟨hr⟩
    have h1 : i < ts.length := hk
    walk_at "py"
    refine nIxO (lens_at h1) ?_
    rw [show ((ruT ts (.back i)).length : Int) = (gt ts i).length by simp [ruT]] at k
    exact k
theorem pure_earlier (vs : List V) (H : Hp) (Q : VK) (E : XK) (h : sp_earlier K vs H Q E) : t_earlier K { nx := fun _ H' => Q .non H', rt := Q } (start N_earlier vs) H := by
  obtain ⟨F, M, a, r, hs, rfl, hr, k⟩ := h
  unfold t_earlier
  rw [st_earlier]
  cases r with
  | wri w =>
    have : FzS K F a [.str "letters", .str (S w)] := ⟨hr⟩
    walk_at "py"
    rename_i p F' H' hp hF hs' hT hz
    exact k p F' H' hF.h hs' ⟨.inr (hT K).h⟩
  | join i j =>
    have : FzS K F a [.str "join", .int (i : Int), .int (j : Int)] := ⟨hr⟩
    walk_at "py"
    exact nSlLT (ys := [.int (i : Int), .int (j : Int)]) (by simp [HT.sIx]) rfl fun t F' H' _ hF hs' hT => k t F' H' hF.h hs' hT
  | power i t =>
    have : FzS K F a [.str "power", .int (i : Int), .int (t : Int)] := ⟨hr⟩
    walk_at "py"
    exact nSlLT (ys := [.int (i : Int)]) (by simp [HT.sIx]) rfl fun t F' H' _ hF hs' hT => k t F' H' hF.h hs' hT
  | part i b c =>
    have : FzS K F a [.str "part", .int (i : Int), .int (b : Int), .int (c : Int)] := ⟨hr⟩
    walk_at "py"
    exact nSlLT (ys := [.int (i : Int)]) (by simp [HT.sIx]) rfl fun t F' H' _ hF hs' hT => k t F' H' hF.h hs' hT
  | back i =>
    have : FzS K F a [.str "back", .int (i : Int)] := ⟨hr⟩
    walk_at "py"
    exact nSlLT (ys := [.int (i : Int)]) (by simp [HT.sIx]) rfl fun t F' H' _ hF hs' hT => k t F' H' hF.h hs' hT
end
section
variable {K : PySem.W.Frag}
theorem all_true {n : Nat} : ((List.replicate n true).all id) = true := by rw [List.all_replicate]; simp
/-- a rule's own words, before its kind is known -/
theorem pure_fault [SzT K] (vs : List V) (H : Hp) (Q : VK) (E : XK) (h : sp_fault K vs H Q E) : t_fault K (sp_earlier K) (sp_rule_length K) { nx := fun _ H' => Q .non H', rt := Q } (start N_fault vs) H := by
  obtain ⟨F, M, a, q, r, ts, hs, rfl, hr, hq, hk, hl, hle, k⟩ := h
  unfold t_fault
  rw [st_fault]
  cases r with
  | wri w =>
    have : FzS K F a [.str "letters", .str (S w)] := ⟨hr⟩
    obtain ⟨h1, h2⟩ := hk
    walk_at "py"
    refine ifNF rfl ?_
    walk_at "py"
    refine nLnT (by omega) ?_
    walk_at "py"
    refine ifPT (by omega) ?_
    walk_at "py"
    refine nCompS (fun i acc F' M' => M' = M ∧ acc = List.replicate i (V.bl true)) ⟨rfl, rfl⟩ ?_ ?_
    · rintro i c acc D F' M' H' hi hF hs' ⟨rfl, rfl⟩
      have hm : c ∈ signs := h2 c (List.mem_of_getElem? hi)
      have hil := (List.getElem?_eq_some_iff.mp hi).1
      rw [signs_eq]
      walk_at "py"
      rw [decide_eq_true hm]
      exact .mk (by walk_at "sm") hs' (by simp; omega) ⟨rfl, by rw [List.replicate_succ']⟩
    · rintro D acc F' M' H' hD hF hs' ⟨rfl, rfl⟩
      walk_at "py"
      refine nAllT ?_
      walk_at "py"
      exact k F' H' hF.h (hs'.drop 0)
  | join i j =>
    have : FzS K F a [.str "join", .int (i : Int), .int (j : Int)] := ⟨hr⟩
    obtain ⟨h1, h2⟩ := hk
    walk_at "py"
    refine ifNF rfl ?_
    walk_at "py"
    refine ⟨F, M, a, .join i j, hs, rfl, hr, fun t F1 H1 e1 hs1 hT => ?_⟩
    have : Sm F F1 := ⟨e1⟩
    walk_at "py"
    refine nCompLT (fun i acc F' M' => M' = M ∧ acc = List.replicate i (V.bl true)) ⟨rfl, rfl⟩ ?_ ?_
    · rintro m x acc D F' M' H' hi hF hs' ⟨rfl, rfl⟩
      have hx : ∃ z : Nat, x = .int (z : Int) ∧ z < ts.length := by
        match m, hi with
        | 0, hi => cases hi; exact ⟨i, rfl, h1⟩
        | 1, hi => cases hi; exact ⟨j, rfl, h2⟩
        | _ + 2, hi => cases hi
      obtain ⟨z, rfl, hz⟩ := hx
      have hm := (List.getElem?_eq_some_iff.mp hi).1
      have hm2 : m < 2 := hm
      walk_at "py"
      refine ifPT (by omega) ?_
      walk_at "py"
      rw [lens_len, decide_eq_true (show (z : Int) < (ts.length : Int) by omega)]
      exact .mk (by walk_at "sm") hs' (by simp; omega) ⟨rfl, by rw [List.replicate_succ']⟩
    · rintro D acc F' M' H' hD hF hs' ⟨rfl, rfl⟩
      walk_at "py"
      refine nAllT ?_
      have hs2 := hs'.drop 0
      simp only [List.eraseIdx_cons_zero] at hs2
      walk_at "py"
      refine ⟨F', _, a, q, .join i j, ts, hs2, rfl, hr.imp (fun z => same_l (e1.trans hF.h) z) (fun z => same_t (e1.trans hF.h) z), hq, ⟨h1, h2⟩, hl, ?_⟩
      walk_at "py"
      refine ifPF (by omega) ?_
      walk_at "py"
      exact k F' H' (e1.trans hF.h) hs2
  | power i t =>
    have : FzS K F a [.str "power", .int (i : Int), .int (t : Int)] := ⟨hr⟩
    obtain ⟨h1, h2⟩ := hk
    walk_at "py"
    refine ifNF rfl ?_
    walk_at "py"
    refine ⟨F, M, a, .power i t, hs, rfl, hr, fun t' F1 H1 e1 hs1 hT => ?_⟩
    have : Sm F F1 := ⟨e1⟩
    walk_at "py"
    refine nCompLT (fun i acc F' M' => M' = M ∧ acc = List.replicate i (V.bl true)) ⟨rfl, rfl⟩ ?_ ?_
    · rintro m x acc D F' M' H' hi hF hs' ⟨rfl, rfl⟩
      have hx : ∃ z : Nat, x = .int (z : Int) ∧ z < ts.length := by
        match m, hi with
        | 0, hi => cases hi; exact ⟨i, rfl, h1⟩
        | _ + 1, hi => cases hi
      obtain ⟨z, rfl, hz⟩ := hx
      have hm := (List.getElem?_eq_some_iff.mp hi).1
      have hm2 : m < 1 := hm
      walk_at "py"
      refine ifPT (by omega) ?_
      walk_at "py"
      rw [lens_len, decide_eq_true (show (z : Int) < (ts.length : Int) by omega)]
      exact .mk (by walk_at "sm") hs' (by simp; omega) ⟨rfl, by rw [List.replicate_succ']⟩
    · rintro D acc F' M' H' hD hF hs' ⟨rfl, rfl⟩
      walk_at "py"
      refine nAllT ?_
      have hs2 := hs'.drop 0
      simp only [List.eraseIdx_cons_zero] at hs2
      walk_at "py"
      refine ifPT (by omega) ?_
      walk_at "py"
      rw [decide_eq_true (show (t : Int) ≤ 1000000000000 by omega)]
      walk_at "py"
      refine ⟨F', _, a, q, .power i t, ts, hs2, rfl, hr.imp (fun z => same_l (e1.trans hF.h) z) (fun z => same_t (e1.trans hF.h) z), hq, ⟨h1, h2⟩, hl, ?_⟩
      walk_at "py"
      refine ifPF (by omega) ?_
      walk_at "py"
      exact k F' H' (e1.trans hF.h) hs2
  | part i b c =>
    have : FzS K F a [.str "part", .int (i : Int), .int (b : Int), .int (c : Int)] := ⟨hr⟩
    obtain ⟨h1, h2, h3⟩ := hk
    walk_at "py"
    refine ifNF rfl ?_
    walk_at "py"
    refine ⟨F, M, a, .part i b c, hs, rfl, hr, fun t' F1 H1 e1 hs1 hT => ?_⟩
    have : Sm F F1 := ⟨e1⟩
    walk_at "py"
    refine nCompLT (fun i acc F' M' => M' = M ∧ acc = List.replicate i (V.bl true)) ⟨rfl, rfl⟩ ?_ ?_
    · rintro m x acc D F' M' H' hi hF hs' ⟨rfl, rfl⟩
      have hx : ∃ z : Nat, x = .int (z : Int) ∧ z < ts.length := by
        match m, hi with
        | 0, hi => cases hi; exact ⟨i, rfl, h1⟩
        | _ + 1, hi => cases hi
      obtain ⟨z, rfl, hz⟩ := hx
      have hm := (List.getElem?_eq_some_iff.mp hi).1
      have hm2 : m < 1 := hm
      walk_at "py"
      refine ifPT (by omega) ?_
      walk_at "py"
      rw [lens_len, decide_eq_true (show (z : Int) < (ts.length : Int) by omega)]
      exact .mk (by walk_at "sm") hs' (by simp; omega) ⟨rfl, by rw [List.replicate_succ']⟩
    · rintro D acc F' M' H' hD hF hs' ⟨rfl, rfl⟩
      walk_at "py"
      refine nAllT ?_
      have hs2 := hs'.drop 0
      simp only [List.eraseIdx_cons_zero] at hs2
      walk_at "py"
      refine ifPT (by omega) ?_
      walk_at "py"
      refine ifPT (by omega) ?_
      walk_at "py"
      refine nIxO (lens_at h1) ?_
      walk_at "py"
      rw [decide_eq_true (show (c : Int) ≤ ((gt ts i).length : Int) by omega)]
      walk_at "py"
      refine ⟨F', _, a, q, .part i b c, ts, hs2, rfl, hr.imp (fun z => same_l (e1.trans hF.h) z) (fun z => same_t (e1.trans hF.h) z), hq, ⟨h1, h2, h3⟩, hl, ?_⟩
      walk_at "py"
      refine ifPF (by omega) ?_
      walk_at "py"
      exact k F' H' (e1.trans hF.h) hs2
  | back i =>
    have : FzS K F a [.str "back", .int (i : Int)] := ⟨hr⟩
    have h1 : i < ts.length := hk
    walk_at "py"
    refine ifNF rfl ?_
    walk_at "py"
    refine ⟨F, M, a, .back i, hs, rfl, hr, fun t' F1 H1 e1 hs1 hT => ?_⟩
    have : Sm F F1 := ⟨e1⟩
    walk_at "py"
    refine nCompLT (fun i acc F' M' => M' = M ∧ acc = List.replicate i (V.bl true)) ⟨rfl, rfl⟩ ?_ ?_
    · rintro m x acc D F' M' H' hi hF hs' ⟨rfl, rfl⟩
      have hx : ∃ z : Nat, x = .int (z : Int) ∧ z < ts.length := by
        match m, hi with
        | 0, hi => cases hi; exact ⟨i, rfl, h1⟩
        | _ + 1, hi => cases hi
      obtain ⟨z, rfl, hz⟩ := hx
      have hm := (List.getElem?_eq_some_iff.mp hi).1
      have hm2 : m < 1 := hm
      walk_at "py"
      refine ifPT (by omega) ?_
      walk_at "py"
      rw [lens_len, decide_eq_true (show (z : Int) < (ts.length : Int) by omega)]
      exact .mk (by walk_at "sm") hs' (by simp; omega) ⟨rfl, by rw [List.replicate_succ']⟩
    · rintro D acc F' M' H' hD hF hs' ⟨rfl, rfl⟩
      walk_at "py"
      refine nAllT ?_
      have hs2 := hs'.drop 0
      simp only [List.eraseIdx_cons_zero] at hs2
      walk_at "py"
      refine ⟨F', _, a, q, .back i, ts, hs2, rfl, hr.imp (fun z => same_l (e1.trans hF.h) z) (fun z => same_t (e1.trans hF.h) z), hq, h1, hl, ?_⟩
      walk_at "py"
      refine ifPF (by omega) ?_
      walk_at "py"
      exact k F' H' (e1.trans hF.h) hs2
end
section
variable {K : PySem.W.Frag}
theorem pure_lengths_of (vs : List V) (H : Hp) (Q : VK) (E : XK) (h : sp_lengths_of K vs H Q E) : t_lengths_of K (sp_rule_length K) { nx := fun _ H' => Q .non H', rt := Q } (start N_lengths_of vs) H := by
  obtain ⟨F, M, a, vr, rs, ts, hs, rfl, hv, hd, hT, hl, k⟩ := h
  have : FzT K F a vr := ⟨hv⟩
  have hvl := dpa_len hd
  rw [List.length_map] at hvl
  have htl := hT.ln
  unfold t_lengths_of
  rw [st_lengths_of]
  walk_at "py"
  rename_i q H1 hq hs1
  refine nLoopT (fun i σ' F' M' => M' = (q, HO.lst (lens (ts.take i))) :: M ∧ ∃ w, σ' = [some (.ref a), some (.ref q), w]) ⟨rfl, none, rfl⟩ ?_ ?_
  · rintro i x σ' F' M' H' hi hF hs' ⟨rfl, w, rfl⟩
    have hil := (List.getElem?_eq_some_iff.mp hi).1
    have hr := List.getElem?_eq_getElem (l := rs) (i := i) (by omega)
    obtain ⟨b, hb, hbS⟩ := dp_rus hd hr
    rw [hi] at hb; cases hb
    obtain ⟨k1, k2, k3⟩ := hT.pre hr
    walk_at "py"
    refine ⟨F', _, b, q, _, ts.take i, hs', rfl, .inr (same_t hF.h hbS), im0, by rw [k3]; exact k1, gt_take_le hT.le i, ?_⟩
    walk_at "py"
    refine nAppend (by rw [lens_len, k3]; omega) fun H2 hs2 => ?_
    refine .mk (by walk_at "sm") hs2 ⟨?_, _, rfl⟩
    rw [take_one (at_gt (by omega)), lens_snoc, k2]
  · rintro σ' F' M' H' hF hs' ⟨rfl, w, rfl⟩
    walk_at "py"
    refine nTupleOfO fun t F2 H2 ht hF2 hs2 hT2 hz2 => ?_
    rw [List.take_of_length_le (by omega)] at hT2
    exact k t F2 H2 (hF.h.trans hF2.h) (hs2.drop 0) hT2
theorem pure_check_rules [SzT K] (vs : List V) (H : Hp) (Q : VK) (E : XK) (h : sp_check_rules K vs H Q E) : t_check_rules K (sp_fault K) (sp_rule_length K) { nx := fun _ H' => Q .non H', rt := Q } (start N_check_rules vs) H := by
  obtain ⟨F, M, a, vr, rs, ts, hs, rfl, hv, hd, hT, hl1, hl2, k⟩ := h
  have : FzL K F a vr := ⟨hv⟩
  have hvl := hd.1
  have htl := hT.ln
  unfold t_check_rules
  rw [st_check_rules]
  walk_at "py"
  refine ifPT (by omega) ?_
  walk_at "py"
  refine ifNF (by omega) ?_
  walk_at "py"
  rename_i q H1 hq hs1
  refine nLoopE (fun i σ' F' M' => M' = (q, HO.lst (lens (ts.take i))) :: M ∧ ∃ w1 w2 w3, σ' = [some (.ref a), some (.ref q), w1, w2, w3]) ⟨rfl, none, none, none, rfl⟩ ?_ ?_ ?_
  · rintro i x T σ' F' M' H' hi hF hs' hTT ⟨rfl, w1, w2, w3, rfl⟩
    have hil := (List.getElem?_eq_some_iff.mp hi).1
    have hr := List.getElem?_eq_getElem (l := rs) (i := i) (by omega)
    obtain ⟨b, rfl, hb⟩ := hd.2 i x _ hi hr
    obtain ⟨k1, k2, k3⟩ := hT.pre hr
    walk_at "py"
    have hb' : SqL K F' b (ruV rs[i]) ∨ SqT K F' b (ruV rs[i]) := hb.imp (same_l hF.h) (same_t hF.h)
    refine ⟨F', _, b, q, _, ts.take i, hs', rfl, hb', im0, by rw [k3]; exact k1, gt_take_le hT.le i, by rw [k2]; exact hT.le i, fun F2 H2 e2 hs2 => ?_⟩
    have : Sm F' F2 := ⟨e2⟩
    walk_at "py"
    refine ⟨F2, _, b, q, _, ts.take i, hs2, rfl, hb'.imp (same_l e2) (same_t e2), im0, by rw [k3]; exact k1, gt_take_le hT.le i, ?_⟩
    walk_at "py"
    refine nAppend (by rw [lens_len, k3]; omega) fun H3 hs3 => ?_
    refine .mk (hF.h.trans e2) hs3 ⟨?_, _, _, _, rfl⟩
    rw [take_one (at_gt (by omega)), lens_snoc, k2]
  · rintro σ' F' M' H' hF hs' ⟨rfl, w1, w2, w3, rfl⟩
    exact k F' H' hF.h (hs'.drop 0)
  · rintro i σ' F1 F2 M' e ⟨h1, h2⟩
    exact ⟨h1, h2⟩
end
end Sh


set_option Elab.async false
set_option linter.all false
set_option maxRecDepth 100000
set_option maxHeartbeats 4000000
namespace Sh
open PySem PySem.Spec PyProof.Rows L2
/-! the steps, by themselves as far as nothing is to be decided -/
set_option synthInstance.maxSize 4096
set_option synthInstance.maxHeartbeats 400000
local macro_rules | `(tactic| walk_at "sm") => `(tactic| first | assumption | exact Same.refl _ | exact Sm.h | (refine Same.trans ?_ Sm.h; walk_at "sm"))
local macro_rules | `(tactic| walk_at "py1") => `(tactic| first
  | refine go ?_
  | (with_reducible refine py_mulL (by omega) (by omega) ?_) | (with_reducible refine py_mulR (by omega) (by omega) ?_) | (with_reducible refine py_divI (by omega) (by omega) ?_) | (with_reducible refine py_modI (by omega) ?_)
  | (with_reducible refine nSet_mk ?_; intro _ _) | (with_reducible refine nTupF (by simp) ?_; intro _ _ _ _ _ _ _ _) | (with_reducible refine nLstO (by simp) ?_; intro _ _ _ _)
  | (with_reducible refine nRng1_mk (by omega) (by omega) ?_) | (with_reducible refine nRng2_mk (by omega) (by omega) (by omega) (by omega) ?_))
local macro_rules | `(tactic| walk_at "py") => `(tactic| repeat (walk_at "py1"))
def N_BadRules_init : List Str := ["self", "number", "reason"]
theorem st_BadRules_init {v0 v1 v2 : V} : start N_BadRules_init [v0, v1, v2] = [some v0, some v1, some v2] := rfl
def t_BadRules_init (K : PySem.W.Frag) : TS := (tSeq (tOst K "number" (tVar 0) (tVar 1)) (tOst K "reason" (tVar 0) (tVar 2)))
def N_NoPlace_init : List Str := ["self", "place"]
theorem st_NoPlace_init {v0 v1 : V} : start N_NoPlace_init [v0, v1] = [some v0, some v1] := rfl
def t_NoPlace_init (K : PySem.W.Frag) : TS := (tOst K "place" (tVar 0) (tVar 1))
def N_NoPart_init : List Str := ["self", "start", "stop"]
theorem st_NoPart_init {v0 v1 v2 : V} : start N_NoPart_init [v0, v1, v2] = [some v0, some v1, some v2] := rfl
def t_NoPart_init (K : PySem.W.Frag) : TS := (tSeq (tOst K "start" (tVar 0) (tVar 1)) (tOst K "stop" (tVar 0) (tVar 2)))
def N_inner_place : List Str := ["rule", "lengths", "place", "word", "first", "many"]
theorem st_inner_place {v0 v1 v2 : V} : start N_inner_place [v0, v1, v2] = [some v0, some v1, some v2, none, none, none] := rfl
def t_inner_place (K : PySem.W.Frag) : TS := (tSeq (tAsg (tOp (rIx K) (tVar 0) (tC (.int 0))) (gName 3)) (tSeq (tIfS (tTest (tOp rEq (tVar 3) (tC (.str "join")))) (tSeq (tAsg (tOp (rIx K) (tVar 1) (tOp (rIx K) (tVar 0) (tC (.int 1)))) (gName 4)) (tRet (tIf (tTest (tOp rLtI (tVar 2) (tVar 4))) (tTup (tCons (tOp (rIx K) (tVar 0) (tC (.int 1))) (tCons (tVar 2) tNil))) (tTup (tCons (tOp (rIx K) (tVar 0) (tC (.int 2))) (tCons (tOp rSubI (tVar 2) (tVar 4)) tNil)))))) tNext) (tSeq (tIfS (tTest (tOp rEq (tVar 3) (tC (.str "power")))) (tSeq (tAsg (tOp (rIx K) (tVar 1) (tOp (rIx K) (tVar 0) (tC (.int 1)))) (gName 5)) (tRet (tTup (tCons (tOp (rIx K) (tVar 0) (tC (.int 1))) (tCons (tOp rSubI (tVar 2) (tOp rMulI (tVar 5) (tOp rDivI (tVar 2) (tVar 5)))) tNil))))) tNext) (tSeq (tIfS (tTest (tOp rEq (tVar 3) (tC (.str "part")))) (tRet (tTup (tCons (tOp (rIx K) (tVar 0) (tC (.int 1))) (tCons (tOp rAddI (tVar 2) (tOp (rIx K) (tVar 0) (tC (.int 2)))) tNil)))) tNext) (tRet (tTup (tCons (tOp (rIx K) (tVar 0) (tC (.int 1))) (tCons (tOp rSubI (tOp rSubI (tOp (rIx K) (tVar 1) (tOp (rIx K) (tVar 0) (tC (.int 1)))) (tC (.int 1))) (tVar 2)) tNil))))))))
def N_Text_init : List Str := ["self", "rules", "rule"]
theorem st_Text_init {v0 v1 : V} : start N_Text_init [v0, v1] = [some v0, some v1, none] := rfl
def t_Text_init (K : PySem.W.Frag) (sp_check_rules : Sp) (sp_lengths_of : Sp) : TS := (tSeq (tDrop (tCall sp_check_rules [] E0 (tCons (tVar 1) tNil))) (tSeq (sFld K (tVar 0) (tCB (rTupleOf K) (tCons (tLc (iLT K (tVar 1)) (gName 2) tYes (tCB (rTupleOf K) (tCons (tVar 2) tNil)) [2]) tNil)) "rules") (tSeq (sFld K (tVar 0) (tCall sp_lengths_of [] E0 (tCons (tFld K (tVar 0) "rules") tNil)) "lengths") (sFld K (tVar 0) (tOp (rIx K) (tFld K (tVar 0) "lengths") (tUn rNegI (tC (.int 1)))) "length"))))
def N_Text_letter : List Str := ["self", "place", "rule", "number"]
theorem st_Text_letter {v0 v1 : V} : start N_Text_letter [v0, v1] = [some v0, some v1, none, none] := rfl
def t_Text_letter (K : PySem.W.Frag) (sp_NoPlace_init : Sp) (sp_inner_place : Sp) (E : XK) : TS := (tSeq (tIfS (tNot (tTest (tChain rLeI rLtI (tC (.int 0)) (tVar 1) (tFld K (tVar 0) "length")))) (tRaiseO (He.ga K "NoPlace") sp_NoPlace_init E (tCons (tVar 1) tNil)) tNext) (tSeq (tAsg (tOp (rIx K) (tFld K (tVar 0) "rules") (tUn rNegI (tC (.int 1)))) (gName 2)) (tSeq (tWhile (tTest (tOp rNe (tOp (rIx K) (tVar 2) (tC (.int 0))) (tC (.str "letters")))) (tSeq (tAsg (tCall sp_inner_place [] E0 (tCons (tVar 2) (tCons (tFld K (tVar 0) "lengths") (tCons (tVar 1) tNil)))) (gTup K 2 (gCons (gName 3) (gCons (gName 1) gNil)))) (tAsg (tOp (rIx K) (tFld K (tVar 0) "rules") (tVar 3)) (gName 2)))) (tRet (tOp (rIx K) (tOp (rIx K) (tVar 2) (tC (.int 1))) (tVar 1))))))
def N_Text_check_part : List Str := ["self", "start", "stop"]
theorem st_Text_check_part {v0 v1 v2 : V} : start N_Text_check_part [v0, v1, v2] = [some v0, some v1, some v2] := rfl
def t_Text_check_part (K : PySem.W.Frag) (sp_NoPart_init : Sp) (E : XK) : TS := (tIfS (tNot (tTest (tChain3 rLeI rLeI rLeI (tC (.int 0)) (tVar 1) (tVar 2) (tFld K (tVar 0) "length")))) (tRaiseO (He.ga K "NoPart") sp_NoPart_init E (tCons (tVar 1) (tCons (tVar 2) tNil))) tNext)
open SX (S)
/-! ### the class Text -/
def ns_Text : List Str := ["rules", "lengths", "length"]
instance : Fx ns_Text "rules" 0 := ⟨rfl⟩
instance : Fx ns_Text "lengths" 1 := ⟨rfl⟩
instance : Fx ns_Text "length" 2 := ⟨rfl⟩
instance : Nf ns_Text "letter" := ⟨by decide +kernel⟩
instance : Nf ns_Text "letters" := ⟨by decide +kernel⟩
instance : Nf ns_Text "check_part" := ⟨by decide +kernel⟩
/-- the text of the last rule -/
def whole (ts : List Tx) : Tx := gt ts (ts.length - 1)
structure TxO (K : PySem.W.Frag) (F : Hp) (a : Addr) (rs : List Ru) (ts : List Tx) : Prop where
  tab : Tab rs ts
  ne : 1 ≤ rs.length
  le : rs.length ≤ 1000
  ob : ∃ dx p q vr, F a = some (Ob (He.ga K "Text") dx ns_Text [.ref p, .ref q, .int ((whole ts).length : Int)]) ∧ SqT K F p vr ∧ DpAll K F vr (rs.map ruD) ∧ SqT K F q (lens ts)
theorem TxO.mono {K : PySem.W.Frag} {F F' : Hp} {a : Addr} {rs : List Ru} {ts : List Tx} (e : Same F F') (h : TxO K F a rs ts) : TxO K F' a rs ts := by
  obtain ⟨dx, p, q, vr, h1, h2, h3, h4⟩ := h.ob
  exact ⟨h.tab, h.ne, h.le, dx, p, q, vr, e _ _ h1, same_t e h2, dpa_mono e h3, same_t e h4⟩
theorem TxO.whole_eq {K : PySem.W.Frag} {F : Hp} {a : Addr} {rs : List Ru} {ts : List Tx} (h : TxO K F a rs ts) : (whole ts).length ≤ 1000000000000 := h.tab.le _
section
variable (K : PySem.W.Frag)
def sp_BadRules_init : Sp := sp_exi2 K (He.ga K "BadRules") "number" "reason"
def sp_NoPlace_init : Sp := sp_exi1 K (He.ga K "NoPlace") "place"
def sp_NoPart_init : Sp := sp_exi2 K (He.ga K "NoPart") "start" "stop"
def sp_inner_place : Sp := fun vs H Q _ => ∃ (F : Hp) (M : Ow) (a q : Addr) (r : Ru) (ts : List Tx) (n p : Nat), Hs F M H ∧ vs = [.ref a, .ref q, .int (p : Int)] ∧ SqT K F a (ruV r) ∧ SqT K F q (lens ts) ∧ RuK n ts r ∧ n ≤ ts.length ∧ (∀ i, (gt ts i).length ≤ 1000000000000) ∧
  (∀ w, r ≠ .wri w) ∧ p < (ruT ts r).length ∧ ∀ t F' H', Same F F' → Hs F' M H' → FzT K F' t [.int ((inP ts r p).1 : Int), .int ((inP ts r p).2 : Int)] → Q (.ref t) H'
def sp_Text_init : Sp := fun vs H Q _ => ∃ (F : Hp) (M : Ow) (x a dx : Addr) (m : HO → Ow) (vr : List V) (rs : List Ru) (ts : List Tx), Hs F M H ∧ vs = [.ref x, .ref a] ∧ Cell M x m ∧ Im M x (Ob (He.ga K "Text") dx ns_Text []) ∧ SqL K F a vr ∧ Pas K F vr rs ∧ Tab rs ts ∧ 1 ≤ rs.length ∧ rs.length ≤ 60 ∧
  ∀ F' H' p q vr', Same F F' → Hs F' (m (Ob (He.ga K "Text") dx ns_Text [.ref p, .ref q, .int ((whole ts).length : Int)])) H' → SqT K F' p vr' → DpAll K F' vr' (rs.map ruD) → SqT K F' q (lens ts) → Q .non H'
def sp_Text_letter : Sp := fun vs H Q E => ∃ (F : Hp) (M : Ow) (a : Addr) (rs : List Ru) (ts : List Tx) (p : Int), Hs F M H ∧ vs = [.ref a, .int p] ∧ TxO K F a rs ts ∧
  (∀ (n c : Nat) F' H', p = (n : Int) → (whole ts)[n]? = some c → Same F F' → Hs F' M H' → Q (.str (S [c])) H') ∧
  ((p < 0 ∨ ((whole ts).length : Int) ≤ p) → ∀ d F' H', Same F F' → Hs F' M H' → Fz F' d (.xd [("place", .int p)]) → E (.ref (He.ga K "NoPlace")) (some d) H')
def sp_Text_check_part : Sp := fun vs H Q E => ∃ (F : Hp) (M : Ow) (a : Addr) (rs : List Ru) (ts : List Tx) (p q : Int), Hs F M H ∧ vs = [.ref a, .int p, .int q] ∧ TxO K F a rs ts ∧
  (0 ≤ p → p ≤ q → q ≤ ((whole ts).length : Int) → Q .non H) ∧
  (¬ (0 ≤ p ∧ p ≤ q ∧ q ≤ ((whole ts).length : Int)) → ∀ d F' H', Same F F' → Hs F' M H' → Fz F' d (.xd [("stop", .int q), ("start", .int p)]) → E (.ref (He.ga K "NoPart")) (some d) H')
end
section
variable {K : PySem.W.Frag}
theorem pure_BadRules_init (vs : List V) (H : Hp) (Q : VK) (E : XK) (h : sp_BadRules_init K vs H Q E) : t_BadRules_init K { nx := fun _ H' => Q .non H', rt := Q } (start N_BadRules_init vs) H := pure_exi2 vs H Q E h
theorem pure_NoPlace_init (vs : List V) (H : Hp) (Q : VK) (E : XK) (h : sp_NoPlace_init K vs H Q E) : t_NoPlace_init K { nx := fun _ H' => Q .non H', rt := Q } (start N_NoPlace_init vs) H := pure_exi1 vs H Q E h
theorem pure_NoPart_init (vs : List V) (H : Hp) (Q : VK) (E : XK) (h : sp_NoPart_init K vs H Q E) : t_NoPart_init K { nx := fun _ H' => Q .non H', rt := Q } (start N_NoPart_init vs) H := pure_exi2 vs H Q E h
theorem lens_atT {ts : List Tx} {i n : Nat} (h : i < n) (hn : n ≤ ts.length) : atI (lens ts) (i : Int) = some (.int ((gt ts i).length : Int)) := lens_at (by omega)
theorem pure_inner_place (vs : List V) (H : Hp) (Q : VK) (E : XK) (h : sp_inner_place K vs H Q E) : t_inner_place K { nx := fun _ H' => Q .non H', rt := Q } (start N_inner_place vs) H := by
  obtain ⟨F, M, a, q, r, ts, n, p, hs, rfl, hr, hq, hk, hn, hl, hw, hp, k⟩ := h
  have hx := inP_ok hk hw hp
  have : FzT K F q (lens ts) := ⟨hq⟩
  unfold t_inner_place
  rw [st_inner_place]
  cases r with
  | wri w => exact absurd rfl (hw w)
  | join i j =>
    have : FzT K F a [.str "join", .int (i : Int), .int (j : Int)] := ⟨hr⟩
    obtain ⟨h1, h2⟩ := hk
    walk_at "py"
    refine nIxT (lens_atT h1 hn) ?_
    walk_at "py"
    refine ifP (fun hlt => ?_) (fun hlt => ?_)
    · walk_at "py"
      rename_i t F' H' ht hF hs' hT hz
      have e : inP ts (.join i j) p = (i, p) := by simp only [inP]; rw [if_pos (by omega)]
      rw [e] at k
      exact k t F' H' hF.h hs' (hT K)
    · walk_at "py"
      rename_i t F' H' ht hF hs' hT hz
      have e : inP ts (.join i j) p = (j, p - (gt ts i).length) := by simp only [inP]; rw [if_neg (by omega)]
      rw [e] at k
      have e2 : (p : Int) - ((gt ts i).length : Int) = ((p - (gt ts i).length : Nat) : Int) := by omega
      rw [e2] at hT
      exact k t F' H' hF.h hs' (hT K)
  | power i t =>
    have : FzT K F a [.str "power", .int (i : Int), .int (t : Int)] := ⟨hr⟩
    obtain ⟨h1, h2⟩ := hk
    have hli := hl i
    have hp1 : p < t * (gt ts i).length := by rw [← rep_len]; exact hp
    have hpos : 0 < (gt ts i).length := by
      rcases Nat.eq_zero_or_pos (gt ts i).length with z | z
      · rw [z, Nat.mul_zero] at hp1; omega
      · exact z
    walk_at "py"
    refine nIxT (lens_atT h1 hn) ?_
    walk_at "py"
    rename_i b F' H' ht hF hs' hT hz
    have e2 : (p : Int) - ((gt ts i).length : Int) * ((p : Int) / ((gt ts i).length : Int)) = ((p % (gt ts i).length : Nat) : Int) := by
      rw [Int.natCast_emod]
      have := Int.emod_add_mul_ediv (p : Int) ((gt ts i).length : Int)
      omega
    rw [e2] at hT
    exact k b F' H' hF.h hs' (hT K)
  | part i b c =>
    have : FzT K F a [.str "part", .int (i : Int), .int (b : Int), .int (c : Int)] := ⟨hr⟩
    walk_at "py"
    rename_i t F' H' ht hF hs' hT hz
    have e2 : (p : Int) + (b : Int) = ((p + b : Nat) : Int) := by omega
    rw [e2] at hT
    exact k t F' H' hF.h hs' (hT K)
  | back i =>
    have : FzT K F a [.str "back", .int (i : Int)] := ⟨hr⟩
    have h1 : i < n := hk
    have hp1 : p < (gt ts i).length := by rw [← List.length_reverse]; exact hp
    walk_at "py"
    refine nIxT (lens_atT h1 hn) ?_
    walk_at "py"
    rename_i t F' H' ht hF hs' hT hz
    have e2 : ((gt ts i).length : Int) - 1 - (p : Int) = (((gt ts i).length - 1 - p : Nat) : Int) := by omega
    rw [e2] at hT
    exact k t F' H' hF.h hs' (hT K)
theorem pure_Text_init [ClsF K (He.ga K "Text") ns_Text] (vs : List V) (H : Hp) (Q : VK) (E : XK) (h : sp_Text_init K vs H Q E) : t_Text_init K (sp_check_rules K) (sp_lengths_of K) { nx := fun _ H' => Q .non H', rt := Q } (start N_Text_init vs) H := by
  obtain ⟨F, M, x, a, dx, m, vr, rs, ts, hs, rfl, cc, hm, hv, hd, hT, hl1, hl2, k⟩ := h
  have hw := cell_sw cc
  have hw2 := cell_sw2 cc
  have hi2 := cell_im cc
  have htl := hT.ln
  unfold t_Text_init
  rw [st_Text_init]
  walk_at "py"
  refine ⟨F, M, a, vr, rs, ts, hs, rfl, hv, hd, hT, hl1, hl2, fun F1 H1 e1 hs1 => ?_⟩
  have hF1 : Sm F F1 := ⟨e1⟩
  walk_at "py"
  have : FzS K F1 a vr := ⟨.inl (same_l e1 hv)⟩
  have hd1 := hd.mono e1
  refine nCompLT (fun i acc F' M' => M' = M ∧ DpAll K F' acc ((rs.take i).map ruD)) ⟨rfl, .nil⟩ ?_ ?_
  · rintro i y acc D F' M' H' hi hF hs' ⟨rfl, hacc⟩
    have hil := (List.getElem?_eq_some_iff.mp hi).1
    obtain ⟨r, hr⟩ : ∃ r, rs[i]? = some r := ⟨_, List.getElem?_eq_getElem (l := rs) (i := i) (by rw [← hd.1]; exact hil)⟩
    obtain ⟨b, rfl, hb⟩ := hd1.2 i y _ hi hr
    have hal := dpa_len hacc
    rw [List.length_map, List.length_take] at hal
    walk_at "py"
    have : FzS K F' b (ruV r) := ⟨hb.imp (same_l hF.h) (same_t hF.h)⟩
    refine nTupleOfS fun t F2 H2 hF2 hs2 hT2 => ?_
    refine .mk (hF.h.trans hF2.h) hs2 (by omega) ⟨rfl, ?_⟩
    rw [take_one hr, List.map_append]
    exact dpa_app (dpa_mono hF2.h hacc) (.cons (dp_ruI hT2.h) .nil)
  · rintro D acc F' M' H' hD hF hs' ⟨rfl, hacc⟩
    rw [hd.1, List.take_of_length_le (Nat.le_refl _)] at hacc
    walk_at "py"
    refine nTupleOfO fun t F2 H2 ht hF2 hs2 hT2 hz2 => ?_
    have hs3 := hs2.drop 0
    simp only [List.eraseIdx_cons_zero] at hs3
    walk_at "py"
    refine nSet_new (ns := ns_Text) rfl fun H3 hs4 => ?_
    simp only [List.nil_append, List.cons_append] at hs4
    walk_at "py"
    refine ⟨F2, _, t, acc, rs, ts, hs4, rfl, hT2.h, dpa_mono hF2.h hacc, hT, by omega, fun q F4 H4 e4 hs5 hTq => ?_⟩
    have hF4 : Sm F2 F4 := ⟨e4⟩
    walk_at "py"
    refine nSet_new (ns := ns_Text) rfl fun H5 hs6 => ?_
    simp only [List.nil_append, List.cons_append] at hs6
    have hne : lens ts = lens (ts.take (ts.length - 1)) ++ [.int ((whole ts).length : Int)] := by
      rw [← lens_snoc]
      congr 1
      have : ts.length - 1 < ts.length := by omega
      have e := take_one (at_gt this)
      rw [show ts.length - 1 + 1 = ts.length by omega, List.take_of_length_le (Nat.le_refl _)] at e
      exact e
    have : FzT K F4 q (lens (ts.take (ts.length - 1)) ++ [.int ((whole ts).length : Int)]) := ⟨hne ▸ hTq.h⟩
    walk_at "py"
    refine nSet_new (ns := ns_Text) rfl fun H7 hs7 => ?_
    simp only [List.nil_append, List.cons_append] at hs7
    exact k F4 H7 t q acc (e1.trans (hF.h.trans (hF2.h.trans e4))) hs7 (same_t e4 hT2.h) (dpa_mono (hF2.h.trans e4) hacc) hTq.h
theorem pure_Text_check_part [ClsF K (He.ga K "Text") ns_Text] (xk : Exk K "NoPart" ["start", "stop"]) (vs : List V) (H : Hp) (Q : VK) (E : XK) (h : sp_Text_check_part K vs H Q E) : t_Text_check_part K (sp_NoPart_init K) E { nx := fun _ H' => Q .non H', rt := Q } (start N_Text_check_part vs) H := by
  obtain ⟨F, M, a, rs, ts, p, q, hs, rfl, hO, k1, k2⟩ := h
  obtain ⟨dx, tp, tq, vr, ho, h2, h3, h4⟩ := hO.ob
  have : Fz F a (Ob (He.ga K "Text") dx ns_Text [.ref tp, .ref tq, .int ((whole ts).length : Int)]) := ⟨ho⟩
  unfold t_Text_check_part
  rw [st_Text_check_part]
  have bad : (¬ (0 ≤ p ∧ p ≤ q ∧ q ≤ ((whole ts).length : Int))) → nRai (He.ga K "NoPart") (sp_NoPart_init K) E [.int p, .int q] H := fun hb =>
    nRai2 xk (by simp) (by simp) fun d F' H' hd hF hs' hz => k2 hb d F' H' hF.h hs' hz
  walk_at "py"
  refine ifP (fun c1 => ?_) (fun c1 => ?_)
  · walk_at "py"
    refine ifP (fun c2 => ?_) (fun c2 => ?_)
    · walk_at "py"
      refine ifN (fun c3 => ?_) (fun c3 => ?_)
      · walk_at "py"
        exact bad (by omega)
      · walk_at "py"
        exact k1 c1 c2 c3
    · walk_at "py"
      exact bad (by omega)
  · walk_at "py"
    exact bad (by omega)
theorem pure_Text_letter [ClsF K (He.ga K "Text") ns_Text] (xk : Exk K "NoPlace" ["place"]) (vs : List V) (H : Hp) (Q : VK) (E : XK) (h : sp_Text_letter K vs H Q E) : t_Text_letter K (sp_NoPlace_init K) (sp_inner_place K) E { nx := fun _ H' => Q .non H', rt := Q } (start N_Text_letter vs) H := by
  obtain ⟨F, M, a, rs, ts, p, hs, rfl, hO, k1, k2⟩ := h
  obtain ⟨dx, tp, tq, vr, ho, h2, h3, h4⟩ := hO.ob
  have hob : Fz F a (Ob (He.ga K "Text") dx ns_Text [.ref tp, .ref tq, .int ((whole ts).length : Int)]) := ⟨ho⟩
  have hr : FzT K F tp vr := ⟨h2⟩
  have hq : FzT K F tq (lens ts) := ⟨h4⟩
  have hne := hO.ne
  have htl := hO.tab.ln
  have hvl := dpa_len h3
  rw [List.length_map] at hvl
  unfold t_Text_letter
  rw [st_Text_letter]
  have bad : (p < 0 ∨ ((whole ts).length : Int) ≤ p) → nRai (He.ga K "NoPlace") (sp_NoPlace_init K) E [.int p] H := fun hb =>
    nRai1 xk (by simp) fun d F' H' hd hF hs' hz => k2 hb d F' H' hF.h hs' hz
  walk_at "py"
  refine ifP (fun c1 => ?_) (fun c1 => ?_)
  · walk_at "py"
    refine ifN (fun c2 => ?_) (fun c2 => ?_)
    · walk_at "py"
      exact bad (by omega)
    · walk_at "py"
      obtain ⟨n, rfl⟩ : ∃ n : Nat, p = (n : Int) := ⟨p.toNat, by omega⟩
      have hn : n < (whole ts).length := by omega
      obtain ⟨c, hc⟩ : ∃ c, (whole ts)[n]? = some c := ⟨_, List.getElem?_eq_getElem hn⟩
      have hlast : rs[rs.length - 1]? = some (rs[rs.length - 1]'(by omega)) := List.getElem?_eq_getElem _
      obtain ⟨b, hb, hbS⟩ := dp_rus h3 hlast
      have ha : atI vr (-1) = some (.ref b) := by
        have e : vr = vr.take (vr.length - 1) ++ [.ref b] := by
          have e := take_one (l := vr) (i := vr.length - 1) (x := .ref b) (by rw [hvl]; exact hb)
          rw [show vr.length - 1 + 1 = vr.length by omega, List.take_of_length_le (Nat.le_refl _)] at e
          exact e
        rw [e]; exact atI_last _ _
      refine nIxT ha ?_
      walk_at "py"
      refine whileI (fun mm σ' F' M' => M' = M ∧ ∃ (b : Addr) (r : Ru) (pl : Nat) (w : Option V), mm < rs.length ∧ rs[mm]? = some r ∧ SqT K F b (ruV r) ∧ σ' = [some (.ref a), some (.int (pl : Int)), some (.ref b), w] ∧ (gt ts mm)[pl]? = some c) (rs.length - 1)
        ⟨rfl, b, _, n, none, by omega, hlast, hbS, rfl, by have : whole ts = gt ts (rs.length - 1) := by unfold whole; rw [htl]
                                                           rw [← this]; exact hc⟩ ?_
      rintro mm σ' F' M' H' hF hs' ⟨rfl, b, r, pl, w, hmm, hrr, hbS, rfl, hpl⟩
      have hpl2 := (List.getElem?_eq_some_iff.mp hpl).1
      obtain ⟨hk1, hk2, hk3⟩ := hO.tab.ok mm r hrr
      have hgt : gt ts mm = ruT ts r := gt_at hk2
      by_cases hwri : ∃ w, r = .wri w
      · obtain ⟨wt, rfl⟩ := hwri
        have : FzT K F b [.str "letters", .str (S wt)] := ⟨hbS⟩
        walk_at "py"
        refine whN ?_
        walk_at "py"
        have hwt : gt ts mm = wt := hgt
        rw [hwt] at hpl
        have hk : wt.length ≤ 64 := hk1.1
        exact nIxTx (by omega) hpl (k1 n c F' H' rfl hc hF.h hs')
      · have hnw : ∀ w, r ≠ .wri w := fun w e => hwri ⟨w, e⟩
        have hin := inP_ok hk1 hnw (p := pl) (by rw [← hgt]; exact hpl2)
        have go : ∀ (σ2 : L2.St) , True := fun _ => trivial
        have body : ∀ (Nx : L2.St → Hp → Prop), True := fun _ => trivial
        have fin : ∀ t F2 H2, Same F' F2 → Hs F2 M' H2 → FzT K F2 t [.int ((inP ts r pl).1 : Int), .int ((inP ts r pl).2 : Int)] → True := fun _ _ _ _ _ _ => trivial
        have hwd : ∃ z : Str, (ruV r)[0]? = some (.str z) ∧ decide (z = ("letters" : Str)) = false := by
          cases r with
          | wri w => exact absurd rfl (hnw w)
          | join i j => exact ⟨_, rfl, Wd.h (r := false)⟩
          | power i j => exact ⟨_, rfl, Wd.h (r := false)⟩
          | part i j k => exact ⟨_, rfl, Wd.h (r := false)⟩
          | back i => exact ⟨_, rfl, Wd.h (r := false)⟩
        obtain ⟨z, hz0, hz⟩ := hwd
        have hbT : FzT K F b (ruV r) := ⟨hbS⟩
        have : At (ruV r) 0 (.str z) := atN (n := 0) hz0
        have : Wd z "letters" false := ⟨hz⟩
        walk_at "py"
        refine whY ?_
        walk_at "py"
        refine ⟨F', _, b, tq, r, ts, mm, pl, hs', rfl, same_t hF.h hbS, same_t hF.h h4, hk1, by omega, hO.tab.le, hnw, by rw [← hgt]; exact hpl2, fun t F2 H2 e2 hs2 hTt => ?_⟩
        have hF2 : Sm F' F2 := ⟨e2⟩
        walk_at "py"
        obtain ⟨b', hb', hbS'⟩ := dp_rus h3 (List.getElem?_eq_getElem (l := rs) (i := (inP ts r pl).1) (by omega))
        refine nIxT (atI_nat hb') ?_
        walk_at "py"
        exact WvH.mk (m' := (inP ts r pl).1) hin.1 (hF.h.trans e2) hs2 ⟨rfl, b', _, _, _, by omega, List.getElem?_eq_getElem (by omega), hbS', rfl, by rw [← hin.2.2, ← hgt]; exact hpl⟩
  · walk_at "py"
    exact bad (by omega)
end
end Sh


set_option Elab.async false
set_option linter.all false
set_option maxRecDepth 100000
set_option maxHeartbeats 4000000
namespace Sh
open PySem PySem.Spec PyProof.Rows L2
/-! the steps, by themselves as far as nothing is to be decided -/
set_option synthInstance.maxSize 4096
set_option synthInstance.maxHeartbeats 400000
local macro_rules | `(tactic| walk_at "sm") => `(tactic| first | assumption | exact Same.refl _ | exact Sm.h | (refine Same.trans ?_ Sm.h; walk_at "sm"))
local macro_rules | `(tactic| walk_at "py1") => `(tactic| first
  | refine go ?_
  | (with_reducible refine py_mulL (by omega) (by omega) ?_) | (with_reducible refine py_mulR (by omega) (by omega) ?_) | (with_reducible refine py_divI (by omega) (by omega) ?_) | (with_reducible refine py_modI (by omega) ?_)
  | (with_reducible refine nSet_mk ?_; intro _ _) | (with_reducible refine nTupF (by simp) ?_; intro _ _ _ _ _ _ _ _) | (with_reducible refine nLstO (by simp) ?_; intro _ _ _ _)
  | (with_reducible refine nRng1_mk (by omega) (by omega) ?_) | (with_reducible refine nRng2_mk (by omega) (by omega) (by omega) (by omega) ?_))
local macro_rules | `(tactic| walk_at "py") => `(tactic| repeat (walk_at "py1"))
def N_inner_parts : List Str := ["rule", "lengths", "start", "stop", "word", "inner", "many", "found", "number", "first"]
theorem st_inner_parts {v0 v1 v2 v3 : V} : start N_inner_parts [v0, v1, v2, v3] = [some v0, some v1, some v2, some v3, none, none, none, none, none, none] := rfl
def t_inner_parts (K : PySem.W.Frag) : TS := (tSeq (tAsg (tOp (rIx K) (tVar 0) (tC (.int 0))) (gName 4)) (tSeq (tAsg (tOp (rIx K) (tVar 0) (tC (.int 1))) (gName 5)) (tSeq (tAsg (tOp (rIx K) (tVar 1) (tVar 5)) (gName 6)) (tSeq (tIfS (tTest (tOp rEq (tVar 4) (tC (.str "part")))) (tRet (tLst (tCons (tTup (tCons (tVar 5) (tCons (tOp rAddI (tVar 2) (tOp (rIx K) (tVar 0) (tC (.int 2)))) (tCons (tOp rAddI (tVar 3) (tOp (rIx K) (tVar 0) (tC (.int 2)))) (tCons (tC (.bl false)) tNil))))) tNil))) tNext) (tSeq (tIfS (tTest (tOp rEq (tVar 4) (tC (.str "back")))) (tRet (tLst (tCons (tTup (tCons (tVar 5) (tCons (tOp rSubI (tVar 6) (tVar 3)) (tCons (tOp rSubI (tVar 6) (tVar 2)) (tCons (tC (.bl true)) tNil))))) tNil))) tNext) (tSeq (tIfS (tTest (tOp rEq (tVar 4) (tC (.str "power")))) (tSeq (tAsg (tLst tNil) (gName 7)) (tSeq (tFor (iRng2 (tCons (tOp rDivI (tVar 2) (tVar 6)) (tCons (tOp rAddI (tOp rDivI (tOp rSubI (tVar 3) (tC (.int 1))) (tVar 6)) (tC (.int 1))) tNil))) (gName 8) (tSeq (tAsg (tOp rMulI (tVar 8) (tVar 6)) (gName 9)) (tDrop (tBM K "list" rAppend (tVar 7) (tCons (tTup (tCons (tVar 5) (tCons (tCB rMax2 (tCons (tOp rSubI (tVar 2) (tVar 9)) (tCons (tC (.int 0)) tNil))) (tCons (tCB rMin2 (tCons (tOp rSubI (tVar 3) (tVar 9)) (tCons (tVar 6) tNil))) (tCons (tC (.bl false)) tNil))))) tNil))))) (tRet (tVar 7)))) tNext) (tSeq (tAsg (tLst tNil) (gName 7)) (tSeq (tIfS (tTest (tOp rLtI (tVar 2) (tVar 6))) (tDrop (tBM K "list" rAppend (tVar 7) (tCons (tTup (tCons (tVar 5) (tCons (tVar 2) (tCons (tCB rMin2 (tCons (tVar 3) (tCons (tVar 6) tNil))) (tCons (tC (.bl false)) tNil))))) tNil))) tNext) (tSeq (tIfS (tTest (tOp rGtI (tVar 3) (tVar 6))) (tDrop (tBM K "list" rAppend (tVar 7) (tCons (tTup (tCons (tOp (rIx K) (tVar 0) (tC (.int 2))) (tCons (tCB rMax2 (tCons (tOp rSubI (tVar 2) (tVar 6)) (tCons (tC (.int 0)) tNil))) (tCons (tOp rSubI (tVar 3) (tVar 6)) (tCons (tC (.bl false)) tNil))))) tNil))) tNext) (tRet (tVar 7)))))))))))
def N_Text_letters : List Str := ["self", "start", "stop", "found", "waiting", "number", "first", "last", "is_turned", "rule", "letters", "parts", "inner", "low", "high", "turns"]
theorem st_Text_letters {v0 v1 v2 : V} : start N_Text_letters [v0, v1, v2] = [some v0, some v1, some v2, none, none, none, none, none, none, none, none, none, none, none, none, none] := rfl
def t_Text_letters (K : PySem.W.Frag) (sp_Text_check_part : Sp) (sp_inner_parts : Sp) (E : XK) : TS := (tSeq (tDrop (tMethE (He.ga K "Text") "check_part" sp_Text_check_part (fun _ => E) (tVar 0) (tCons (tVar 1) (tCons (tVar 2) tNil)))) (tSeq (tIfS (tTest (tOp rGtI (tOp rSubI (tVar 2) (tVar 1)) (tC (.int 1000)))) (tRaiseC (He.ga K "TooLong") E) tNext) (tSeq (tAsg (tLst tNil) (gName 3)) (tSeq (tAsg (tLst (tCons (tTup (tCons (tOp rSubI (tCB (rLn K) (tCons (tFld K (tVar 0) "rules") tNil)) (tC (.int 1))) (tCons (tVar 1) (tCons (tVar 2) (tCons (tC (.bl false)) tNil))))) tNil)) (gName 4)) (tSeq (tWhile (tTru K (tVar 4)) (tSeq (tAsg (tBM0 K "list" rPop (tVar 4)) (gTup K 4 (gCons (gName 5) (gCons (gName 6) (gCons (gName 7) (gCons (gName 8) gNil)))))) (tSeq (tAsg (tOp (rIx K) (tFld K (tVar 0) "rules") (tVar 5)) (gName 9)) (tIfS (tAnd (tTest (tOp rLtI (tVar 6) (tVar 7))) (tTest (tOp rEq (tOp (rIx K) (tVar 9) (tC (.int 0))) (tC (.str "letters"))))) (tSeq (tAsg (tSl rSlS (tOp (rIx K) (tVar 9) (tC (.int 1))) (tPart (tVar 6)) (tPart (tVar 7))) (gName 10)) (tDrop (tBM K "list" rAppend (tVar 3) (tCons (tIf (tTru K (tVar 8)) (tRevS K (tVar 10)) (tVar 10)) tNil)))) (tIfS (tTest (tOp rLtI (tVar 6) (tVar 7))) (tSeq (tAsg (tCall sp_inner_parts [] E0 (tCons (tVar 9) (tCons (tFld K (tVar 0) "lengths") (tCons (tVar 6) (tCons (tVar 7) tNil))))) (gName 11)) (tSeq (tIfS (tNot (tTru K (tVar 8))) (tDrop (tBM0 K "list" rReverse (tVar 11))) tNext) (tFor (iList K (tVar 11)) (gTup K 4 (gCons (gName 12) (gCons (gName 13) (gCons (gName 14) (gCons (gName 15) gNil))))) (tDrop (tBM K "list" rAppend (tVar 4) (tCons (tTup (tCons (tVar 12) (tCons (tVar 13) (tCons (tVar 14) (tCons (tOp rNe (tVar 15) (tVar 8)) tNil))))) tNil)))))) tNext))))) (tRet (tJoin K (tC (.str "")) (tVar 3))))))))
open SX (S)
section
variable (K : PySem.W.Frag)
def sp_inner_parts : Sp := fun vs H Q _ => ∃ (F : Hp) (M : Ow) (a q : Addr) (r : Ru) (ts : List Tx) (n x y : Nat), Hs F M H ∧ vs = [.ref a, .ref q, .int (x : Int), .int (y : Int)] ∧ SqT K F a (ruV r) ∧ SqT K F q (lens ts) ∧ RuK n ts r ∧ n ≤ ts.length ∧ (∀ i, (gt ts i).length ≤ 1000000000000) ∧
  (∀ w, r ≠ .wri w) ∧ x < y ∧ y ≤ (ruT ts r).length ∧ y - x ≤ 1000 ∧
  ∀ p pv (ps : List Pt) F' H', F p = none → Same F F' → Hs F' ((p, HO.lst pv) :: M) H' → DpAll K F' pv (ps.map ptD) → (∀ z ∈ ps, PtK n ts z) → ptsT ts ps = cut (ruT ts r) x y → Q (.ref p) H'
def sp_Text_letters : Sp := fun vs H Q E => ∃ (F : Hp) (M : Ow) (a : Addr) (rs : List Ru) (ts : List Tx) (p q : Int), Hs F M H ∧ vs = [.ref a, .int p, .int q] ∧ TxO K F a rs ts ∧
  (∀ (x y : Nat) F' H', p = (x : Int) → q = (y : Int) → x ≤ y → y ≤ (whole ts).length → y - x ≤ 1000 → Same F F' → Hs F' M H' → Q (.str (S (cut (whole ts) x y))) H') ∧
  (0 ≤ p → p ≤ q → q ≤ ((whole ts).length : Int) → 1000 < q - p → E (.ref (He.ga K "TooLong")) none H) ∧
  (¬ (0 ≤ p ∧ p ≤ q ∧ q ≤ ((whole ts).length : Int)) → ∀ d F' H', Same F F' → Hs F' M H' → Fz F' d (.xd [("stop", .int q), ("start", .int p)]) → E (.ref (He.ga K "NoPart")) (some d) H')
end
section
variable {K : PySem.W.Frag}
theorem pts_le {n : Nat} {ts : List Tx} {ps : List Pt} {t : Tx} (h : ∀ z ∈ ps, PtK n ts z) (e : ptsT ts ps = t) : ps.length ≤ t.length ∧ ptL ps = t.length := by
  have h1 := ptL_len h
  rw [e] at h1
  have h2 := (ptM_le h).2
  omega
theorem pure_inner_parts (vs : List V) (H : Hp) (Q : VK) (E : XK) (h : sp_inner_parts K vs H Q E) : t_inner_parts K { nx := fun _ H' => Q .non H', rt := Q } (start N_inner_parts vs) H := by
  obtain ⟨F, M, a, q, r, ts, n, x, y, hs, rfl, hr, hq, hk, hn, hl, hw, hxy, hy, hxl, k⟩ := h
  have : FzT K F q (lens ts) := ⟨hq⟩
  unfold t_inner_parts
  rw [st_inner_parts]
  cases r with
  | wri w => exact absurd rfl (hw w)
  | join i j =>
    have : FzT K F a [.str "join", .int (i : Int), .int (j : Int)] := ⟨hr⟩
    obtain ⟨h1, h2⟩ := hk
    have hy' : y ≤ (gt ts i).length + (gt ts j).length := by rw [← List.length_append]; exact hy
    have hc : cut (ruT ts (.join i j)) x y = cut (gt ts i) x (min y (gt ts i).length) ++ cut (gt ts j) (x - (gt ts i).length) (y - (gt ts i).length) := cut_append (by omega)
    rw [hc] at k
    walk_at "py"
    refine nIxT (lens_atT h1 hn) ?_
    walk_at "py"
    rename_i p H1 hp hs1
    refine ifP (fun c1 => ?_) (fun c1 => ?_)
    · walk_at "py"
      refine py_min2 (m := ((min y (gt ts i).length : Nat) : Int)) (by split <;> omega) ?_
      walk_at "py"
      rename_i t1 F2 H2 ht1 hF2 hs2 hT1 hz1
      refine nAppend (xs := []) (by simp) fun H3 hs3 => ?_
      simp only [List.nil_append] at hs3
      walk_at "py"
      refine ifP (fun c2 => ?_) (fun c2 => ?_)
      · walk_at "py"
        refine py_max2 (m := ((x - (gt ts i).length : Nat) : Int)) (by split <;> omega) ?_
        walk_at "py"
        rename_i t2 F4 H4 ht2 hF4 hs4 hT2 hz2
        refine nAppend (xs := [.ref t1]) (by simp) fun H5 hs5 => ?_
        simp only [List.cons_append, List.nil_append] at hs5
        walk_at "py"
        have e2 : (y : Int) - ((gt ts i).length : Int) = ((y - (gt ts i).length : Nat) : Int) := by omega
        rw [e2] at hT2
        refine k p _ [(i, x, min y (gt ts i).length, false), (j, x - (gt ts i).length, y - (gt ts i).length, false)] F4 H5 hp (hF2.h.trans hF4.h) hs5 (.cons (dp_ptI (same_t hF4.h (hT1 K).h)) (.cons (dp_ptI (hT2 K).h) .nil)) ?_ (by simp [ptsT, ptT])
        intro z hz
        simp only [List.mem_cons, List.not_mem_nil, or_false] at hz
        rcases hz with rfl | rfl
        · exact ⟨h1, by show x < min y (gt ts i).length; omega, Nat.min_le_right _ _⟩
        · exact ⟨h2, by show x - (gt ts i).length < y - (gt ts i).length; omega, by show y - (gt ts i).length ≤ (gt ts j).length; omega⟩
      · walk_at "py"
        refine k p _ [(i, x, min y (gt ts i).length, false)] F2 H3 hp hF2.h hs3 (.cons (dp_ptI (hT1 K).h) .nil) ?_ (by rw [cut_nil (x := gt ts j) (by omega)]; simp [ptsT, ptT])
        intro z hz
        simp only [List.mem_cons, List.not_mem_nil, or_false] at hz
        subst hz
        exact ⟨h1, by show x < min y (gt ts i).length; omega, Nat.min_le_right _ _⟩
    · walk_at "py"
      refine ifPT (by omega) ?_
      walk_at "py"
      refine py_max2 (m := ((x - (gt ts i).length : Nat) : Int)) (by split <;> omega) ?_
      walk_at "py"
      rename_i t2 F4 H4 ht2 hF4 hs4 hT2 hz2
      refine nAppend (xs := []) (by simp) fun H5 hs5 => ?_
      simp only [List.nil_append] at hs5
      walk_at "py"
      have e2 : (y : Int) - ((gt ts i).length : Int) = ((y - (gt ts i).length : Nat) : Int) := by omega
      rw [e2] at hT2
      refine k p _ [(j, x - (gt ts i).length, y - (gt ts i).length, false)] F4 H5 hp hF4.h hs5 (.cons (dp_ptI (hT2 K).h) .nil) ?_ (by rw [cut_nil (x := gt ts i) (by omega)]; simp [ptsT, ptT])
      intro z hz
      simp only [List.mem_cons, List.not_mem_nil, or_false] at hz
      subst hz
      exact ⟨h2, by show x - (gt ts i).length < y - (gt ts i).length; omega, by show y - (gt ts i).length ≤ (gt ts j).length; omega⟩
  | power i t =>
    have : FzT K F a [.str "power", .int (i : Int), .int (t : Int)] := ⟨hr⟩
    obtain ⟨h1, h2⟩ := hk
    have hli := hl i
    have hy' : y ≤ t * (gt ts i).length := by rw [← rep_len]; exact hy
    have hpos : 0 < (gt ts i).length := by
      rcases Nat.eq_zero_or_pos (gt ts i).length with z | z
      · rw [z, Nat.mul_zero] at hy'; omega
      · exact z
    have hx1 : x ≤ 1000000000000000000000000 := by
      have : t * (gt ts i).length ≤ 1000000000000 * 1000000000000 := Nat.mul_le_mul h2 hli
      omega
    generalize hL : (gt ts i).length = L at *
    have hdx : x / L ≤ 1000000000000 := by
      have : x / L ≤ t * L / L := Nat.div_le_div_right (by omega)
      rw [Nat.mul_div_cancel _ hpos] at this
      omega
    have hdy : (y - 1) / L < t := Nat.div_lt_of_lt_mul (by rw [Nat.mul_comm]; omega)
    have hdd : x / L ≤ (y - 1) / L := Nat.div_le_div_right (by omega)
    have ex : (x : Int) / (L : Int) = ((x / L : Nat) : Int) := (Int.natCast_ediv x L).symm
    have ey : ((y : Int) - 1) / (L : Int) = (((y - 1) / L : Nat) : Int) := by rw [show (y : Int) - 1 = ((y - 1 : Nat) : Int) by omega]; exact (Int.natCast_ediv (y - 1) L).symm
    have hlx : x / L * L ≤ x := Nat.div_mul_le_self x L
    have hly : y ≤ ((y - 1) / L + 1) * L := by
      have := Nat.lt_div_mul_add (a := y - 1) hpos
      rw [Nat.add_mul, Nat.one_mul]; omega
    have hlx2 : x < x / L * L + L := Nat.lt_div_mul_add hpos
    have hly2 : (y - 1) / L * L ≤ y - 1 := Nat.div_mul_le_self _ _
    have hAl : x / L ≤ x / L := Nat.le_refl _
    have hstep : ∀ k, k < t → x / L ≤ k → k * L < y → cut (List.replicate t (gt ts i)).flatten x (min y (k * L)) ++ cut (gt ts i) (x - k * L) (min (y - k * L) L) = cut (List.replicate t (gt ts i)).flatten x (min y ((k + 1) * L)) := by
      intro k a1 a2 a3
      have := rep_step (x := gt ts i) (t := t) (k := k) (a := x) (b := y) a1 (by rw [hL]; exact a2) (by rw [hL]; exact a3) (by rw [hL]; exact hy') hxy (by rw [hL]; exact hpos)
      rw [hL] at this
      exact this
    clear hAl
    generalize x / L = A at *
    generalize (y - 1) / L = B at *
    walk_at "py"
    refine nIxT (lens_atT h1 hn) ?_
    rw [hL]
    walk_at "py"
    rename_i p H1 hp hs1
    rw [ex, ey]
    walk_at "py"
    rw [show ((B : Int) + 1 - (A : Int)).toNat = B + 1 - A by omega]
    refine nLoopR (fun m σ' F' M' => ∃ (pv : List V) (ps : List Pt) (w1 w2 : Option V), M' = (p, HO.lst pv) :: M ∧ σ' = [some (.ref a), some (.ref q), some (.int (x : Int)), some (.int (y : Int)), some (.str "power"), some (.int (i : Int)), some (.int (L : Int)), some (.ref p), w1, w2] ∧
        DpAll K F' pv (ps.map ptD) ∧ (∀ z ∈ ps, PtK n ts z) ∧ ptsT ts ps = cut (List.replicate t (gt ts i)).flatten x (min y ((A + m) * L)))
      ⟨[], [], none, none, rfl, rfl, .nil, by simp, by rw [Nat.add_zero, cut_nil (by omega)]; rfl⟩ ?_ ?_
    · rintro m σ' F' M' H' hm hF hs' ⟨pv, ps, w1, w2, rfl, rfl, hd, hk, he⟩
      have hkm : A + m < t := by omega
      have hkL : (A + m) * L ≤ B * L := Nat.mul_le_mul_right _ (by omega)
      have hAm : A * L ≤ (A + m) * L := Nat.mul_le_mul_right _ (by omega)
      have hkLe : (((A : Int) + (m : Int)) * (L : Int)) = (((A + m) * L : Nat) : Int) := by rw [Int.natCast_mul, Int.natCast_add]
      have hcl := pts_le hk he
      have hcl2 : (cut (List.replicate t (gt ts i)).flatten x (min y ((A + m) * L))).length ≤ y - x := by
        rw [cut_len' (by rw [rep_len, hL]; omega)]; omega
      have hpl := dpa_len hd
      rw [List.length_map] at hpl
      have hnew := hstep (A + m) hkm (by omega) (by omega)
      rw [show (A + (m + 1)) = A + m + 1 by omega]
      generalize (A + m + 1) * L = KL2 at *
      generalize (A + m) * L = KL at *
      walk_at "py"
      rw [hkLe]
      walk_at "py"
      refine py_max2 (m := ((x - KL : Nat) : Int)) (by split <;> omega) ?_
      walk_at "py"
      refine py_min2 (m := ((min (y - KL) L : Nat) : Int)) (by split <;> omega) ?_
      walk_at "py"
      rename_i t2 F4 H4 ht2 hF4 hs4 hT2 hz2
      refine nAppend (by omega) fun H5 hs5 => ?_
      refine .mk (hF.h.trans hF4.h) hs5 ⟨_, ps ++ [(i, x - KL, min (y - KL) L, false)], _, _, rfl, rfl, ?_, ?_, ?_⟩
      · rw [List.map_append]
        exact dpa_app (dpa_mono hF4.h hd) (.cons (dp_ptI (hT2 K).h) .nil)
      · intro z hz
        rcases List.mem_append.mp hz with hz | hz
        · exact hk z hz
        · rw [List.mem_singleton.mp hz]
          exact ⟨h1, by show x - KL < min (y - KL) L; omega, by show min (y - KL) L ≤ (gt ts i).length; rw [hL]; omega⟩
      · rw [ptsT_app, ptsT_one, he]
        exact hnew
    · rintro σ' F' M' H' hF hs' ⟨pv, ps, w1, w2, rfl, rfl, hd, hk, he⟩
      walk_at "py"
      refine k p pv ps F' H' hp hF.h hs' hd hk ?_
      rw [he]
      show _ = cut (List.replicate t (gt ts i)).flatten x y
      congr 1
      rw [show A + (B + 1 - A) = B + 1 by omega]
      omega
  | part i b c =>
    have : FzT K F a [.str "part", .int (i : Int), .int (b : Int), .int (c : Int)] := ⟨hr⟩
    obtain ⟨h1, h2, h3⟩ := hk
    have hy' : y ≤ c - b := by rw [← cut_len h3]; exact hy
    walk_at "py"
    refine nIxT (lens_atT h1 hn) ?_
    walk_at "py"
    rename_i t1 F2 H2 ht1 hF2 hs2 hT1 hz1 p H3 hp hs3
    have e1 : (x : Int) + (b : Int) = ((x + b : Nat) : Int) := by omega
    have e2 : (y : Int) + (b : Int) = ((y + b : Nat) : Int) := by omega
    rw [e1, e2] at hT1
    refine k p _ [(i, x + b, y + b, false)] F2 H3 (hF2.h.free hp) hF2.h hs3 (.cons (dp_ptI (hT1 K).h) .nil) ?_ ?_
    · intro z hz
      simp only [List.mem_cons, List.not_mem_nil, or_false] at hz
      subst hz
      exact ⟨h1, by show x + b < y + b; omega, by show y + b ≤ (gt ts i).length; omega⟩
    · show ptsT ts [(i, x + b, y + b, false)] = cut (cut (gt ts i) b c) x y
      rw [cut_cut (by omega), ptsT_one, Nat.add_comm b x, Nat.add_comm b y]
      rfl
  | back i =>
    have : FzT K F a [.str "back", .int (i : Int)] := ⟨hr⟩
    have h1 : i < n := hk
    have hy' : y ≤ (gt ts i).length := by rw [← List.length_reverse]; exact hy
    walk_at "py"
    refine nIxT (lens_atT h1 hn) ?_
    walk_at "py"
    rename_i t1 F2 H2 ht1 hF2 hs2 hT1 hz1 p H3 hp hs3
    have e1 : ((gt ts i).length : Int) - (x : Int) = (((gt ts i).length - x : Nat) : Int) := by omega
    have e2 : ((gt ts i).length : Int) - (y : Int) = (((gt ts i).length - y : Nat) : Int) := by omega
    rw [e1, e2] at hT1
    refine k p _ [(i, (gt ts i).length - y, (gt ts i).length - x, true)] F2 H3 (hF2.h.free hp) hF2.h hs3 (.cons (dp_ptI (hT1 K).h) .nil) ?_ ?_
    · intro z hz
      simp only [List.mem_cons, List.not_mem_nil, or_false] at hz
      subst hz
      exact ⟨h1, by show (gt ts i).length - y < (gt ts i).length - x; omega, Nat.sub_le _ _⟩
    · show ptsT ts [(i, (gt ts i).length - y, (gt ts i).length - x, true)] = cut (gt ts i).reverse x y
      rw [cut_rev hy', ptsT_one]
      rfl
end
/-- the flag of a part of a part -/
def adj (d : Bool) (p : Pt) : Pt := (p.1, p.2.1, p.2.2.1, !decide (p.2.2.2 = d))
theorem adj_true : adj true = flip := rfl
theorem adj_false {p : Pt} : adj false p = p := by
  obtain ⟨a, b, c, d⟩ := p
  cases d <;> rfl
theorem adj_K {n : Nat} {ts : List Tx} {d : Bool} {p : Pt} (h : PtK n ts p) : PtK n ts (adj d p) := h
theorem ptM_map {d : Bool} {ps : List Pt} : ptM (ps.map (adj d)) = ptM ps ∧ ptL (ps.map (adj d)) = ptL ps := by
  constructor
  · simp only [ptM, List.map_map]; rfl
  · simp only [ptL, List.map_map]; rfl
/-- what is pushed for a part's parts -/
def push (d : Bool) (ps : List Pt) : List Pt := (if d = true then ps else ps.reverse).map (adj d)
theorem push_M {d : Bool} {ps : List Pt} : ptM (push d ps) = ptM ps ∧ ptL (push d ps) = ptL ps ∧ (push d ps).length = ps.length := by
  unfold push
  rw [ptM_map.1, ptM_map.2]
  cases d with
  | true => simp
  | false =>
    rw [if_neg Bool.false_ne_true]
    exact ⟨ptM_rev.1, ptM_rev.2, by simp⟩
theorem push_T {ts : List Tx} {d : Bool} {ps : List Pt} : ptsT ts (push d ps).reverse = if d = true then (ptsT ts ps).reverse else ptsT ts ps := by
  unfold push
  cases d with
  | true =>
    rw [if_pos rfl, if_pos rfl, adj_true]
    exact ptsT_turn
  | false =>
    rw [if_neg Bool.false_ne_true, if_neg Bool.false_ne_true]
    rw [show (adj false) = id from funext fun p => adj_false, List.map_id, List.reverse_reverse]
theorem push_mem {n : Nat} {ts : List Tx} {d : Bool} {ps : List Pt} (h : ∀ z ∈ ps, PtK n ts z) : ∀ z ∈ push d ps, PtK n ts z := by
  intro z hz
  obtain ⟨w, hw, rfl⟩ := List.mem_map.mp hz
  refine adj_K (h w ?_)
  cases d with
  | true => exact hw
  | false => exact List.mem_reverse.mp hw
theorem snoc_one {ps : List Pt} {a b : Pt} (h : ps ++ [a] = [b]) : ps = [] ∧ a = b := by
  cases ps with
  | nil => exact ⟨rfl, by simpa using h⟩
  | cons c ps => simp at h
theorem flat_len : ∀ {fs : List Tx}, (∀ f ∈ fs, f ≠ []) → fs.length ≤ fs.flatten.length
  | [], _ => Nat.zero_le _
  | f :: fs, h => by
    have h1 := flat_len (fs := fs) fun g hg => h g (List.mem_cons_of_mem _ hg)
    have h2 : 1 ≤ f.length := by
      have := h f (List.mem_cons_self ..)
      cases f with
      | nil => exact absurd rfl this
      | cons a f => simp
    rw [List.flatten_cons, List.length_append, List.length_cons]; omega
section
variable {K : PySem.W.Frag}
def txV (t : Tx) : V := .str (S t)
theorem pure_Text_letters [ClsF K (He.ga K "Text") ns_Text] (vs : List V) (H : Hp) (Q : VK) (E : XK) (h : sp_Text_letters K vs H Q E) : t_Text_letters K (sp_Text_check_part K) (sp_inner_parts K) E { nx := fun _ H' => Q .non H', rt := Q } (start N_Text_letters vs) H := by
  obtain ⟨F, M, a, rs, ts, p, q, hs, rfl, hO, k1, k2, k3⟩ := h
  obtain ⟨dx, tp, tq, vr, ho, h2, h3, h4⟩ := hO.ob
  have hob : Fz F a (Ob (He.ga K "Text") dx ns_Text [.ref tp, .ref tq, .int ((whole ts).length : Int)]) := ⟨ho⟩
  have hr : FzT K F tp vr := ⟨h2⟩
  have hq : FzT K F tq (lens ts) := ⟨h4⟩
  have hne := hO.ne
  have htl := hO.tab.ln
  have hvl := dpa_len h3
  rw [List.length_map] at hvl
  unfold t_Text_letters
  rw [st_Text_letters]
  walk_at "py"
  refine ⟨F, M, a, rs, ts, p, q, hs, rfl, hO, fun c1 c2 c3 => ?_, k3⟩
  walk_at "py"
  refine ifP (fun c4 => ?_) (fun c4 => ?_)
  · walk_at "py"
    exact k2 c1 c2 c3 (by omega)
  obtain ⟨x, rfl⟩ : ∃ n : Nat, p = (n : Int) := ⟨p.toNat, by omega⟩
  obtain ⟨y, rfl⟩ : ∃ n : Nat, q = (n : Int) := ⟨q.toNat, by omega⟩
  have hxy : x ≤ y := by omega
  have hyl : y ≤ (whole ts).length := by omega
  have hx1 : y - x ≤ 1000 := by omega
  walk_at "py"
  rename_i fo H1 hfo hs1 t0 F2 H2 ht0 hF2 hs2 hT0 hz0 wa H3 hwa hs3
  rw [show (vr.length : Int) - 1 = ((ts.length - 1 : Nat) : Int) by omega] at hT0
  have htgt : (cut (whole ts) x y).length = y - x := cut_len' hyl
  refine whileI (fun mm σ' F' M' => ∃ (fs : List Tx) (wv : List V) (ps : List Pt) (w5 w6 w7 w8 w9 w10 w11 w12 w13 w14 w15 : Option V), M' = (wa, HO.lst wv) :: (fo, HO.lst (fs.map txV)) :: M ∧
      σ' = [some (.ref a), some (.int (x : Int)), some (.int (y : Int)), some (.ref fo), some (.ref wa), w5, w6, w7, w8, w9, w10, w11, w12, w13, w14, w15] ∧
      DpAll K F' wv (ps.map ptD) ∧ ((∀ z ∈ ps, PtK ts.length ts z) ∨ ps = [(ts.length - 1, x, x, false)]) ∧ fs.flatten ++ ptsT ts ps.reverse = cut (whole ts) x y ∧ (∀ f ∈ fs, f ≠ []) ∧ mm = ptM ps)
    (ptM [(ts.length - 1, x, y, false)])
    ⟨[], [.ref t0], [(ts.length - 1, x, y, false)], _, _, _, _, _, _, _, _, _, _, _, rfl, rfl, .cons (dp_ptI (hT0 K).h) .nil, ?_, ?_, by simp, rfl⟩ ?_
  · by_cases hc : x < y
    · left
      intro z hz
      rw [List.mem_singleton.mp hz]
      exact ⟨by show ts.length - 1 < ts.length; omega, hc, hyl⟩
    · right
      rw [show y = x by omega]
  · show [] ++ ptsT ts [(ts.length - 1, x, y, false)] = _
    rw [ptsT_one]; rfl
  rintro mm σ' F' M' H' hF hs' ⟨fs, wv, ps, w5, w6, w7, w8, w9, w10, w11, w12, w13, w14, w15, rfl, rfl, hd, hK, he, hf, rfl⟩
  have hfl := flat_len hf
  have htot := congrArg List.length he
  rw [List.length_append, htgt] at htot
  rcases List.eq_nil_or_concat ps with rfl | ⟨ps', pt, rfl⟩
  · cases hd
    walk_at "py"
    refine whN ?_
    walk_at "py"
    have he2 : fs.flatten = cut (whole ts) x y := by rw [← he]; simp [ptsT]
    rw [empty_eq]
    walk_at "py"
    refine nJoinO (ys := fs) rfl (by rw [he2, htgt]; omega) ?_
    rw [he2]
    exact k1 x y F' H' rfl rfl hxy hyl hx1 (hF2.h.trans hF.h) ((hs'.drop 0).drop 0)
  · rw [List.concat_eq_append] at hd hK he htot ⊢
    rw [List.map_append] at hd
    obtain ⟨wv', v, rfl, hd', hv⟩ := dpa_snoc hd
    obtain ⟨tb, rfl, htb⟩ := dp_pt hv
    obtain ⟨num, lo, hi, trn⟩ := pt
    have hFT : FzT K F' tb [.int (num : Int), .int (lo : Int), .int (hi : Int), .bl trn] := ⟨htb⟩
    rw [List.reverse_append] at he htot
    have hnum : num < ts.length := by
      rcases hK with hK | hK
      · exact (hK _ (List.mem_append_right _ (List.mem_singleton.mpr rfl))).1
      · obtain ⟨-, h⟩ := snoc_one hK
        cases h; omega
    obtain ⟨r, hrr⟩ : ∃ r, rs[num]? = some r := ⟨_, List.getElem?_eq_getElem (by omega)⟩
    obtain ⟨b, hb, hbS⟩ := dp_rus h3 hrr
    obtain ⟨hk1, hk2, hk3⟩ := hO.tab.ok num r hrr
    have hgt : gt ts num = ruT ts r := gt_at hk2
    have hbT : FzT K F b (ruV r) := ⟨hbS⟩
    walk_at "py"
    refine whY ?_
    walk_at "py"
    refine nPop fun H4 hs4 => ?_
    walk_at "py"
    refine nIxT (atI_nat hb) ?_
    walk_at "py"
    have hpp : ptM (ps' ++ [(num, lo, hi, trn)]) = ptM ps' + (2 * (hi - lo) * (num + 1) + 1) := by rw [ptM_app]; simp [ptM]
    refine ifP (fun c => ?_) (fun c => ?_)
    · have hcase : (∀ z ∈ ps' ++ [(num, lo, hi, trn)], PtK ts.length ts z) := by
        rcases hK with hK | hK
        · exact hK
        · obtain ⟨-, h⟩ := snoc_one hK
          cases h; omega
      have hps' : ∀ z ∈ ps', PtK ts.length ts z := fun z hz => hcase z (List.mem_append_left _ hz)
      obtain ⟨g1, g2, g3⟩ := hcase _ (List.mem_append_right _ (List.mem_singleton.mpr rfl))
      have g2 : lo < hi := g2
      have g3 : hi ≤ (gt ts num).length := g3
      have hll := ptL_len (ts := ts) (n := ts.length) (ps := [(num, lo, hi, trn)] ++ ps'.reverse) (by
        intro z hz
        rcases List.mem_append.mp hz with hz | hz
        · exact hcase z (List.mem_append_right _ hz)
        · exact hps' z (List.mem_reverse.mp hz))
      have hll2 : ptL ([(num, lo, hi, trn)] ++ ps'.reverse) = (hi - lo) + ptL ps' := by rw [ptL_app, ptM_rev.2]; simp [ptL]
      have e0 : [(num, lo, hi, trn)].reverse ++ ps'.reverse = [(num, lo, hi, trn)] ++ ps'.reverse := rfl
      rw [e0] at he htot
      rw [hll, hll2] at htot
      rw [ptsT_app, ptsT_one] at he
      have hpl := (ptM_le hps').2
      have hwl := dpa_len hd'
      rw [List.length_map] at hwl
      by_cases hwri : ∃ w, r = .wri w
      · obtain ⟨wt, rfl⟩ := hwri
        have : FzT K F b [.str "letters", .str (S wt)] := ⟨hbS⟩
        have hwt : gt ts num = wt := hgt
        have hk : wt.length ≤ 64 := hk1.1
        rw [hwt] at g3
        walk_at "py"
        refine nCutS (by omega) cutS_nat ?_
        walk_at "py"
        have hcl : (cut wt lo hi).length = hi - lo := cut_len' g3
        have fin : ∀ z : Tx, ptT ts (num, lo, hi, trn) = z → ∀ H5, Hs F' ((wa, HO.lst wv') :: (fo, HO.lst (fs.map txV ++ [.str (S z)])) :: M) H5 → WvH F2 (fun mm σ' F' M' => ∃ (fs : List Tx) (wv : List V) (ps : List Pt) (w5 w6 w7 w8 w9 w10 w11 w12 w13 w14 w15 : Option V), M' = (wa, HO.lst wv) :: (fo, HO.lst (fs.map txV)) :: M ∧
      σ' = [some (.ref a), some (.int (x : Int)), some (.int (y : Int)), some (.ref fo), some (.ref wa), w5, w6, w7, w8, w9, w10, w11, w12, w13, w14, w15] ∧
      DpAll K F' wv (ps.map ptD) ∧ ((∀ z ∈ ps, PtK ts.length ts z) ∨ ps = [(ts.length - 1, x, x, false)]) ∧ fs.flatten ++ ptsT ts ps.reverse = cut (whole ts) x y ∧ (∀ f ∈ fs, f ≠ []) ∧ mm = ptM ps) (ptM (ps' ++ [(num, lo, hi, trn)])) [some (.ref a), some (.int (x : Int)), some (.int (y : Int)), some (.ref fo), some (.ref wa), some (.int (num : Int)), some (.int (lo : Int)), some (.int (hi : Int)), some (.bl trn), some (.ref b), some (.str (S (cut wt lo hi))), w11, w12, w13, w14, w15] H5 := by
          intro z hz H5 hs5
          refine WvH.mk (m' := ptM ps') (by rw [hpp]; omega) hF.h hs5 ⟨fs ++ [z], wv', ps', _, _, _, _, _, _, _, _, _, _, _, by rw [List.map_append]; rfl, rfl, hd', .inl hps', ?_, ?_, rfl⟩
          · rw [← he, ← hz]; simp
          · intro f hf2
            rcases List.mem_append.mp hf2 with hf2 | hf2
            · exact hf f hf2
            · rw [List.mem_singleton.mp hf2, ← hz]
              have : (ptT ts (num, lo, hi, trn)).length = hi - lo := by
                unfold ptT
                simp only [hwt]
                split
                · rw [List.length_reverse, hcl]
                · exact hcl
              intro e
              rw [e] at this
              simp at this; omega
        cases trn with
        | true =>
          walk_at "py"
          refine nRevS_mk (by show (cut wt lo hi).length ≤ _; omega) ?_
          walk_at "py"
          refine nAppend (by rw [List.length_map]; omega) fun H5 hs5 => ?_
          exact fin _ (by unfold ptT; rw [if_pos rfl]; simp only [hwt]; rfl) H5 hs5
        | false =>
          walk_at "py"
          refine nAppend (by rw [List.length_map]; omega) fun H5 hs5 => ?_
          exact fin _ (by unfold ptT; rw [if_neg Bool.false_ne_true]; simp only [hwt]; rfl) H5 hs5
      · have hnw : ∀ w, r ≠ .wri w := fun w e => hwri ⟨w, e⟩
        have hwd : ∃ z : Str, (ruV r)[0]? = some (.str z) ∧ decide (z = ("letters" : Str)) = false := by
          cases r with
          | wri w => exact absurd rfl (hnw w)
          | join i j => exact ⟨_, rfl, Wd.h (r := false)⟩
          | power i j => exact ⟨_, rfl, Wd.h (r := false)⟩
          | part i j k => exact ⟨_, rfl, Wd.h (r := false)⟩
          | back i => exact ⟨_, rfl, Wd.h (r := false)⟩
        obtain ⟨z, hz0, hz⟩ := hwd
        have : At (ruV r) 0 (.str z) := atN (n := 0) hz0
        have : Wd z "letters" false := ⟨hz⟩
        walk_at "py"
        refine ifPT c ?_
        walk_at "py"
        refine ⟨F', _, b, tq, r, ts, num, lo, hi, hs4, rfl, same_t hF.h (same_t hF2.h hbS), same_t hF.h (same_t hF2.h h4), hk1, by omega, hO.tab.le, hnw, g2, by rw [← hgt]; exact g3, by omega, fun pa pv P F5 H5 hpa e5 hs5 hdP hPK hPT => ?_⟩
        have hF5 : Sm F' F5 := ⟨e5⟩
        have hPl := pts_le hPK hPT
        rw [← hgt, cut_len' g3] at hPl
        have hPM := (ptM_le hPK).1
        have hPK2 : ∀ z ∈ P, PtK ts.length ts z := fun z hz => ⟨Nat.lt_trans (hPK z hz).1 hnum, (hPK z hz).2⟩
        have hptT : ptT ts (num, lo, hi, trn) = if trn = true then (ptsT ts P).reverse else ptsT ts P := by
          rw [hPT, ← hgt]; rfl
        -- the loop that pushes
        have loop : ∀ (L : List Pt) pv' H6, L = (if trn = true then P else P.reverse) → DpAll K F5 pv' (L.map ptD) → Hs F5 ((pa, HO.lst pv') :: (wa, HO.lst wv') :: (fo, HO.lst (fs.map txV)) :: M) H6 → ∀ (N : L2.St → Hp → Prop) (R : VK),
            (∀ F7 wv2 w12 w13 w14 w15 H7, Same F5 F7 → Hs F7 ((wa, HO.lst wv2) :: (fo, HO.lst (fs.map txV)) :: M) H7 → DpAll K F7 wv2 ((ps' ++ L.map (adj trn)).map ptD) → N [some (.ref a), some (.int (x : Int)), some (.int (y : Int)), some (.ref fo), some (.ref wa), some (.int (num : Int)), some (.int (lo : Int)), some (.int (hi : Int)), some (.bl trn), some (.ref b), w10, some (.ref pa), w12, w13, w14, w15] H7) →
            nSeqL K (.ref pa) H6 fun J H1 => nLoop (gTup K 4 (gCons (gName 12) (gCons (gName 13) (gCons (gName 14) (gCons (gName 15) gNil))))) (tDrop (tBM K "list" rAppend (tVar 4) (tCons (tTup (tCons (tVar 12) (tCons (tVar 13) (tCons (tVar 14) (tCons (tOp rNe (tVar 15) (tVar 8)) tNil))))) tNil))) N R
              [some (.ref a), some (.int (x : Int)), some (.int (y : Int)), some (.ref fo), some (.ref wa), some (.int (num : Int)), some (.int (lo : Int)), some (.int (hi : Int)), some (.bl trn), some (.ref b), w10, some (.ref pa), w12, w13, w14, w15] J H1 := by
          intro L pv' H6 hL hdL hs6 N R kN
          have hLl : L.length ≤ 1000 := by
            rw [hL]
            split
            · omega
            · rw [List.length_reverse]; omega
          have hpvl := dpa_len hdL
          rw [List.length_map] at hpvl
          refine nLoopO (fun i σ' F' M' => ∃ (wv2 : List V) (w12 w13 w14 w15 : Option V), M' = (pa, HO.lst pv') :: (wa, HO.lst wv2) :: (fo, HO.lst (fs.map txV)) :: M ∧
              σ' = [some (.ref a), some (.int (x : Int)), some (.int (y : Int)), some (.ref fo), some (.ref wa), some (.int (num : Int)), some (.int (lo : Int)), some (.int (hi : Int)), some (.bl trn), some (.ref b), w10, some (.ref pa), w12, w13, w14, w15] ∧
              DpAll K F' wv2 ((ps' ++ (L.take i).map (adj trn)).map ptD)) ⟨wv', w12, w13, w14, w15, rfl, rfl, by simpa using dpa_mono e5 hd'⟩ ?_ ?_ ?_
          · rintro i σ' F' M' ⟨wv2, z1, z2, z3, z4, rfl, -, -⟩
            exact im0
          · rintro i xv σ' F7 M' H7 hi7 hF7 hs7 ⟨wv2, z1, z2, z3, z4, rfl, rfl, hd7⟩
            have hil := (List.getElem?_eq_some_iff.mp hi7).1
            obtain ⟨pt, hpt⟩ : ∃ pt, L[i]? = some pt := ⟨_, List.getElem?_eq_getElem (by omega)⟩
            obtain ⟨d, hd1, hd2⟩ := dpa_at hdL hi7
            rw [List.getElem?_map, hpt] at hd1
            cases hd1
            obtain ⟨tc, rfl, htc⟩ := dp_pt hd2
            obtain ⟨n1, l1, h1, f1⟩ := pt
            have : FzT K F7 tc [.int (n1 : Int), .int (l1 : Int), .int (h1 : Int), .bl f1] := ⟨same_t hF7.h htc⟩
            have hw2 := dpa_len hd7
            simp only [List.length_map, List.length_append, List.length_take] at hw2
            walk_at "py"
            rename_i t8 F8 H8 ht8 hF8 hs8 hT8 hz8
            refine nAppend (by omega) fun H9 hs9 => ?_
            refine .mk (hF7.h.trans hF8.h) hs9 ⟨_, _, _, _, _, rfl, rfl, ?_⟩
            rw [take_one hpt, List.map_append (f := adj trn), ← List.append_assoc, List.map_append (f := ptD)]
            exact dpa_app (dpa_mono hF8.h hd7) (.cons (dp_ptI (hT8 K).h) .nil)
          · rintro σ' F7 M' H7 hF7 hs7 ⟨wv2, z1, z2, z3, z4, rfl, rfl, hd7⟩
            rw [List.take_of_length_le (by omega)] at hd7
            exact kN F7 wv2 z1 z2 z3 z4 H7 hF7.h (hs7.drop 0) hd7
        have fin : ∀ F7 wv2 z12 z13 z14 z15 H7, Same F5 F7 → Hs F7 ((wa, HO.lst wv2) :: (fo, HO.lst (fs.map txV)) :: M) H7 → DpAll K F7 wv2 ((ps' ++ push trn P).map ptD) → WvH F2 (fun mm σ' F' M' => ∃ (fs : List Tx) (wv : List V) (ps : List Pt) (w5 w6 w7 w8 w9 w10 w11 w12 w13 w14 w15 : Option V), M' = (wa, HO.lst wv) :: (fo, HO.lst (fs.map txV)) :: M ∧
      σ' = [some (.ref a), some (.int (x : Int)), some (.int (y : Int)), some (.ref fo), some (.ref wa), w5, w6, w7, w8, w9, w10, w11, w12, w13, w14, w15] ∧
      DpAll K F' wv (ps.map ptD) ∧ ((∀ z ∈ ps, PtK ts.length ts z) ∨ ps = [(ts.length - 1, x, x, false)]) ∧ fs.flatten ++ ptsT ts ps.reverse = cut (whole ts) x y ∧ (∀ f ∈ fs, f ≠ []) ∧ mm = ptM ps) (ptM (ps' ++ [(num, lo, hi, trn)])) [some (.ref a), some (.int (x : Int)), some (.int (y : Int)), some (.ref fo), some (.ref wa), some (.int (num : Int)), some (.int (lo : Int)), some (.int (hi : Int)), some (.bl trn), some (.ref b), w10, some (.ref pa), z12, z13, z14, z15] H7 := by
          intro F7 wv2 z12 z13 z14 z15 H7 e7 hs7 hd7
          obtain ⟨m1, m2, m3⟩ := push_M (d := trn) (ps := P)
          refine WvH.mk (m' := ptM (ps' ++ push trn P)) ?_ (hF.h.trans (e5.trans e7)) hs7 ⟨fs, wv2, ps' ++ push trn P, _, _, _, _, _, _, _, _, _, _, _, rfl, rfl, hd7, .inl ?_, ?_, hf, rfl⟩
          · rw [hpp, ptM_app, m1]
            have e1 : 2 * ptL P * num = 2 * (hi - lo) * num := by rw [hPl.2]
            have e2 : 2 * (hi - lo) * (num + 1) = 2 * (hi - lo) * num + 2 * (hi - lo) := by rw [Nat.mul_add, Nat.mul_one]
            omega
          · intro z hz
            rcases List.mem_append.mp hz with hz | hz
            · exact hps' z hz
            · exact push_mem hPK2 z hz
          · rw [List.reverse_append, ptsT_app, push_T, ← hptT]
            exact he
        cases trn with
        | true =>
          walk_at "py"
          exact loop P pv H5 rfl hdP hs5 _ _ fun F7 wv2 z12 z13 z14 z15 H7 e7 hs7 hd7 => fin F7 wv2 z12 z13 z14 z15 H7 e7 hs7 hd7
        | false =>
          walk_at "py"
          refine nReverse fun H6 hs6 => ?_
          walk_at "py"
          refine loop P.reverse pv.reverse H6 rfl (by rw [List.map_reverse]; exact dpa_rev hdP) hs6 _ _ fun F7 wv2 z12 z13 z14 z15 H7 e7 hs7 hd7 => fin F7 wv2 z12 z13 z14 z15 H7 e7 hs7 hd7
    · walk_at "py"
      refine ifPF c ?_
      walk_at "py"
      refine WvH.mk (m' := ptM ps') (by rw [hpp]; omega) hF.h hs4 ⟨fs, wv', ps', _, _, _, _, _, _, _, _, _, _, _, rfl, rfl, hd', .inl ?_, ?_, hf, rfl⟩
      · rcases hK with hK | hK
        · intro z hz; exact hK z (List.mem_append_left _ hz)
        · rw [(snoc_one hK).1]; simp
      · rcases hK with hK | hK
        · have := (hK _ (List.mem_append_right _ (List.mem_singleton.mpr rfl))).2.1
          have : lo < hi := this
          omega
        · obtain ⟨h1, h2⟩ := snoc_one hK
          cases h2
          rw [← he, h1]
          have : ptsT ts ([(ts.length - 1, x, x, false)].reverse ++ ([] : List Pt).reverse) = [] := by
            show ptT ts (ts.length - 1, x, x, false) ++ [] = []
            unfold ptT
            rw [if_neg Bool.false_ne_true]
            rw [cut_nil (Nat.le_refl _)]; rfl
          rw [this]; rfl
end
end Sh


set_option Elab.async false
set_option linter.all false
set_option maxRecDepth 100000
set_option maxHeartbeats 4000000
namespace Sh
open PySem PySem.Spec PyProof.Rows L2
open SX (S)
namespace Tr
set_option synthInstance.maxSize 4096
set_option synthInstance.maxHeartbeats 400000
local macro_rules | `(tactic| walk_at "vv1") => `(tactic| first
  | refine go ?_
  | (with_reducible refine v_mulL (by omega) (by omega) ?_) | (with_reducible refine v_mulR (by omega) (by omega) ?_) | (with_reducible refine v_divI (by omega) (by omega) ?_) | (with_reducible refine v_modI (by omega) ?_)
  | (with_reducible refine v_r1 (by omega) (by omega) ?_) | (with_reducible refine v_r2 (by omega) (by omega) (by omega) (by omega) ?_))
local macro_rules | `(tactic| walk_at "vv") => `(tactic| repeat (walk_at "vv1"))
def N_rule_length : List Str := ["rule", "lengths", "word"]
theorem st_rule_length {v0 v1 : V} : start N_rule_length [v0, v1] = [some v0, some v1, none] := rfl
def t_rule_length (K : PySem.W.Frag) : TS := (tSeq (tAsg (tOp (rIx K) (tVar 0) (tC (.int 0))) (gName 2)) (tSeq (tIfS (tTest (tOp rEq (tVar 2) (tC (.str "letters")))) (tRet (tCB (rLn K) (tCons (tOp (rIx K) (tVar 0) (tC (.int 1))) tNil))) tNext) (tSeq (tIfS (tTest (tOp rEq (tVar 2) (tC (.str "join")))) (tRet (tOp rAddI (tOp (rIx K) (tVar 1) (tOp (rIx K) (tVar 0) (tC (.int 1)))) (tOp (rIx K) (tVar 1) (tOp (rIx K) (tVar 0) (tC (.int 2)))))) tNext) (tSeq (tIfS (tTest (tOp rEq (tVar 2) (tC (.str "power")))) (tRet (tOp rMulI (tOp (rIx K) (tVar 1) (tOp (rIx K) (tVar 0) (tC (.int 1)))) (tOp (rIx K) (tVar 0) (tC (.int 2))))) tNext) (tSeq (tIfS (tTest (tOp rEq (tVar 2) (tC (.str "part")))) (tRet (tOp rSubI (tOp (rIx K) (tVar 0) (tC (.int 3))) (tOp (rIx K) (tVar 0) (tC (.int 2))))) tNext) (tRet (tOp (rIx K) (tVar 1) (tOp (rIx K) (tVar 0) (tC (.int 1))))))))))
def s_rule_length (ξ : Xi) : WS := (sSeq (sAsg (eB (bOp wIx (bVar 0) (bC (.int 0)))) (gNm 2)) (sSeq (sIf (tB0 (bTest (bOp (wEqB false) (bVar 2) (bC (.str "letters"))))) (sRet (eB (bCB wLen (bCons (bOp wIx (bVar 0) (bC (.int 1))) bNil)))) sNext) (sSeq (sIf (tB0 (bTest (bOp (wEqB false) (bVar 2) (bC (.str "join"))))) (sRet (eB (bOp wAddI (bOp wIx (bVar 1) (bOp wIx (bVar 0) (bC (.int 1)))) (bOp wIx (bVar 1) (bOp wIx (bVar 0) (bC (.int 2))))))) sNext) (sSeq (sIf (tB0 (bTest (bOp (wEqB false) (bVar 2) (bC (.str "power"))))) (sRet (eB (bOp wMulI (bOp wIx (bVar 1) (bOp wIx (bVar 0) (bC (.int 1)))) (bOp wIx (bVar 0) (bC (.int 2)))))) sNext) (sSeq (sIf (tB0 (bTest (bOp (wEqB false) (bVar 2) (bC (.str "part"))))) (sRet (eB (bOp wSubI (bOp wIx (bVar 0) (bC (.int 3))) (bOp wIx (bVar 0) (bC (.int 2)))))) sNext) (sRet (eB (bOp wIx (bVar 1) (bOp wIx (bVar 0) (bC (.int 1)))))))))))
theorem snd_rule_length {K : PySem.W.Frag} (v0 v1 : V) (E : XK) (ξ : Xi) : SS K [none, some v1] (fun _ => E) ξ (t_rule_length K) (s_rule_length ξ) := by
  unfold t_rule_length s_rule_length
  exact (ss_seq (ss_asg (se_b (sb_op sr_ix sb_var sb_int)) (sg_name (.inr rfl))) (ss_seq (ss_if (st_b (sb_test (sb_op sr_eq sb_var sb_str))) (ss_ret (se_b (sb_cb sr_len (sb_cons (sb_op sr_ix sb_var sb_int) sb_nil)))) ss_next) (ss_seq (ss_if (st_b (sb_test (sb_op sr_eq sb_var sb_str))) (ss_ret (se_b (sb_op sr_addI (sb_op sr_ix sb_var (sb_op sr_ix sb_var sb_int)) (sb_op sr_ix sb_var (sb_op sr_ix sb_var sb_int))))) ss_next) (ss_seq (ss_if (st_b (sb_test (sb_op sr_eq sb_var sb_str))) (ss_ret (se_b (sb_op sr_mulI (sb_op sr_ix sb_var (sb_op sr_ix sb_var sb_int)) (sb_op sr_ix sb_var sb_int)))) ss_next) (ss_seq (ss_if (st_b (sb_test (sb_op sr_eq sb_var sb_str))) (ss_ret (se_b (sb_op sr_subI (sb_op sr_ix sb_var sb_int) (sb_op sr_ix sb_var sb_int)))) ss_next) (ss_ret (se_b (sb_op sr_ix sb_var (sb_op sr_ix sb_var sb_int)))))))))
def v_rule_length : WF := wf (s_rule_length) [false, true] 3
theorem w_rule_length (x0 x1 : Vl) (P : Vl → Ev → Prop) (PX : Xi) : v_rule_length [x0, x1] P PX = s_rule_length (fun C fs env => nOut [false, true] env (PX C fs)) (VE.mk (fun env => nOut [false, true] env (P .non)) (fun x env => nOut [false, true] env (P x)) (fun _ => False) (fun _ => False)) [some x0, some x1, none] := rfl
theorem pure_rule_length {K : PySem.W.Frag} (vs : List V) (H : Hp) (Q : VK) (E : XK) (h : spOf K 2 (v_rule_length) vs H Q E) : t_rule_length K { nx := fun _ H' => Q .non H', rt := Q } (start N_rule_length vs) H :=
  body_ok (N := N_rule_length) (pn := [false, true]) (t := fun E => t_rule_length K) (fun vs hl E ξ => match vs, hl with | [v0, v1], _ => snd_rule_length v0 v1 E ξ) h
def N_lengths_of : List Str := ["rules", "lengths", "rule"]
theorem st_lengths_of {v0 : V} : start N_lengths_of [v0] = [some v0, none, none] := rfl
def t_lengths_of (K : PySem.W.Frag) (sp_rule_length : Sp) : TS := (tSeq (tAsg (tLst tNil) (gName 1)) (tSeq (tFor (iTup K (tVar 0)) (gName 2) (tDrop (tBM K "list" rAppend (tVar 1) (tCons (tCall sp_rule_length [] E0 (tCons (tVar 2) (tCons (tVar 1) tNil))) tNil)))) (tRet (tCB (rTupleOf K) (tCons (tVar 1) tNil)))))
def s_lengths_of (φ_rule_length : WF) (ξ : Xi) : WS := (sSeq (sAsg (eLst aNil) (gNm 1)) (sSeq (sFor (iT (eFrz 0)) (gNm 2) (sDrop (eMs 1 mApp (aCons (eCall φ_rule_length [none, some 1] xNo (aCons (eFrz 2) (aIo 1 aNil))) aNil)))) (sRet (eB (bCB wTupOf (bCons (bVar 1) bNil))))))
theorem snd_lengths_of {K : PySem.W.Frag} (φ_rule_length : WF) (v0 : V) (E : XK) (ξ : Xi) : SS K [none] (fun _ => E) ξ (t_lengths_of K (spOf K 2 φ_rule_length)) (s_lengths_of φ_rule_length ξ) := by
  unfold t_lengths_of s_lengths_of
  exact (ss_seq (ss_asg (se_lst sa_nil) (sg_name (.inr rfl))) (ss_seq (ss_for (si_tup se_frz) (sg_name (.inr rfl)) (ss_drop (se_ms sm_append (sa_cons (se_call rfl (sk_ex se_frz (sk_io sk_nil))) sa_nil)))) (ss_ret (se_b (sb_cb sr_tupOf (sb_cons sb_var sb_nil))))))
def v_lengths_of (φ_rule_length : WF) : WF := wf (s_lengths_of φ_rule_length) [false] 3
theorem w_lengths_of (φ_rule_length : WF) (x0 : Vl) (P : Vl → Ev → Prop) (PX : Xi) : v_lengths_of φ_rule_length [x0] P PX = s_lengths_of φ_rule_length (fun C fs env => nOut [false] env (PX C fs)) (VE.mk (fun env => nOut [false] env (P .non)) (fun x env => nOut [false] env (P x)) (fun _ => False) (fun _ => False)) [some x0, none, none] := rfl
theorem pure_lengths_of {K : PySem.W.Frag} (φ_rule_length : WF) (vs : List V) (H : Hp) (Q : VK) (E : XK) (h : spOf K 1 (v_lengths_of φ_rule_length) vs H Q E) : t_lengths_of K (spOf K 2 φ_rule_length) { nx := fun _ H' => Q .non H', rt := Q } (start N_lengths_of vs) H :=
  body_ok (N := N_lengths_of) (pn := [false]) (t := fun E => t_lengths_of K (spOf K 2 φ_rule_length)) (fun vs hl E ξ => match vs, hl with | [v0], _ => snd_lengths_of φ_rule_length v0 E ξ) h
def N_check_rules : List Str := ["rules", "lengths", "number", "rule", "reason"]
theorem st_check_rules {v0 : V} : start N_check_rules [v0] = [some v0, none, none, none, none] := rfl
def t_check_rules (K : PySem.W.Frag) (sp_fault : Sp) (sp_rule_length : Sp) : TS := (tSeq (tIfS (tNot (tTest (tChain rLeI rLeI (tC (.int 1)) (tCB (rLn K) (tCons (tVar 0) tNil)) (tC (.int 60))))) tDead tNext) (tSeq (tAsg (tLst tNil) (gName 1)) (tFor (iEnumLT K (tCons (tVar 0) tNil)) (gTup K 2 (gCons (gName 2) (gCons (gName 3) gNil))) (tSeq (tAsg (tCall sp_fault [] E0 (tCons (tVar 3) (tCons (tVar 1) tNil))) (gName 4)) (tSeq (tIfS (tTest (tOp rNotNone (tVar 4) (tC .non))) tDead tNext) (tDrop (tBM K "list" rAppend (tVar 1) (tCons (tCall sp_rule_length [] E0 (tCons (tVar 3) (tCons (tVar 1) tNil))) tNil))))))))
def s_check_rules (φ_fault : WF) (φ_rule_length : WF) (ξ : Xi) : WS := (sSeq (sIf (tB0 (bNot (bTest (bChain wLeI wLeI (bC (.int 1)) (bCB wLen (bCons (bVar 0) bNil)) (bC (.int 60)))))) sDead sNext) (sSeq (sAsg (eLst aNil) (gNm 1)) (sFor (iELT (aCons (eFrz 0) aNil)) (gTp 2 (gC (gNm 2) (gC (gNm 3) gN))) (sSeq (sAsg (eCall φ_fault [none, some 1] xNo (aCons (eFrz 3) (aIo 1 aNil))) (gNm 4)) (sSeq (sIf (tB0 (bTest (bOp (wIsN true) (bVar 4) (bC .non)))) sDead sNext) (sDrop (eMs 1 mApp (aCons (eCall φ_rule_length [none, some 1] xNo (aCons (eFrz 3) (aIo 1 aNil))) aNil))))))))
theorem snd_check_rules {K : PySem.W.Frag} (φ_fault : WF) (φ_rule_length : WF) (v0 : V) (E : XK) (ξ : Xi) : SS K [none] (fun _ => E) ξ (t_check_rules K (spOf K 2 φ_fault) (spOf K 2 φ_rule_length)) (s_check_rules φ_fault φ_rule_length ξ) := by
  unfold t_check_rules s_check_rules
  exact (ss_seq (ss_if (st_b (sb_not (sb_test (sb_chain sr_leI sr_leI sb_int (sb_cb sr_len (sb_cons sb_var sb_nil)) sb_int)))) ss_dead ss_next) (ss_seq (ss_asg (se_lst sa_nil) (sg_name (.inr rfl))) (ss_for (si_enumLT (sa_cons se_frz sa_nil)) (sg_tup (sg_cons (sg_name (.inr rfl)) (sg_cons (sg_name (.inr rfl)) sg_nil))) (ss_seq (ss_asg (se_call rfl (sk_ex se_frz (sk_io sk_nil))) (sg_name (.inr rfl))) (ss_seq (ss_if (st_b (sb_test (sb_op sr_notN sb_var sb_non))) ss_dead ss_next) (ss_drop (se_ms sm_append (sa_cons (se_call rfl (sk_ex se_frz (sk_io sk_nil))) sa_nil))))))))
def v_check_rules (φ_fault : WF) (φ_rule_length : WF) : WF := wf (s_check_rules φ_fault φ_rule_length) [false] 5
theorem w_check_rules (φ_fault : WF) (φ_rule_length : WF) (x0 : Vl) (P : Vl → Ev → Prop) (PX : Xi) : v_check_rules φ_fault φ_rule_length [x0] P PX = s_check_rules φ_fault φ_rule_length (fun C fs env => nOut [false] env (PX C fs)) (VE.mk (fun env => nOut [false] env (P .non)) (fun x env => nOut [false] env (P x)) (fun _ => False) (fun _ => False)) [some x0, none, none, none, none] := rfl
theorem pure_check_rules {K : PySem.W.Frag} (φ_fault : WF) (φ_rule_length : WF) (vs : List V) (H : Hp) (Q : VK) (E : XK) (h : spOf K 1 (v_check_rules φ_fault φ_rule_length) vs H Q E) : t_check_rules K (spOf K 2 φ_fault) (spOf K 2 φ_rule_length) { nx := fun _ H' => Q .non H', rt := Q } (start N_check_rules vs) H :=
  body_ok (N := N_check_rules) (pn := [false]) (t := fun E => t_check_rules K (spOf K 2 φ_fault) (spOf K 2 φ_rule_length)) (fun vs hl E ξ => match vs, hl with | [v0], _ => snd_check_rules φ_fault φ_rule_length v0 E ξ) h
def N_Text_init : List Str := ["self", "rules", "rule"]
theorem st_Text_init {v0 v1 : V} : start N_Text_init [v0, v1] = [some v0, some v1, none] := rfl
def t_Text_init (K : PySem.W.Frag) (sp_check_rules : Sp) (sp_lengths_of : Sp) : TS := (tSeq (tDrop (tCall sp_check_rules [] E0 (tCons (tVar 1) tNil))) (tSeq (sFld K (tVar 0) (tCB (rTupleOf K) (tCons (tLc (iLT K (tVar 1)) (gName 2) tYes (tCB (rTupleOf K) (tCons (tVar 2) tNil)) [2]) tNil)) "rules") (tSeq (sFld K (tVar 0) (tCall sp_lengths_of [] E0 (tCons (tFld K (tVar 0) "rules") tNil)) "lengths") (sFld K (tVar 0) (tOp (rIx K) (tFld K (tVar 0) "lengths") (tUn rNegI (tC (.int 1)))) "length"))))
def s_Text_init (φ_check_rules : WF) (φ_lengths_of : WF) (ξ : Xi) : WS := (sSeq (sDrop (eCall φ_check_rules [none] xNo (aCons (eFrz 1) aNil))) (sSeq (sSetF 0 .Text 0 (eFz (eCB wTupOf (aCons (eLc (iLTv (eFrz 1)) (gNm 2) tYs (eB (bCB wTupOf (bCons (bVar 2) bNil))) [2]) aNil)))) (sSeq (sSetF 0 .Text 1 (eFz (eCall φ_lengths_of [none] xNo (aCons (eB (bFld .Text 0 (bVar 0))) aNil)))) (sSetF 0 .Text 2 (eB (bOp wIx (bFld .Text 1 (bVar 0)) (bUn wNegI (bC (.int 1)))))))))
theorem snd_Text_init {K : PySem.W.Frag} (φ_check_rules : WF) (φ_lengths_of : WF) (c_Text : ClsF K (He.ga K (Cn.nm .Text)) (Cn.ns .Text)) (v0 v1 : V) (E : XK) (ξ : Xi) : SS K [some v0, none] (fun _ => E) ξ (t_Text_init K (spOf K 1 φ_check_rules) (spOf K 1 φ_lengths_of)) (s_Text_init φ_check_rules φ_lengths_of ξ) := by
  unfold t_Text_init s_Text_init
  exact (ss_seq (ss_drop (se_call rfl (sk_ex se_frz sk_nil))) (ss_seq (ss_setF (cn := .Text) c_Text rfl (se_fz (se_cb sr_tupOf (sa_cons (se_lc (si_lt se_frz) (sg_name (.inr rfl)) st_yes (se_b (sb_cb sr_tupOf (sb_cons sb_var sb_nil))) (by decide) (by rfl)) sa_nil)))) (ss_seq (ss_setF (cn := .Text) c_Text rfl (se_fz (se_call rfl (sk_ex (se_b (sb_fld (cn := .Text) c_Text rfl sb_var)) sk_nil)))) (ss_setF (cn := .Text) c_Text rfl (se_b (sb_op sr_ix (sb_fld (cn := .Text) c_Text rfl sb_var) (sb_un sr_negI sb_int)))))))
def v_Text_init (φ_check_rules : WF) (φ_lengths_of : WF) : WF := wf (s_Text_init φ_check_rules φ_lengths_of) [true, false] 3
theorem w_Text_init (φ_check_rules : WF) (φ_lengths_of : WF) (x0 x1 : Vl) (P : Vl → Ev → Prop) (PX : Xi) : v_Text_init φ_check_rules φ_lengths_of [x0, x1] P PX = s_Text_init φ_check_rules φ_lengths_of (fun C fs env => nOut [true, false] env (PX C fs)) (VE.mk (fun env => nOut [true, false] env (P .non)) (fun x env => nOut [true, false] env (P x)) (fun _ => False) (fun _ => False)) [some x0, some x1, none] := rfl
theorem pure_Text_init {K : PySem.W.Frag} (φ_check_rules : WF) (φ_lengths_of : WF) (c_Text : ClsF K (He.ga K (Cn.nm .Text)) (Cn.ns .Text)) (vs : List V) (H : Hp) (Q : VK) (E : XK) (h : spOf K 2 (v_Text_init φ_check_rules φ_lengths_of) vs H Q E) : t_Text_init K (spOf K 1 φ_check_rules) (spOf K 1 φ_lengths_of) { nx := fun _ H' => Q .non H', rt := Q } (start N_Text_init vs) H :=
  body_ok (N := N_Text_init) (pn := [true, false]) (t := fun E => t_Text_init K (spOf K 1 φ_check_rules) (spOf K 1 φ_lengths_of)) (fun vs hl E ξ => match vs, hl with | [v0, v1], _ => snd_Text_init φ_check_rules φ_lengths_of c_Text v0 v1 E ξ) h
def N_Text_of_letters : List Str := ["cls", "letters"]
theorem st_Text_of_letters {v0 v1 : V} : start N_Text_of_letters [v0, v1] = [some v0, some v1] := rfl
def t_Text_of_letters (K : PySem.W.Frag) (sp_Text_init : Sp) : TS := (tRet (tMkL 0 (He.ga K "Text") sp_Text_init E0 (tCons (tTup (tCons (tTup (tCons (tC (.str "letters")) (tCons (tVar 1) tNil))) tNil)) tNil)))
def s_Text_of_letters (φ_Text_init : WF) (ξ : Xi) : WS := (sRet (eFz (eMkL 0 .Text φ_Text_init [none] xNo (aCons (eTup (aCons (eTup (aCons (eB (bC (.str "letters"))) (aCons (eFrz 1) aNil))) aNil)) aNil))))
theorem snd_Text_of_letters {K : PySem.W.Frag} (φ_Text_init : WF) (v0 v1 : V) (E : XK) (ξ : Xi) : SS K [none, none] (fun _ => E) ξ (t_Text_of_letters K (spOf K 2 φ_Text_init)) (s_Text_of_letters φ_Text_init ξ) := by
  unfold t_Text_of_letters s_Text_of_letters
  exact (ss_ret (se_fz (se_mkL (cn := .Text) rfl (sk_ex (se_tup (sa_cons (se_tup (sa_cons (se_b sb_str) (sa_cons se_frz sa_nil))) sa_nil)) sk_nil))))
def v_Text_of_letters (φ_Text_init : WF) : WF := wf (s_Text_of_letters φ_Text_init) [false, false] 2
theorem w_Text_of_letters (φ_Text_init : WF) (x0 x1 : Vl) (P : Vl → Ev → Prop) (PX : Xi) : v_Text_of_letters φ_Text_init [x0, x1] P PX = s_Text_of_letters φ_Text_init (fun C fs env => nOut [false, false] env (PX C fs)) (VE.mk (fun env => nOut [false, false] env (P .non)) (fun x env => nOut [false, false] env (P x)) (fun _ => False) (fun _ => False)) [some x0, some x1] := rfl
theorem pure_Text_of_letters {K : PySem.W.Frag} (φ_Text_init : WF) (vs : List V) (H : Hp) (Q : VK) (E : XK) (h : spOf K 2 (v_Text_of_letters φ_Text_init) vs H Q E) : t_Text_of_letters K (spOf K 2 φ_Text_init) { nx := fun _ H' => Q .non H', rt := Q } (start N_Text_of_letters vs) H :=
  body_ok (N := N_Text_of_letters) (pn := [false, false]) (t := fun E => t_Text_of_letters K (spOf K 2 φ_Text_init)) (fun vs hl E ξ => match vs, hl with | [v0, v1], _ => snd_Text_of_letters φ_Text_init v0 v1 E ξ) h
/-! ### texts, over trees -/
def lenL (ts : List Tx) : List Vl := ts.map fun t => Vl.int (t.length : Int)
instance {ts : List Tx} : FzAc (lenL ts) := ⟨fzA_map fun _ => rfl⟩
def txtV (rs : List Ru) (ts : List Tx) : Vl := .obj false .Text [.tup (rs.map ruL), .tup (lenL ts), .int ((whole ts).length : Int)]
instance {rs : List Ru} {ts : List Tx} : Fzc (txtV rs ts) := ⟨rfl⟩
instance {rs : List Ru} {ts : List Tx} {n : Nat} {y : Vl} {Q : Vl → Prop} [f : Nt [.tup (rs.map ruL), .tup (lenL ts), .int ((whole ts).length : Int)] n y] : St1 (nFldV .Text n (txtV rs ts) Q) (Q y) := ⟨fun h => ⟨false, _, y, rfl, f.h, h⟩⟩
instance {rs : List Ru} {ts : List Tx} {q : Prop} : St1 (nObj .Text (txtV rs ts) q) q := ⟨fun h => ⟨⟨false, _, rfl⟩, h⟩⟩
instance {rs : List Ru} {ts : List Tx} {Q : Vl → Prop} : St1 (wIsN false (txtV rs ts) .non Q) (Q (.bl false)) := ⟨fun h => ⟨rfl, false, rfl, h⟩⟩
instance {rs : List Ru} {ts : List Tx} {Q : Vl → Prop} : St1 (wIsN true (txtV rs ts) .non Q) (Q (.bl true)) := ⟨fun h => ⟨rfl, false, rfl, h⟩⟩
structure TxK (rs : List Ru) (ts : List Tx) : Prop where
  tab : Tab rs ts
  ne : 1 ≤ rs.length
  le : rs.length ≤ 1000
theorem TxK.whole_le {rs : List Ru} {ts : List Tx} (h : TxK rs ts) : (whole ts).length ≤ 1000000000000 := h.tab.le _
theorem lenL_get {ts : List Tx} {i : Nat} (h : i < ts.length) : atI (lenL ts) (i : Int) = some (.int ((gt ts i).length : Int)) := atI_nat (by unfold lenL; rw [List.getElem?_map, at_gt h]; rfl)
theorem lenL_len {ts : List Tx} : (lenL ts).length = ts.length := by simp [lenL]
theorem lenL_snoc {ts : List Tx} {t : Tx} : lenL (ts ++ [t]) = lenL ts ++ [.int (t.length : Int)] := by simp [lenL]
theorem lenL_last {ts : List Tx} (h : 1 ≤ ts.length) : atI (lenL ts) (-1) = some (.int ((whole ts).length : Int)) := by
  have : ts.length - 1 < ts.length := by omega
  have e := take_one (at_gt this)
  rw [show ts.length - 1 + 1 = ts.length by omega, List.take_of_length_le (Nat.le_refl _)] at e
  conv => lhs; rw [e]
  rw [lenL_snoc]
  exact atI_last _ _
section
variable {K : PySem.W.Frag} {F F' H : Hp}
theorem repA_c {vs : List V} {x : Vl} {xs : List Vl} (h : RepA K F vs (x :: xs) []) : ∃ v vs', vs = v :: vs' ∧ Rep K F v x [] ∧ RepA K F vs' xs [] := by
  cases vs with
  | nil => cases h
  | cons v vs =>
    obtain ⟨A, B, r1, r2, e⟩ := repA_uncons h
    obtain ⟨rfl, rfl⟩ := List.append_eq_nil_iff.mp e
    exact ⟨v, vs, rfl, r1, r2⟩
theorem repA_int {vs : List V} {x : Int} {xs : List Vl} (h : RepA K F vs (.int x :: xs) []) : ∃ vs', vs = .int x :: vs' ∧ RepA K F vs' xs [] := by
  obtain ⟨v, vs', rfl, r, h'⟩ := repA_c h
  cases r
  exact ⟨_, rfl, h'⟩
theorem repA_str {vs : List V} {x : Str} {xs : List Vl} (h : RepA K F vs (.str x :: xs) []) : ∃ vs', vs = .str x :: vs' ∧ RepA K F vs' xs [] := by
  obtain ⟨v, vs', rfl, r, h'⟩ := repA_c h
  cases r
  exact ⟨_, rfl, h'⟩
theorem repA_nil {vs : List V} {N : Ow} (h : RepA K F vs [] N) : vs = [] := by
  cases h
  rfl
theorem rep_ruV {v : V} {r : Ru} {N : Ow} (h : Rep K F v (ruL r) N) : ∃ a, v = .ref a ∧ SqT K F a (ruV r) := by
  have hz : (ruL r).fz = true := (inferInstance : Fzc (ruL r)).h
  have hn := h.fz_nil hz
  subst hn
  cases r with
  | wri w =>
    cases h with
    | tup hT hr =>
      obtain ⟨v1, rfl, h1⟩ := repA_str hr
      obtain ⟨v2, rfl, h2⟩ := repA_str h1
      cases repA_nil h2
      exact ⟨_, rfl, sqT hT⟩
  | join i j =>
    cases h with
    | tup hT hr =>
      obtain ⟨v1, rfl, h1⟩ := repA_str hr
      obtain ⟨v2, rfl, h2⟩ := repA_int h1
      obtain ⟨v3, rfl, h3⟩ := repA_int h2
      cases repA_nil h3
      exact ⟨_, rfl, sqT hT⟩
  | power i j =>
    cases h with
    | tup hT hr =>
      obtain ⟨v1, rfl, h1⟩ := repA_str hr
      obtain ⟨v2, rfl, h2⟩ := repA_int h1
      obtain ⟨v3, rfl, h3⟩ := repA_int h2
      cases repA_nil h3
      exact ⟨_, rfl, sqT hT⟩
  | part i j k =>
    cases h with
    | tup hT hr =>
      obtain ⟨v1, rfl, h1⟩ := repA_str hr
      obtain ⟨v2, rfl, h2⟩ := repA_int h1
      obtain ⟨v3, rfl, h3⟩ := repA_int h2
      obtain ⟨v4, rfl, h4⟩ := repA_int h3
      cases repA_nil h4
      exact ⟨_, rfl, sqT hT⟩
  | back i =>
    cases h with
    | tup hT hr =>
      obtain ⟨v1, rfl, h1⟩ := repA_str hr
      obtain ⟨v2, rfl, h2⟩ := repA_int h1
      cases repA_nil h2
      exact ⟨_, rfl, sqT hT⟩
theorem repA_rus : ∀ {rs : List Ru} {vs : List V} {N : Ow}, RepA K F vs (rs.map ruL) N → N = [] ∧ DpAll K F vs (rs.map ruD)
  | [], _, _, .nil => ⟨rfl, .nil⟩
  | r :: rs, _, _, .cons (N := N0) a b => by
    obtain ⟨p, rfl, hp⟩ := rep_ruV a
    have hn := a.fz_nil (inferInstance : Fzc (ruL r)).h
    subst hn
    obtain ⟨rfl, h⟩ := repA_rus b
    exact ⟨rfl, .cons (dp_ruI hp) h⟩
theorem repA_lens : ∀ {ts : List Tx} {vs : List V} {N : Ow}, RepA K F vs (lenL ts) N → N = [] ∧ vs = lens ts
  | [], _, _, .nil => ⟨rfl, rfl⟩
  | t :: ts, _, _, .cons a b => by
    cases a
    obtain ⟨rfl, h⟩ := repA_lens (ts := ts) b
    exact ⟨rfl, by rw [h]; rfl⟩
theorem rep_txt {v : V} {rs : List Ru} {ts : List Tx} {N : Ow} (k : TxK rs ts) (h : Rep K F v (txtV rs ts) N) : ∃ a, v = .ref a ∧ N = [] ∧ TxO K F a rs ts := by
  have hz : (txtV rs ts).fz = true := rfl
  have hn := h.fz_nil hz
  subst hn
  cases h with
  | objF hF hr =>
    obtain ⟨v1, w1, rfl, r1, h1⟩ := repA_c hr
    obtain ⟨v2, w2, rfl, r2, h2⟩ := repA_c h1
    obtain ⟨w3, rfl, h3⟩ := repA_int h2
    cases repA_nil h3
    cases r1 with
    | tup hT1 hr1 =>
      cases r2 with
      | tup hT2 hr2 =>
        obtain ⟨-, g1⟩ := repA_rus hr1
        obtain ⟨-, rfl⟩ := repA_lens hr2
        exact ⟨_, rfl, rfl, k.tab, k.ne, k.le, _, _, _, _, hF, sqT hT1, g1, sqT hT2⟩
/-! the old promises serve -/
/-- letter -/
def F_letter : WF := fun xs P PX => ∃ rs ts p, xs = [txtV rs ts, .int p] ∧ TxK rs ts ∧ (∀ (n c : Nat), p = (n : Int) → (whole ts)[n]? = some c → P (.str (S [c])) [none, none]) ∧
  ((p < 0 ∨ ((whole ts).length : Int) ≤ p) → PX "NoPlace" [("place", .int p)] [none, none])
def F_check_part : WF := fun xs P PX => ∃ rs ts p q, xs = [txtV rs ts, .int p, .int q] ∧ TxK rs ts ∧ (0 ≤ p → p ≤ q → q ≤ ((whole ts).length : Int) → P .non [none, none, none]) ∧
  (¬ (0 ≤ p ∧ p ≤ q ∧ q ≤ ((whole ts).length : Int)) → PX "NoPart" [("stop", .int q), ("start", .int p)] [none, none, none])
def F_letters : WF := fun xs P PX => ∃ rs ts p q, xs = [txtV rs ts, .int p, .int q] ∧ TxK rs ts ∧ (∀ (x y : Nat), p = (x : Int) → q = (y : Int) → x ≤ y → y ≤ (whole ts).length → y - x ≤ 1000 → P (.str (S (cut (whole ts) x y))) [none, none, none]) ∧
  (0 ≤ p → p ≤ q → q ≤ ((whole ts).length : Int) → 1000 < q - p → PX "TooLong" [] [none, none, none]) ∧
  (¬ (0 ≤ p ∧ p ≤ q ∧ q ≤ ((whole ts).length : Int)) → PX "NoPart" [("stop", .int q), ("start", .int p)] [none, none, none])
theorem stt2 {F0 : Hp} {v1 v2 : V} {x1 x2 : Vl} {Mf : Ow} {vs : List V} (h : Stt K F0 [] [] [] vs [x1, x2] Mf H) : ∃ F v1 v2 N1 N2, Same F0 F ∧ vs = [v1, v2] ∧ Rep K F v1 x1 N1 ∧ Rep K F v2 x2 N2 ∧ Hs F (N1 ++ (N2 ++ Mf)) H := by
  obtain ⟨F, N, M, e, hp, hA, he, hs⟩ := h
  cases he
  cases hA with
  | cons a r =>
    cases r with
    | cons b r =>
      cases r
      exact ⟨F, _, _, _, _, e, rfl, a, b, by simpa using hs⟩
theorem stt3 {F0 : Hp} {x1 x2 x3 : Vl} {Mf : Ow} {vs : List V} (h : Stt K F0 [] [] [] vs [x1, x2, x3] Mf H) : ∃ F v1 v2 v3 N1 N2 N3, Same F0 F ∧ vs = [v1, v2, v3] ∧ Rep K F v1 x1 N1 ∧ Rep K F v2 x2 N2 ∧ Rep K F v3 x3 N3 ∧ Hs F (N1 ++ (N2 ++ (N3 ++ Mf))) H := by
  obtain ⟨F, N, M, e, hp, hA, he, hs⟩ := h
  cases he
  cases hA with
  | cons a r =>
    cases r with
    | cons b r =>
      cases r with
      | cons c r =>
        cases r
        exact ⟨F, _, _, _, _, _, _, e, rfl, a, b, c, by simpa using hs⟩
theorem envNo : ∀ {vs : List V} {n : Nat}, vs.length = n → EnvR K F (vs.map some) (List.replicate n none) []
  | [], _, h => by subst h; exact .nil
  | v :: vs, _, h => by
    subst h
    exact .no (envNo rfl)
theorem br_letter (vs : List V) (H : Hp) (Q : VK) (E : XK) (h : spOf K 2 F_letter vs H Q E) : sp_Text_letter K vs H Q E := by
  obtain ⟨F0, Mf, xs, P, PX, hl, _, st, ⟨rs, ts, p, rfl, k, h1, h2⟩, k1, k2⟩ := h
  obtain ⟨F, v1, v2, N1, N2, e, rfl, r1, r2, hs⟩ := stt2 (v1 := .non) (v2 := .non) st
  obtain ⟨a, rfl, rfl, hO⟩ := rep_txt k r1
  cases r2
  refine ⟨F, Mf, a, rs, ts, p, by simpa using hs, rfl, hO, fun n c F' H' hp hc e' hs' => ?_, fun hb d F' H' e' hs' hz => ?_⟩
  · exact k1 _ _ _ H' (h1 n c hp hc) ⟨F', [], [], e.trans e', PinOk.nil, RepA.one .str, envNo rfl, hs'⟩
  · exact k2 _ _ _ _ _ H' (h2 hb) ⟨F', [], e.trans e', envNo rfl, hs', rfl, .inr ⟨by simp, d, [.int p], rfl, hz.h, RepA.one .int⟩⟩
theorem br_check_part (vs : List V) (H : Hp) (Q : VK) (E : XK) (h : spOf K 3 F_check_part vs H Q E) : sp_Text_check_part K vs H Q E := by
  obtain ⟨F0, Mf, xs, P, PX, hl, _, st, ⟨rs, ts, p, q, rfl, k, h1, h2⟩, k1, k2⟩ := h
  obtain ⟨F, v1, v2, v3, N1, N2, N3, e, rfl, r1, r2, r3, hs⟩ := stt3 st
  obtain ⟨a, rfl, rfl, hO⟩ := rep_txt k r1
  cases r2
  cases r3
  refine ⟨F, Mf, a, rs, ts, p, q, by simpa using hs, rfl, hO, fun z1 z2 z3 => ?_, fun hb d F' H' e' hs' hz => ?_⟩
  · exact k1 _ _ _ H (h1 z1 z2 z3) ⟨F, [], [], e, PinOk.nil, RepA.one .non, envNo rfl, by simpa using hs⟩
  · exact k2 _ _ _ _ _ H' (h2 hb) ⟨F', [], e.trans e', envNo rfl, hs', rfl, .inr ⟨by simp, d, [.int q, .int p], rfl, hz.h, .cons (M := []) (N := []) .int (RepA.one .int)⟩⟩
theorem br_letters (vs : List V) (H : Hp) (Q : VK) (E : XK) (h : spOf K 3 F_letters vs H Q E) : sp_Text_letters K vs H Q E := by
  obtain ⟨F0, Mf, xs, P, PX, hl, _, st, ⟨rs, ts, p, q, rfl, k, h1, h2, h3⟩, k1, k2⟩ := h
  obtain ⟨F, v1, v2, v3, N1, N2, N3, e, rfl, r1, r2, r3, hs⟩ := stt3 st
  obtain ⟨a, rfl, rfl, hO⟩ := rep_txt k r1
  cases r2
  cases r3
  refine ⟨F, Mf, a, rs, ts, p, q, by simpa using hs, rfl, hO, fun x y F' H' z1 z2 z3 z4 z5 e' hs' => ?_, fun z1 z2 z3 z4 => ?_, fun hb d F' H' e' hs' hz => ?_⟩
  · exact k1 _ _ _ H' (h1 x y z1 z2 z3 z4 z5) ⟨F', [], [], e.trans e', PinOk.nil, RepA.one .str, envNo rfl, hs'⟩
  · exact k2 _ _ _ _ _ H (h2 z1 z2 z3 z4) ⟨F, [], e, envNo rfl, by simpa using hs, rfl, .inl ⟨rfl, rfl⟩⟩
  · exact k2 _ _ _ _ _ H' (h3 hb) ⟨F', [], e.trans e', envNo rfl, hs', rfl, .inr ⟨by simp, d, [.int q, .int p], rfl, hz.h, .cons (M := []) (N := []) .int (RepA.one .int)⟩⟩
/-- a rule without a fault, behind the lengths of those before it -/
def F_fault : WF := fun xs P _ => ∃ r ts, xs = [ruL r, .lst true (lenL ts)] ∧ RuK ts.length ts r ∧ (∀ i, (gt ts i).length ≤ 1000000000000) ∧ (ruT ts r).length ≤ 1000000000000 ∧ P .non [none, some (.lst true (lenL ts))]
theorem br_fault (vs : List V) (H : Hp) (Q : VK) (E : XK) (h : spOf K 2 F_fault vs H Q E) : sp_fault K vs H Q E := by
  obtain ⟨F0, Mf, xs, P, PX, hl, _, st, ⟨r, ts, rfl, h1, h2, h3, hP⟩, k1, k2⟩ := h
  obtain ⟨F, v1, v2, N1, N2, e, rfl, r1, r2, hs⟩ := stt2 (v1 := .non) (v2 := .non) st
  obtain ⟨a, rfl, hT⟩ := rep_ruV r1
  have hn := r1.fz_nil (inferInstance : Fzc (ruL r)).h
  subst hn
  cases r2 with
  | lstO hr =>
    obtain ⟨rfl, rfl⟩ := repA_lens hr
    rename_i q
    refine ⟨F, (q, .lst (lens ts)) :: Mf, a, q, r, ts, by simpa using hs, rfl, .inr hT, im0, h1, h2, h3, fun F' H' e' hs' => ?_⟩
    have hr' : RepA K F' (lens ts) (lenL ts) [] := hr.mono e'
    exact k1 _ _ _ H' hP ⟨F', [], [(q, .lst (lens ts))] ++ [], e.trans e', PinOk.nil, RepA.one .non, .no (.yes (.lstO hr') .nil), by simpa using hs'⟩
end
/-! rules' lengths, a list or a tuple of rules checked -/
abbrev V_rule_length : WF := v_rule_length
theorem rule_length_ok {o : Bool} {r : Ru} {ts : List Tx} {P : Vl → Ev → Prop} {PX : Xi} (hk : RuK ts.length ts r) (hle : ∀ i, (gt ts i).length ≤ 1000000000000) (k : P (.int ((ruT ts r).length : Int)) [none, some (.lst o (lenL ts))]) : V_rule_length [ruL r, .lst o (lenL ts)] P PX := by
  unfold V_rule_length
  rw [w_rule_length]
  unfold s_rule_length
  cases r with
  | wri w =>
    unfold ruL
    walk_at "vv"
    rw [show decide (("letters" : Str) = "letters") = true by decide +kernel]
    walk_at "vv"
    refine v_lenS (Nat.le_trans hk.1 (by decide)) ?_
    walk_at "vv"
    exact k
  | join i j =>
    obtain ⟨hi, hj⟩ := hk
    unfold ruL
    walk_at "vv"
    rw [show decide (("join" : Str) = "letters") = false by decide +kernel]
    walk_at "vv"
    rw [show decide (("join" : Str) = "join") = true by decide +kernel]
    walk_at "vv"
    refine v_ixL (lenL_get hi) ?_
    walk_at "vv"
    refine v_ixL (lenL_get hj) ?_
    walk_at "vv"
    rw [show ((gt ts i).length : Int) + ((gt ts j).length : Int) = ((ruT ts (.join i j)).length : Int) by show _ = (((gt ts i ++ gt ts j).length : Nat) : Int); rw [List.length_append]; omega]
    exact k
  | power i t =>
    obtain ⟨hi, ht⟩ := hk
    have h1 := hle i
    unfold ruL
    walk_at "vv"
    rw [show decide (("power" : Str) = "letters") = false by decide +kernel]
    walk_at "vv"
    rw [show decide (("power" : Str) = "join") = false by decide +kernel]
    walk_at "vv"
    rw [show decide (("power" : Str) = "power") = true by decide +kernel]
    walk_at "vv"
    refine v_ixL (lenL_get hi) ?_
    walk_at "vv"
    rw [show ((gt ts i).length : Int) * (t : Int) = ((ruT ts (.power i t)).length : Int) by
      show _ = (((List.replicate t (gt ts i)).flatten.length : Nat) : Int)
      rw [rep_len, Nat.mul_comm, Int.natCast_mul]]
    exact k
  | part i a b =>
    obtain ⟨hi, hab, hb⟩ := hk
    unfold ruL
    walk_at "vv"
    rw [show decide (("part" : Str) = "letters") = false by decide +kernel]
    walk_at "vv"
    rw [show decide (("part" : Str) = "join") = false by decide +kernel]
    walk_at "vv"
    rw [show decide (("part" : Str) = "power") = false by decide +kernel]
    walk_at "vv"
    rw [show decide (("part" : Str) = "part") = true by decide +kernel]
    walk_at "vv"
    rw [show (b : Int) - (a : Int) = ((ruT ts (.part i a b)).length : Int) by
      show _ = ((((gt ts i).take b).drop a).length : Int)
      rw [cut_len hb]; omega]
    exact k
  | back i =>
    have hi : i < ts.length := hk
    unfold ruL
    walk_at "vv"
    rw [show decide (("back" : Str) = "letters") = false by decide +kernel]
    walk_at "vv"
    rw [show decide (("back" : Str) = "join") = false by decide +kernel]
    walk_at "vv"
    rw [show decide (("back" : Str) = "power") = false by decide +kernel]
    walk_at "vv"
    rw [show decide (("back" : Str) = "part") = false by decide +kernel]
    walk_at "vv"
    refine v_ixL (lenL_get hi) ?_
    walk_at "vv"
    rw [show ((gt ts i).length : Int) = ((ruT ts (.back i)).length : Int) by show _ = (((gt ts i).reverse.length : Nat) : Int); rw [List.length_reverse]]
    exact k
theorem lenL_take {ts : List Tx} {i : Nat} (h : i < ts.length) : lenL (ts.take (i + 1)) = lenL (ts.take i) ++ [.int ((gt ts i).length : Int)] := by rw [take_one (at_gt h), lenL_snoc]
/-- the rules and texts ahead of the i-th one -/
theorem tab_pre {rs : List Ru} {ts : List Tx} (h : Tab rs ts) {i : Nat} {r : Ru} (hr : rs[i]? = some r) : RuK (ts.take i).length (ts.take i) r ∧ ruT (ts.take i) r = gt ts i ∧ (∀ j, (gt (ts.take i) j).length ≤ 1000000000000) ∧ i < ts.length := by
  obtain ⟨h1, h2, h3⟩ := h.pre hr
  have hi := (List.getElem?_eq_some_iff.mp hr).1
  exact ⟨by rw [h3]; exact h1, h2, fun j => gt_take_le h.le i j, by rw [h.ln]; exact hi⟩
abbrev V_lengths_of : WF := v_lengths_of V_rule_length
theorem lengths_of_ok {rs : List Ru} {ts : List Tx} {P : Vl → Ev → Prop} {PX : Xi} (hT : Tab rs ts) (hl : rs.length ≤ 1000000) (k : P (.tup (lenL ts)) [none]) : V_lengths_of [.tup (rs.map ruL)] P PX := by
  unfold V_lengths_of
  rw [w_lengths_of]
  unfold s_lengths_of
  have htl := hT.ln
  walk_at "vv"
  refine ⟨fun i env => ∃ o, env = [some (.tup (rs.map ruL)), some (.lst true (lenL (ts.take i))), o] ∧ i ≤ rs.length, ⟨none, rfl, Nat.zero_le _⟩, ?_, ?_⟩
  · rintro i x env hi hx ⟨o, rfl, hle⟩
    rw [List.getElem?_map] at hx
    obtain ⟨r, hr, rfl⟩ := Option.map_eq_some_iff.mp hx
    obtain ⟨h1, h2, h3, h4⟩ := tab_pre hT hr
    walk_at "vv"
    refine rule_length_ok h1 h3 ?_
    walk_at "vv"
    refine v_app (by rw [lenL_len, List.length_take]; omega) ?_
    walk_at "vv"
    rw [h2]
    exact ⟨_, by rw [lenL_take h4], by omega⟩
  · rintro env ⟨o, rfl, hle⟩
    rw [List.length_map, ← htl, List.take_of_length_le (Nat.le_refl _)]
    walk_at "vv"
    exact k
abbrev V_check_rules : WF := v_check_rules F_fault V_rule_length
@[reducible] def lt2 (b : Bool) (xs : List Vl) : Vl := if b = true then .lst false xs else .tup xs
theorem check_rules_ok {b : Bool} {rs : List Ru} {ts : List Tx} {P : Vl → Ev → Prop} {PX : Xi} (hT : Tab rs ts) (h0 : 1 ≤ rs.length) (hl : rs.length ≤ 60) (k : P .non [none]) : V_check_rules [lt2 b (rs.map ruL)] P PX := by
  have htl := hT.ln
  have main : LoopI (rs.map ruL).length (fun i y => ∃ z, (rs.map ruL)[i]? = some z ∧ y = .tup [.int (i : Int), z]) (gTp 2 (gC (gNm 2) (gC (gNm 3) gN)))
      (sSeq (sAsg (eCall F_fault [none, some 1] xNo (aCons (eFrz 3) (aIo 1 aNil))) (gNm 4)) (sSeq (sIf (tB0 (bTest (bOp (wIsN true) (bVar 4) (bC .non)))) sDead sNext) (sDrop (eMs 1 mApp (aCons (eCall V_rule_length [none, some 1] xNo (aCons (eFrz 3) (aIo 1 aNil))) aNil)))))
      (VE.mk (fun env => nOut [false] env (P .non)) (fun x env => nOut [false] env (P x)) (fun _ => False) (fun _ => False)) [some (lt2 b (rs.map ruL)), some (.lst true []), none, none, none] := by
    refine ⟨fun i env => ∃ o2 o3 o4, env = [some (lt2 b (rs.map ruL)), some (.lst true (lenL (ts.take i))), o2, o3, o4] ∧ i ≤ rs.length, ⟨none, none, none, rfl, Nat.zero_le _⟩, ?_, ?_⟩
    · rintro i x env hi ⟨z, hz, rfl⟩ ⟨o2, o3, o4, rfl, hle⟩
      rw [List.getElem?_map] at hz
      obtain ⟨r, hr, rfl⟩ := Option.map_eq_some_iff.mp hz
      obtain ⟨h1, h2, h3, h4⟩ := tab_pre hT hr
      walk_at "vv"
      refine ⟨r, ts.take i, rfl, h1, h3, by rw [h2]; exact hT.le i, ?_⟩
      walk_at "vv"
      refine rule_length_ok h1 h3 ?_
      walk_at "vv"
      refine v_app (by rw [lenL_len, List.length_take]; omega) ?_
      walk_at "vv"
      rw [h2]
      exact ⟨_, _, _, by rw [lenL_take h4], by omega⟩
    · rintro env ⟨o2, o3, o4, rfl, hle⟩
      walk_at "vv"
      exact k
  unfold V_check_rules
  rw [w_check_rules]
  unfold s_check_rules
  cases b with
  | true =>
    show sSeq _ _ _ [some (.lst false (rs.map ruL)), none, none, none, none]
    walk_at "vv"
    rw [List.length_map]
    refine ifPT (by omega) ?_
    walk_at "vv"
    rw [decide_eq_true (by omega)]
    walk_at "vv"
    exact main
  | false =>
    show sSeq _ _ _ [some (.tup (rs.map ruL)), none, none, none, none]
    walk_at "vv"
    rw [List.length_map]
    refine ifPT (by omega) ?_
    walk_at "vv"
    rw [decide_eq_true (by omega)]
    walk_at "vv"
    exact main
/-! a text made -/
instance {r : Ru} : St1 (wTupOf [ruL r] Q) (Q (ruL r)) := ⟨fun h => by cases r <;> exact ⟨_, _, rfl, .inr rfl, rfl, h⟩⟩
instance {b : Bool} {xs : List Vl} [f : FzAc xs] : Fzc (lt2 b xs) := ⟨by cases b; exact (inferInstance : Fzc (.tup xs)).h; rfl⟩
theorem v_ilt {b : Bool} {xs : List Vl} {Q : List Vl → Prop} (h : Vl.fzA xs = true) (k : Q xs) : nILT (lt2 b xs) Q := by
  cases b with
  | true => exact .inl ⟨_, rfl, k⟩
  | false => exact .inr ⟨_, rfl, h, k⟩
abbrev V_Text_init : WF := v_Text_init V_check_rules V_lengths_of
theorem TxK.lns {rs : List Ru} {ts : List Tx} (k : TxK rs ts) : 1 ≤ ts.length := by
  have := k.tab.ln
  have := k.ne
  omega
theorem Text_init_ok {b : Bool} {rs : List Ru} {ts : List Tx} {P : Vl → Ev → Prop} {PX : Xi} (kt : TxK rs ts) (hl : rs.length ≤ 60) (k : P .non [some (.obj true .Text [.tup (rs.map ruL), .tup (lenL ts), .int ((whole ts).length : Int)]), none]) : V_Text_init [.obj true .Text [], lt2 b (rs.map ruL)] P PX := by
  have main : ∀ P : Vl → Ev → Prop, P (.lst true (rs.map ruL)) [some (.obj true .Text []), some (lt2 b (rs.map ruL)), none] → CompI (rs.map ruL).length (fun i y => (rs.map ruL)[i]? = some y) (gNm 2) tYs (eB (bCB wTupOf (bCons (bVar 2) bNil))) [2] [some (.obj true .Text []), some (lt2 b (rs.map ruL)), none] P := by
    intro P hP
    refine ⟨by rw [List.length_map]; omega, fun i acc env => env = [some (.obj true .Text []), some (lt2 b (rs.map ruL)), none] ∧ acc = (rs.map ruL).take i, ⟨rfl, rfl⟩, ?_, ?_⟩
    · rintro i x acc env hi hx ha ⟨rfl, rfl⟩
      rw [List.getElem?_map] at hx
      obtain ⟨r, hr, rfl⟩ := Option.map_eq_some_iff.mp hx
      walk_at "vv"
      refine ⟨rfl, ?_⟩
      rw [← List.map_take, ← List.map_take, take_one hr, List.map_append]
      rfl
    · rintro acc env ha ⟨rfl, rfl⟩
      rw [List.take_of_length_le (Nat.le_refl _)]
      exact hP
  unfold V_Text_init
  rw [w_Text_init]
  unfold s_Text_init
  walk_at "vv"
  refine check_rules_ok kt.tab kt.ne hl ?_
  walk_at "vv"
  refine v_ilt (fzA_map fun r => (inferInstance : Fzc (ruL r)).h) (main _ ?_)
  walk_at "vv"
  refine lengths_of_ok kt.tab (by omega) ?_
  walk_at "vv"
  refine v_ixT (lenL_last kt.lns) ?_
  walk_at "vv"
  exact k
abbrev V_Text_of_letters : WF := v_Text_of_letters V_Text_init
theorem tx_one {w : Tx} (h : w.length ≤ 64) (hs : ∀ c ∈ w, c ∈ signs) : TxK [.wri w] [w] :=
  ⟨Tab.nil.snoc (r := .wri w) ⟨h, hs⟩ (show w.length ≤ 1000000000000 by omega), by simp, by simp⟩
theorem Text_of_letters_ok {w : Tx} {P : Vl → Ev → Prop} {PX : Xi} (h : w.length ≤ 64) (hs : ∀ c ∈ w, c ∈ signs) (k : P (txtV [.wri w] [w]) [none, none]) : V_Text_of_letters [.cls .Text, .str (S w)] P PX := by
  unfold V_Text_of_letters
  rw [w_Text_of_letters]
  unfold s_Text_of_letters
  walk_at "vv"
  refine Text_init_ok (b := false) (rs := [.wri w]) (ts := [w]) (tx_one h hs) (by simp) ?_
  walk_at "vv"
  exact k
end Tr
end Sh


set_option Elab.async false
set_option linter.all false
set_option maxRecDepth 100000
set_option maxHeartbeats 4000000
namespace Sh
open PySem PySem.Spec PyProof.Rows L2
open SX (S)
namespace Tr
set_option synthInstance.maxSize 4096
set_option synthInstance.maxHeartbeats 400000
local macro_rules | `(tactic| walk_at "vv1") => `(tactic| first
  | refine go ?_
  | (with_reducible refine v_mulL (by omega) (by omega) ?_) | (with_reducible refine v_mulR (by omega) (by omega) ?_) | (with_reducible refine v_divI (by omega) (by omega) ?_) | (with_reducible refine v_modI (by omega) ?_)
  | (with_reducible refine v_r1 (by omega) (by omega) ?_) | (with_reducible refine v_r2 (by omega) (by omega) (by omega) (by omega) ?_))
local macro_rules | `(tactic| walk_at "vv") => `(tactic| repeat (walk_at "vv1"))
def N_law_letters : List Str := ["_law_pool_here", "_law_most", "_law_signs", "_law_kind", "_law_base", "_law_found", "_law_k", "_law_letter"]
theorem st_law_letters {v0 v1 : V} : start N_law_letters [v0, v1] = [some v0, some v1, none, none, none, none, none, none] := rfl
def t_law_letters (K : PySem.W.Frag) (sp_law_take : Sp) : TS := (tSeq (tAsg (tC (.str " !\"#$&'()*+,-./0123456789:;<=>?@ABCDEFGHIJKLMNOPQRSTUVWXYZ[\\]^_`abcdefghijklmnopqrstuvwxyz{|}~")) (gName 2)) (tSeq (tAsg (tCall sp_law_take [] E0 (tCons (tVar 0) (tCons (tC (.int 6)) tNil))) (gName 3)) (tSeq (tAsg (tCall sp_law_take [] E0 (tCons (tVar 0) (tCons (tC (.int 90)) tNil))) (gName 4)) (tSeq (tAsg (tC (.str "")) (gName 5)) (tSeq (tFor (iRng1 (tCons (tCall sp_law_take [] E0 (tCons (tVar 0) (tCons (tOp rAddI (tVar 1) (tC (.int 1))) tNil))) tNil)) (gName 6) (tSeq (tAsg (tOp (rIx K) (tVar 2) (tOp rAddI (tVar 4) (tCall sp_law_take [] E0 (tCons (tVar 0) (tCons (tC (.int 2)) tNil))))) (gName 7)) (Evl.tCut (tIfS (tTest (tOp rEq (tVar 3) (tC (.int 0)))) (tAsg (tOp (rIx K) (tVar 2) (tCall sp_law_take [] E0 (tCons (tVar 0) (tCons (tC (.int 94)) tNil)))) (gName 7)) tNext) (Evl.tCut (tIfS (tTest (tOp rEq (tVar 3) (tC (.int 1)))) (tAsg (tOp (rIx K) (tC (.str "abcde")) (tCall sp_law_take [] E0 (tCons (tVar 0) (tCons (tC (.int 5)) tNil)))) (gName 7)) tNext) (Evl.tCut (tIfS (tTest (tOp rGtI (tVar 3) (tC (.int 3)))) (tAsg (tOp (rIx K) (tC (.str "ab")) (tCall sp_law_take [] E0 (tCons (tVar 0) (tCons (tC (.int 2)) tNil)))) (gName 7)) tNext) (tAsg (tOp rAddS (tVar 5) (tVar 7)) (gName 5))))))) (tRet (tVar 5)))))))
def s_law_letters (φ_law_take : WF) (ξ : Xi) : WS := (sSeq (sAsg (eB (bC (.str " !\"#$&'()*+,-./0123456789:;<=>?@ABCDEFGHIJKLMNOPQRSTUVWXYZ[\\]^_`abcdefghijklmnopqrstuvwxyz{|}~"))) (gNm 2)) (sSeq (sAsg (eCall φ_law_take [some 0, none] xNo (aIo 0 (aCons (eB (bC (.int 6))) aNil))) (gNm 3)) (sSeq (sAsg (eCall φ_law_take [some 0, none] xNo (aIo 0 (aCons (eB (bC (.int 90))) aNil))) (gNm 4)) (sSeq (sAsg (eB (bC (.str ""))) (gNm 5)) (sSeq (sFor (iR1 (aCons (eCall φ_law_take [some 0, none] xNo (aIo 0 (aCons (eB (bOp wAddI (bVar 1) (bC (.int 1)))) aNil))) aNil)) (gNm 6) (sSeq (sAsg (eOp wIx (eFrz 2) (eOp wAddI (eFrz 4) (eCall φ_law_take [some 0, none] xNo (aIo 0 (aCons (eB (bC (.int 2))) aNil))))) (gNm 7)) (sCut (sIf (tB0 (bTest (bOp (wEqB false) (bVar 3) (bC (.int 0))))) (sAsg (eOp wIx (eFrz 2) (eCall φ_law_take [some 0, none] xNo (aIo 0 (aCons (eB (bC (.int 94))) aNil)))) (gNm 7)) sNext) (sCut (sIf (tB0 (bTest (bOp (wEqB false) (bVar 3) (bC (.int 1))))) (sAsg (eOp wIx (eB (bC (.str "abcde"))) (eCall φ_law_take [some 0, none] xNo (aIo 0 (aCons (eB (bC (.int 5))) aNil)))) (gNm 7)) sNext) (sCut (sIf (tB0 (bTest (bOp wGtI (bVar 3) (bC (.int 3))))) (sAsg (eOp wIx (eB (bC (.str "ab"))) (eCall φ_law_take [some 0, none] xNo (aIo 0 (aCons (eB (bC (.int 2))) aNil)))) (gNm 7)) sNext) (sAsg (eB (bOp wAddS (bVar 5) (bVar 7))) (gNm 5))))))) (sRet (eMov 5)))))))
theorem snd_law_letters {K : PySem.W.Frag} (φ_law_take : WF) (v0 v1 : V) (E : XK) (ξ : Xi) : SS K [some v0, none] (fun _ => E) ξ (t_law_letters K (spOf K 2 φ_law_take)) (s_law_letters φ_law_take ξ) := by
  unfold t_law_letters s_law_letters
  exact (ss_seq (ss_asg (se_b sb_str) (sg_name (.inr rfl))) (ss_seq (ss_asg (se_call rfl (sk_io (sk_ex (se_b sb_int) sk_nil))) (sg_name (.inr rfl))) (ss_seq (ss_asg (se_call rfl (sk_io (sk_ex (se_b sb_int) sk_nil))) (sg_name (.inr rfl))) (ss_seq (ss_asg (se_b sb_str) (sg_name (.inr rfl))) (ss_seq (ss_for (si_rng1 (sa_cons (se_call rfl (sk_io (sk_ex (se_b (sb_op sr_addI sb_var sb_int)) sk_nil))) sa_nil)) (sg_name (.inr rfl)) (ss_seq (ss_asg (se_op sr_ix se_frz (se_op sr_addI se_frz (se_call rfl (sk_io (sk_ex (se_b sb_int) sk_nil))))) (sg_name (.inr rfl))) (ss_cut (ss_if (st_b (sb_test (sb_op sr_eq sb_var sb_int))) (ss_asg (se_op sr_ix se_frz (se_call rfl (sk_io (sk_ex (se_b sb_int) sk_nil)))) (sg_name (.inr rfl))) ss_next) (ss_cut (ss_if (st_b (sb_test (sb_op sr_eq sb_var sb_int))) (ss_asg (se_op sr_ix (se_b sb_str) (se_call rfl (sk_io (sk_ex (se_b sb_int) sk_nil)))) (sg_name (.inr rfl))) ss_next) (ss_cut (ss_if (st_b (sb_test (sb_op sr_gtI sb_var sb_int))) (ss_asg (se_op sr_ix (se_b sb_str) (se_call rfl (sk_io (sk_ex (se_b sb_int) sk_nil)))) (sg_name (.inr rfl))) ss_next) (ss_asg (se_b (sb_op sr_addS sb_var sb_var)) (sg_name (.inr rfl)))))))) (ss_ret se_mov))))))
def v_law_letters (φ_law_take : WF) : WF := wf (s_law_letters φ_law_take) [true, false] 8
theorem w_law_letters (φ_law_take : WF) (x0 x1 : Vl) (P : Vl → Ev → Prop) (PX : Xi) : v_law_letters φ_law_take [x0, x1] P PX = s_law_letters φ_law_take (fun C fs env => nOut [true, false] env (PX C fs)) (VE.mk (fun env => nOut [true, false] env (P .non)) (fun x env => nOut [true, false] env (P x)) (fun _ => False) (fun _ => False)) [some x0, some x1, none, none, none, none, none, none] := rfl
theorem pure_law_letters {K : PySem.W.Frag} (φ_law_take : WF) (vs : List V) (H : Hp) (Q : VK) (E : XK) (h : spOf K 2 (v_law_letters φ_law_take) vs H Q E) : t_law_letters K (spOf K 2 φ_law_take) { nx := fun _ H' => Q .non H', rt := Q } (start N_law_letters vs) H :=
  body_ok (N := N_law_letters) (pn := [true, false]) (t := fun E => t_law_letters K (spOf K 2 φ_law_take)) (fun vs hl E ξ => match vs, hl with | [v0, v1], _ => snd_law_letters φ_law_take v0 v1 E ξ) h
def N_law_add : List Str := ["_law_box_here", "_law_rule", "_law_text"]
theorem st_law_add {v0 v1 v2 : V} : start N_law_add [v0, v1, v2] = [some v0, some v1, some v2] := rfl
def t_law_add (K : PySem.W.Frag) : TS := (tSeq (sDPut (tVar 0) (tC (.str "rules")) (tOp rCat (tDGet (tVar 0) (tC (.str "rules"))) (tLst (tCons (tVar 1) tNil)))) (tSeq (sDPut (tVar 0) (tC (.str "texts")) (tOp rCat (tDGet (tVar 0) (tC (.str "texts"))) (tLst (tCons (tVar 2) tNil)))) (tRet (tOp rSubI (tCB (rLn K) (tCons (tDGet (tVar 0) (tC (.str "rules"))) tNil)) (tC (.int 1))))))
def s_law_add (ξ : Xi) : WS := (sSeq (sDPutV (gSl 0) (pSl 0) (bC (.str "rules")) (eFz (eCat (eB (bDGet (bVar 0) (bC (.str "rules")))) (eLst (aCons (eFrz 1) aNil))))) (sSeq (sDPutV (gSl 0) (pSl 0) (bC (.str "texts")) (eFz (eCat (eB (bDGet (bVar 0) (bC (.str "texts")))) (eLst (aCons (eFrz 2) aNil))))) (sRet (eB (bOp wSubI (bCB wLen (bCons (bDGet (bVar 0) (bC (.str "rules"))) bNil)) (bC (.int 1)))))))
theorem snd_law_add {K : PySem.W.Frag} (v0 v1 v2 : V) (E : XK) (ξ : Xi) : SS K [some v0, none, none] (fun _ => E) ξ (t_law_add K) (s_law_add ξ) := by
  unfold t_law_add s_law_add
  exact (ss_seq (ss_dPut spl_slot sb_str (se_fz (se_cat (se_b (sb_dGet sb_var sb_str)) (se_lst (sa_cons se_frz sa_nil))))) (ss_seq (ss_dPut spl_slot sb_str (se_fz (se_cat (se_b (sb_dGet sb_var sb_str)) (se_lst (sa_cons se_frz sa_nil))))) (ss_ret (se_b (sb_op sr_subI (sb_cb sr_len (sb_cons (sb_dGet sb_var sb_str) sb_nil)) sb_int)))))
def v_law_add : WF := wf (s_law_add) [true, false, false] 3
theorem w_law_add (x0 x1 x2 : Vl) (P : Vl → Ev → Prop) (PX : Xi) : v_law_add [x0, x1, x2] P PX = s_law_add (fun C fs env => nOut [true, false, false] env (PX C fs)) (VE.mk (fun env => nOut [true, false, false] env (P .non)) (fun x env => nOut [true, false, false] env (P x)) (fun _ => False) (fun _ => False)) [some x0, some x1, some x2] := rfl
theorem pure_law_add {K : PySem.W.Frag} (vs : List V) (H : Hp) (Q : VK) (E : XK) (h : spOf K 3 (v_law_add) vs H Q E) : t_law_add K { nx := fun _ H' => Q .non H', rt := Q } (start N_law_add vs) H :=
  body_ok (N := N_law_add) (pn := [true, false, false]) (t := fun E => t_law_add K) (fun vs hl E ξ => match vs, hl with | [v0, v1, v2], _ => snd_law_add v0 v1 v2 E ξ) h
def N_law_box : List Str := []
theorem st_law_box  : start N_law_box [] = [] := rfl
def t_law_box (K : PySem.W.Frag) : TS := (tRet (tDisp [((tC (.str "rules")), (tLst tNil)), ((tC (.str "texts")), (tLst tNil))]))
def s_law_box (ξ : Xi) : WS := (sRet (eDisp ["rules", "texts"] (aCons (eFz (eLst aNil)) (aCons (eFz (eLst aNil)) aNil))))
theorem snd_law_box {K : PySem.W.Frag} (E : XK) (ξ : Xi) : SS K [] (fun _ => E) ξ (t_law_box K) (s_law_box ξ) := by
  unfold t_law_box s_law_box
  exact (ss_ret (se_disp (by decide +kernel) (by decide) (sd_cons (se_fz (se_lst sa_nil)) (sd_cons (se_fz (se_lst sa_nil)) sd_nil))))
def v_law_box : WF := wf (s_law_box) [] 0
theorem w_law_box (P : Vl → Ev → Prop) (PX : Xi) : v_law_box [] P PX = s_law_box (fun C fs env => nOut [] env (PX C fs)) (VE.mk (fun env => nOut [] env (P .non)) (fun x env => nOut [] env (P x)) (fun _ => False) (fun _ => False)) [] := rfl
theorem pure_law_box {K : PySem.W.Frag} (vs : List V) (H : Hp) (Q : VK) (E : XK) (h : spOf K 0 (v_law_box) vs H Q E) : t_law_box K { nx := fun _ H' => Q .non H', rt := Q } (start N_law_box vs) H :=
  body_ok (N := N_law_box) (pn := []) (t := fun E => t_law_box K) (fun vs hl E ξ => match vs, hl with | [], _ => snd_law_box  E ξ) h
def N_law_power_rule : List Str := ["_law_pool_here", "_law_box_here", "_law_most", "_law_number", "_law_text", "_law_times"]
theorem st_law_power_rule {v0 v1 v2 : V} : start N_law_power_rule [v0, v1, v2] = [some v0, some v1, some v2, none, none, none] := rfl
def t_law_power_rule (K : PySem.W.Frag) (sp_law_take : Sp) (sp_law_add : Sp) : TS := (tSeq (tAsg (tCall sp_law_take [] E0 (tCons (tVar 0) (tCons (tCB (rLn K) (tCons (tDGet (tVar 1) (tC (.str "rules"))) tNil)) tNil))) (gName 3)) (tSeq (tAsg (tOp (rIx K) (tDGet (tVar 1) (tC (.str "texts"))) (tVar 3)) (gName 4)) (tSeq (tAsg (tCall sp_law_take [] E0 (tCons (tVar 0) (tCons (tC (.int 5)) tNil))) (gName 5)) (Evl.tCut (tIfS (tAnd (tTest (tOp rNe (tVar 4) (tC (.str "")))) (tTest (tOp rEq (tCall sp_law_take [] E0 (tCons (tVar 0) (tCons (tC (.int 2)) tNil))) (tC (.int 1))))) (tAsg (tCall sp_law_take [] E0 (tCons (tVar 0) (tCons (tOp rAddI (tOp rDivI (tVar 2) (tCB (rLn K) (tCons (tVar 4) tNil))) (tC (.int 1))) tNil))) (gName 5)) tNext) (Evl.tCut (tIfS (tTest (tOp rGtI (tOp rMulI (tCB (rLn K) (tCons (tVar 4) tNil)) (tVar 5)) (tVar 2))) (tAsg (tOp rDivI (tVar 2) (tCB (rLn K) (tCons (tVar 4) tNil))) (gName 5)) tNext) (tRet (tCall sp_law_add [] E0 (tCons (tVar 1) (tCons (tTup (tCons (tC (.str "power")) (tCons (tVar 3) (tCons (tVar 5) tNil)))) (tCons (tOp rRepS (tVar 4) (tVar 5)) tNil))))))))))
def s_law_power_rule (φ_law_take : WF) (φ_law_add : WF) (ξ : Xi) : WS := (sSeq (sAsg (eCall φ_law_take [some 0, none] xNo (aIo 0 (aCons (eB (bCB wLen (bCons (bDGet (bVar 1) (bC (.str "rules"))) bNil))) aNil))) (gNm 3)) (sSeq (sAsg (eB (bOp wIx (bDGet (bVar 1) (bC (.str "texts"))) (bVar 3))) (gNm 4)) (sSeq (sAsg (eCall φ_law_take [some 0, none] xNo (aIo 0 (aCons (eB (bC (.int 5))) aNil))) (gNm 5)) (sCut (sIf (tAn (tB0 (bTest (bOp (wEqB true) (bVar 4) (bC (.str ""))))) (tTst (eOp (wEqB false) (eCall φ_law_take [some 0, none] xNo (aIo 0 (aCons (eB (bC (.int 2))) aNil))) (eB (bC (.int 1)))))) (sAsg (eCall φ_law_take [some 0, none] xNo (aIo 0 (aCons (eB (bOp wAddI (bOp wDivI (bVar 2) (bCB wLen (bCons (bVar 4) bNil))) (bC (.int 1)))) aNil))) (gNm 5)) sNext) (sCut (sIf (tB0 (bTest (bOp wGtI (bOp wMulI (bCB wLen (bCons (bVar 4) bNil)) (bVar 5)) (bVar 2)))) (sAsg (eB (bOp wDivI (bVar 2) (bCB wLen (bCons (bVar 4) bNil)))) (gNm 5)) sNext) (sRet (eCall φ_law_add [some 1, none, none] xNo (aIo 1 (aCons (eTup (aCons (eB (bC (.str "power"))) (aCons (eFrz 3) (aCons (eFrz 5) aNil)))) (aCons (eB (bOp wRepS (bVar 4) (bVar 5))) aNil))))))))))
theorem snd_law_power_rule {K : PySem.W.Frag} (φ_law_take : WF) (φ_law_add : WF) (v0 v1 v2 : V) (E : XK) (ξ : Xi) : SS K [some v0, some v1, none] (fun _ => E) ξ (t_law_power_rule K (spOf K 2 φ_law_take) (spOf K 3 φ_law_add)) (s_law_power_rule φ_law_take φ_law_add ξ) := by
  unfold t_law_power_rule s_law_power_rule
  exact (ss_seq (ss_asg (se_call rfl (sk_io (sk_ex (se_b (sb_cb sr_len (sb_cons (sb_dGet sb_var sb_str) sb_nil))) sk_nil))) (sg_name (.inr rfl))) (ss_seq (ss_asg (se_b (sb_op sr_ix (sb_dGet sb_var sb_str) sb_var)) (sg_name (.inr rfl))) (ss_seq (ss_asg (se_call rfl (sk_io (sk_ex (se_b sb_int) sk_nil))) (sg_name (.inr rfl))) (ss_cut (ss_if (st_and (st_b (sb_test (sb_op sr_ne sb_var sb_str))) (st_test (se_op sr_eq (se_call rfl (sk_io (sk_ex (se_b sb_int) sk_nil))) (se_b sb_int)))) (ss_asg (se_call rfl (sk_io (sk_ex (se_b (sb_op sr_addI (sb_op sr_divI sb_var (sb_cb sr_len (sb_cons sb_var sb_nil))) sb_int)) sk_nil))) (sg_name (.inr rfl))) ss_next) (ss_cut (ss_if (st_b (sb_test (sb_op sr_gtI (sb_op sr_mulI (sb_cb sr_len (sb_cons sb_var sb_nil)) sb_var) sb_var))) (ss_asg (se_b (sb_op sr_divI sb_var (sb_cb sr_len (sb_cons sb_var sb_nil)))) (sg_name (.inr rfl))) ss_next) (ss_ret (se_call rfl (sk_io (sk_ex (se_tup (sa_cons (se_b sb_str) (sa_cons se_frz (sa_cons se_frz sa_nil)))) (sk_ex (se_b (sb_op sr_repS sb_var sb_var)) sk_nil))))))))))
def v_law_power_rule (φ_law_take : WF) (φ_law_add : WF) : WF := wf (s_law_power_rule φ_law_take φ_law_add) [true, true, false] 6
theorem w_law_power_rule (φ_law_take : WF) (φ_law_add : WF) (x0 x1 x2 : Vl) (P : Vl → Ev → Prop) (PX : Xi) : v_law_power_rule φ_law_take φ_law_add [x0, x1, x2] P PX = s_law_power_rule φ_law_take φ_law_add (fun C fs env => nOut [true, true, false] env (PX C fs)) (VE.mk (fun env => nOut [true, true, false] env (P .non)) (fun x env => nOut [true, true, false] env (P x)) (fun _ => False) (fun _ => False)) [some x0, some x1, some x2, none, none, none] := rfl
theorem pure_law_power_rule {K : PySem.W.Frag} (φ_law_take : WF) (φ_law_add : WF) (vs : List V) (H : Hp) (Q : VK) (E : XK) (h : spOf K 3 (v_law_power_rule φ_law_take φ_law_add) vs H Q E) : t_law_power_rule K (spOf K 2 φ_law_take) (spOf K 3 φ_law_add) { nx := fun _ H' => Q .non H', rt := Q } (start N_law_power_rule vs) H :=
  body_ok (N := N_law_power_rule) (pn := [true, true, false]) (t := fun E => t_law_power_rule K (spOf K 2 φ_law_take) (spOf K 3 φ_law_add)) (fun vs hl E ξ => match vs, hl with | [v0, v1, v2], _ => snd_law_power_rule φ_law_take φ_law_add v0 v1 v2 E ξ) h
def N_law_next_rule : List Str := ["_law_pool_here", "_law_box_here", "_law_most", "_law_kind", "_law_many", "_law_letters_here", "_law_number", "_law_text", "_law_other_here", "_law_start", "_law_stop"]
theorem st_law_next_rule {v0 v1 v2 : V} : start N_law_next_rule [v0, v1, v2] = [some v0, some v1, some v2, none, none, none, none, none, none, none, none] := rfl
def t_law_next_rule (K : PySem.W.Frag) (sp_law_take : Sp) (sp_law_letters : Sp) (sp_law_add : Sp) (sp_law_power_rule : Sp) : TS := (tSeq (tAsg (tCall sp_law_take [] E0 (tCons (tVar 0) (tCons (tC (.int 8)) tNil))) (gName 3)) (tSeq (tAsg (tCB (rLn K) (tCons (tDGet (tVar 1) (tC (.str "rules"))) tNil)) (gName 4)) (tSeq (tIfS (tOr (tTest (tOp rEq (tVar 4) (tC (.int 0)))) (tTest (tOp rEq (tVar 3) (tC (.int 0))))) (tSeq (tAsg (tCall sp_law_letters [] E0 (tCons (tVar 0) (tCons (tOp (rIx K) (tTup (tCons (tC (.int 6)) (tCons (tC (.int 30)) tNil))) (tCB rInt1 (tCons (tOp rEq (tCall sp_law_take [] E0 (tCons (tVar 0) (tCons (tC (.int 4)) tNil))) (tC (.int 3))) tNil))) tNil))) (gName 5)) (tRet (tCall sp_law_add [] E0 (tCons (tVar 1) (tCons (tTup (tCons (tC (.str "letters")) (tCons (tVar 5) tNil))) (tCons (tVar 5) tNil)))))) tNext) (tSeq (tAsg (tCall sp_law_take [] E0 (tCons (tVar 0) (tCons (tVar 4) tNil))) (gName 6)) (tSeq (tAsg (tOp (rIx K) (tDGet (tVar 1) (tC (.str "texts"))) (tVar 6)) (gName 7)) (Evl.tCut (tIfS (tTest (tOp rLtI (tVar 3) (tC (.int 4)))) (tSeq (tAsg (tCall sp_law_take [] E0 (tCons (tVar 0) (tCons (tVar 4) tNil))) (gName 8)) (Evl.tCut (tIfS (tTest (tOp rEq (tCall sp_law_take [] E0 (tCons (tVar 0) (tCons (tC (.int 2)) tNil))) (tC (.int 1)))) (tSeq (tAsg (tOp rSubI (tVar 4) (tC (.int 1))) (gName 6)) (tAsg (tCB rMax2 (tCons (tC (.int 0)) (tCons (tOp rSubI (tVar 4) (tC (.int 2))) tNil))) (gName 8))) tNext) (tIfS (tTest (tOp rLeI (tOp rAddI (tCB (rLn K) (tCons (tOp (rIx K) (tDGet (tVar 1) (tC (.str "texts"))) (tVar 6)) tNil)) (tCB (rLn K) (tCons (tOp (rIx K) (tDGet (tVar 1) (tC (.str "texts"))) (tVar 8)) tNil))) (tVar 2))) (tRet (tCall sp_law_add [] E0 (tCons (tVar 1) (tCons (tTup (tCons (tC (.str "join")) (tCons (tVar 6) (tCons (tVar 8) tNil)))) (tCons (tOp rAddS (tOp (rIx K) (tDGet (tVar 1) (tC (.str "texts"))) (tVar 6)) (tOp (rIx K) (tDGet (tVar 1) (tC (.str "texts"))) (tVar 8))) tNil))))) tNext))) tNext) (tSeq (tIfS (tTest (tOp rEq (tVar 3) (tC (.int 4)))) (tRet (tCall sp_law_add [] E0 (tCons (tVar 1) (tCons (tTup (tCons (tC (.str "back")) (tCons (tVar 6) tNil))) (tCons (tRevS K (tVar 7)) tNil))))) tNext) (tSeq (tIfS (tTest (tOp rEq (tVar 3) (tC (.int 5)))) (tSeq (tAsg (tCall sp_law_take [] E0 (tCons (tVar 0) (tCons (tOp rAddI (tCB (rLn K) (tCons (tVar 7) tNil)) (tC (.int 1))) tNil))) (gName 9)) (tSeq (tAsg (tOp rAddI (tVar 9) (tCall sp_law_take [] E0 (tCons (tVar 0) (tCons (tOp rAddI (tOp rSubI (tCB (rLn K) (tCons (tVar 7) tNil)) (tVar 9)) (tC (.int 1))) tNil)))) (gName 10)) (tRet (tCall sp_law_add [] E0 (tCons (tVar 1) (tCons (tTup (tCons (tC (.str "part")) (tCons (tVar 6) (tCons (tVar 9) (tCons (tVar 10) tNil))))) (tCons (tSl rSlS (tVar 7) (tPart (tVar 9)) (tPart (tVar 10))) tNil))))))) tNext) (tRet (tCall sp_law_power_rule [] E0 (tCons (tVar 0) (tCons (tVar 1) (tCons (tVar 2) tNil)))))))))))))
def s_law_next_rule (φ_law_take : WF) (φ_law_letters : WF) (φ_law_add : WF) (φ_law_power_rule : WF) (ξ : Xi) : WS := (sSeq (sAsg (eCall φ_law_take [some 0, none] xNo (aIo 0 (aCons (eB (bC (.int 8))) aNil))) (gNm 3)) (sSeq (sAsg (eB (bCB wLen (bCons (bDGet (bVar 1) (bC (.str "rules"))) bNil))) (gNm 4)) (sSeq (sIf (tB0 (bOr (bTest (bOp (wEqB false) (bVar 4) (bC (.int 0)))) (bTest (bOp (wEqB false) (bVar 3) (bC (.int 0)))))) (sSeq (sAsg (eCall φ_law_letters [some 0, none] xNo (aIo 0 (aCons (eOp wIx (eTup (aCons (eB (bC (.int 6))) (aCons (eB (bC (.int 30))) aNil))) (eCB wInt1 (aCons (eOp (wEqB false) (eCall φ_law_take [some 0, none] xNo (aIo 0 (aCons (eB (bC (.int 4))) aNil))) (eB (bC (.int 3)))) aNil))) aNil))) (gNm 5)) (sRet (eCall φ_law_add [some 1, none, none] xNo (aIo 1 (aCons (eTup (aCons (eB (bC (.str "letters"))) (aCons (eFrz 5) aNil))) (aCons (eFrz 5) aNil)))))) sNext) (sSeq (sAsg (eCall φ_law_take [some 0, none] xNo (aIo 0 (aCons (eFrz 4) aNil))) (gNm 6)) (sSeq (sAsg (eB (bOp wIx (bDGet (bVar 1) (bC (.str "texts"))) (bVar 6))) (gNm 7)) (sCut (sIf (tB0 (bTest (bOp wLtI (bVar 3) (bC (.int 4))))) (sSeq (sAsg (eCall φ_law_take [some 0, none] xNo (aIo 0 (aCons (eFrz 4) aNil))) (gNm 8)) (sCut (sIf (tTst (eOp (wEqB false) (eCall φ_law_take [some 0, none] xNo (aIo 0 (aCons (eB (bC (.int 2))) aNil))) (eB (bC (.int 1))))) (sSeq (sAsg (eB (bOp wSubI (bVar 4) (bC (.int 1)))) (gNm 6)) (sAsg (eB (bCB wMax2 (bCons (bC (.int 0)) (bCons (bOp wSubI (bVar 4) (bC (.int 2))) bNil)))) (gNm 8))) sNext) (sIf (tB0 (bTest (bOp wLeI (bOp wAddI (bCB wLen (bCons (bOp wIx (bDGet (bVar 1) (bC (.str "texts"))) (bVar 6)) bNil)) (bCB wLen (bCons (bOp wIx (bDGet (bVar 1) (bC (.str "texts"))) (bVar 8)) bNil))) (bVar 2)))) (sRet (eCall φ_law_add [some 1, none, none] xNo (aIo 1 (aCons (eTup (aCons (eB (bC (.str "join"))) (aCons (eFrz 6) (aCons (eFrz 8) aNil)))) (aCons (eB (bOp wAddS (bOp wIx (bDGet (bVar 1) (bC (.str "texts"))) (bVar 6)) (bOp wIx (bDGet (bVar 1) (bC (.str "texts"))) (bVar 8)))) aNil))))) sNext))) sNext) (sSeq (sIf (tB0 (bTest (bOp (wEqB false) (bVar 3) (bC (.int 4))))) (sRet (eCall φ_law_add [some 1, none, none] xNo (aIo 1 (aCons (eTup (aCons (eB (bC (.str "back"))) (aCons (eFrz 6) aNil))) (aCons (eB (bRevS (bVar 7))) aNil))))) sNext) (sSeq (sIf (tB0 (bTest (bOp (wEqB false) (bVar 3) (bC (.int 5))))) (sSeq (sAsg (eCall φ_law_take [some 0, none] xNo (aIo 0 (aCons (eB (bOp wAddI (bCB wLen (bCons (bVar 7) bNil)) (bC (.int 1)))) aNil))) (gNm 9)) (sSeq (sAsg (eOp wAddI (eFrz 9) (eCall φ_law_take [some 0, none] xNo (aIo 0 (aCons (eB (bOp wAddI (bOp wSubI (bCB wLen (bCons (bVar 7) bNil)) (bVar 9)) (bC (.int 1)))) aNil)))) (gNm 10)) (sRet (eCall φ_law_add [some 1, none, none] xNo (aIo 1 (aCons (eTup (aCons (eB (bC (.str "part"))) (aCons (eFrz 6) (aCons (eFrz 9) (aCons (eFrz 10) aNil))))) (aCons (eB (bSlS (bVar 7) (oAt (bVar 9)) (oAt (bVar 10)))) aNil))))))) sNext) (sRet (eCall φ_law_power_rule [some 0, some 1, none] xNo (aIo 0 (aIo 1 (aCons (eFrz 2) aNil)))))))))))))
theorem snd_law_next_rule {K : PySem.W.Frag} (φ_law_take : WF) (φ_law_letters : WF) (φ_law_add : WF) (φ_law_power_rule : WF) (v0 v1 v2 : V) (E : XK) (ξ : Xi) : SS K [some v0, some v1, none] (fun _ => E) ξ (t_law_next_rule K (spOf K 2 φ_law_take) (spOf K 2 φ_law_letters) (spOf K 3 φ_law_add) (spOf K 3 φ_law_power_rule)) (s_law_next_rule φ_law_take φ_law_letters φ_law_add φ_law_power_rule ξ) := by
  unfold t_law_next_rule s_law_next_rule
  exact (ss_seq (ss_asg (se_call rfl (sk_io (sk_ex (se_b sb_int) sk_nil))) (sg_name (.inr rfl))) (ss_seq (ss_asg (se_b (sb_cb sr_len (sb_cons (sb_dGet sb_var sb_str) sb_nil))) (sg_name (.inr rfl))) (ss_seq (ss_if (st_b (sb_or (sb_test (sb_op sr_eq sb_var sb_int)) (sb_test (sb_op sr_eq sb_var sb_int)))) (ss_seq (ss_asg (se_call rfl (sk_io (sk_ex (se_op sr_ix (se_tup (sa_cons (se_b sb_int) (sa_cons (se_b sb_int) sa_nil))) (se_cb sr_int1 (sa_cons (se_op sr_eq (se_call rfl (sk_io (sk_ex (se_b sb_int) sk_nil))) (se_b sb_int)) sa_nil))) sk_nil))) (sg_name (.inr rfl))) (ss_ret (se_call rfl (sk_io (sk_ex (se_tup (sa_cons (se_b sb_str) (sa_cons se_frz sa_nil))) (sk_ex se_frz sk_nil)))))) ss_next) (ss_seq (ss_asg (se_call rfl (sk_io (sk_ex se_frz sk_nil))) (sg_name (.inr rfl))) (ss_seq (ss_asg (se_b (sb_op sr_ix (sb_dGet sb_var sb_str) sb_var)) (sg_name (.inr rfl))) (ss_cut (ss_if (st_b (sb_test (sb_op sr_ltI sb_var sb_int))) (ss_seq (ss_asg (se_call rfl (sk_io (sk_ex se_frz sk_nil))) (sg_name (.inr rfl))) (ss_cut (ss_if (st_test (se_op sr_eq (se_call rfl (sk_io (sk_ex (se_b sb_int) sk_nil))) (se_b sb_int))) (ss_seq (ss_asg (se_b (sb_op sr_subI sb_var sb_int)) (sg_name (.inr rfl))) (ss_asg (se_b (sb_cb sr_max2 (sb_cons sb_int (sb_cons (sb_op sr_subI sb_var sb_int) sb_nil)))) (sg_name (.inr rfl)))) ss_next) (ss_if (st_b (sb_test (sb_op sr_leI (sb_op sr_addI (sb_cb sr_len (sb_cons (sb_op sr_ix (sb_dGet sb_var sb_str) sb_var) sb_nil)) (sb_cb sr_len (sb_cons (sb_op sr_ix (sb_dGet sb_var sb_str) sb_var) sb_nil))) sb_var))) (ss_ret (se_call rfl (sk_io (sk_ex (se_tup (sa_cons (se_b sb_str) (sa_cons se_frz (sa_cons se_frz sa_nil)))) (sk_ex (se_b (sb_op sr_addS (sb_op sr_ix (sb_dGet sb_var sb_str) sb_var) (sb_op sr_ix (sb_dGet sb_var sb_str) sb_var))) sk_nil))))) ss_next))) ss_next) (ss_seq (ss_if (st_b (sb_test (sb_op sr_eq sb_var sb_int))) (ss_ret (se_call rfl (sk_io (sk_ex (se_tup (sa_cons (se_b sb_str) (sa_cons se_frz sa_nil))) (sk_ex (se_b (sb_revS sb_var)) sk_nil))))) ss_next) (ss_seq (ss_if (st_b (sb_test (sb_op sr_eq sb_var sb_int))) (ss_seq (ss_asg (se_call rfl (sk_io (sk_ex (se_b (sb_op sr_addI (sb_cb sr_len (sb_cons sb_var sb_nil)) sb_int)) sk_nil))) (sg_name (.inr rfl))) (ss_seq (ss_asg (se_op sr_addI se_frz (se_call rfl (sk_io (sk_ex (se_b (sb_op sr_addI (sb_op sr_subI (sb_cb sr_len (sb_cons sb_var sb_nil)) sb_var) sb_int)) sk_nil)))) (sg_name (.inr rfl))) (ss_ret (se_call rfl (sk_io (sk_ex (se_tup (sa_cons (se_b sb_str) (sa_cons se_frz (sa_cons se_frz (sa_cons se_frz sa_nil))))) (sk_ex (se_b (sb_slS sb_var (so_at sb_var) (so_at sb_var))) sk_nil))))))) ss_next) (ss_ret (se_call rfl (sk_io (sk_io (sk_ex se_frz sk_nil)))))))))))))
def v_law_next_rule (φ_law_take : WF) (φ_law_letters : WF) (φ_law_add : WF) (φ_law_power_rule : WF) : WF := wf (s_law_next_rule φ_law_take φ_law_letters φ_law_add φ_law_power_rule) [true, true, false] 11
theorem w_law_next_rule (φ_law_take : WF) (φ_law_letters : WF) (φ_law_add : WF) (φ_law_power_rule : WF) (x0 x1 x2 : Vl) (P : Vl → Ev → Prop) (PX : Xi) : v_law_next_rule φ_law_take φ_law_letters φ_law_add φ_law_power_rule [x0, x1, x2] P PX = s_law_next_rule φ_law_take φ_law_letters φ_law_add φ_law_power_rule (fun C fs env => nOut [true, true, false] env (PX C fs)) (VE.mk (fun env => nOut [true, true, false] env (P .non)) (fun x env => nOut [true, true, false] env (P x)) (fun _ => False) (fun _ => False)) [some x0, some x1, some x2, none, none, none, none, none, none, none, none] := rfl
theorem pure_law_next_rule {K : PySem.W.Frag} (φ_law_take : WF) (φ_law_letters : WF) (φ_law_add : WF) (φ_law_power_rule : WF) (vs : List V) (H : Hp) (Q : VK) (E : XK) (h : spOf K 3 (v_law_next_rule φ_law_take φ_law_letters φ_law_add φ_law_power_rule) vs H Q E) : t_law_next_rule K (spOf K 2 φ_law_take) (spOf K 2 φ_law_letters) (spOf K 3 φ_law_add) (spOf K 3 φ_law_power_rule) { nx := fun _ H' => Q .non H', rt := Q } (start N_law_next_rule vs) H :=
  body_ok (N := N_law_next_rule) (pn := [true, true, false]) (t := fun E => t_law_next_rule K (spOf K 2 φ_law_take) (spOf K 2 φ_law_letters) (spOf K 3 φ_law_add) (spOf K 3 φ_law_power_rule)) (fun vs hl E ξ => match vs, hl with | [v0, v1, v2], _ => snd_law_next_rule φ_law_take φ_law_letters φ_law_add φ_law_power_rule v0 v1 v2 E ξ) h
def N_law_turned_letter : List Str := ["_law_pool_here", "_law_box_here", "_law_most", "_law_text", "_law_last", "_law_at", "_law_letter", "_law_first", "_law_middle", "_law_rest", "_law_both"]
theorem st_law_turned_letter {v0 v1 v2 : V} : start N_law_turned_letter [v0, v1, v2] = [some v0, some v1, some v2, none, none, none, none, none, none, none, none] := rfl
def t_law_turned_letter (K : PySem.W.Frag) (sp_law_take : Sp) (sp_law_add : Sp) : TS := (tSeq (tAsg (tOp (rIx K) (tDGet (tVar 1) (tC (.str "texts"))) (tUn rNegI (tC (.int 1)))) (gName 3)) (tSeq (tIfS (tOr (tTest (tOp rEq (tVar 3) (tC (.str "")))) (tTest (tOp rGtI (tCB (rLn K) (tCons (tVar 3) tNil)) (tVar 2)))) tRetN tNext) (tSeq (tAsg (tOp rSubI (tCB (rLn K) (tCons (tDGet (tVar 1) (tC (.str "rules"))) tNil)) (tC (.int 1))) (gName 4)) (tSeq (tAsg (tCall sp_law_take [] E0 (tCons (tVar 0) (tCons (tCB (rLn K) (tCons (tVar 3) tNil)) tNil))) (gName 5)) (tSeq (tAsg (tOp (rIx K) (tC (.str "abc")) (tCall sp_law_take [] E0 (tCons (tVar 0) (tCons (tC (.int 3)) tNil)))) (gName 6)) (tSeq (tAsg (tCall sp_law_add [] E0 (tCons (tVar 1) (tCons (tTup (tCons (tC (.str "part")) (tCons (tVar 4) (tCons (tC (.int 0)) (tCons (tVar 5) tNil))))) (tCons (tSl rSlS (tVar 3) tNoPart (tPart (tVar 5))) tNil)))) (gName 7)) (tSeq (tAsg (tCall sp_law_add [] E0 (tCons (tVar 1) (tCons (tTup (tCons (tC (.str "letters")) (tCons (tVar 6) tNil))) (tCons (tVar 6) tNil)))) (gName 8)) (tSeq (tAsg (tCall sp_law_add [] E0 (tCons (tVar 1) (tCons (tTup (tCons (tC (.str "part")) (tCons (tVar 4) (tCons (tOp rAddI (tVar 5) (tC (.int 1))) (tCons (tCB (rLn K) (tCons (tVar 3) tNil)) tNil))))) (tCons (tSl rSlS (tVar 3) (tPart (tOp rAddI (tVar 5) (tC (.int 1)))) tNoPart) tNil)))) (gName 9)) (tSeq (tAsg (tCall sp_law_add [] E0 (tCons (tVar 1) (tCons (tTup (tCons (tC (.str "join")) (tCons (tVar 7) (tCons (tVar 8) tNil)))) (tCons (tOp rAddS (tSl rSlS (tVar 3) tNoPart (tPart (tVar 5))) (tVar 6)) tNil)))) (gName 10)) (tDrop (tCall sp_law_add [] E0 (tCons (tVar 1) (tCons (tTup (tCons (tC (.str "join")) (tCons (tVar 10) (tCons (tVar 9) tNil)))) (tCons (tOp rAddS (tOp rAddS (tSl rSlS (tVar 3) tNoPart (tPart (tVar 5))) (tVar 6)) (tSl rSlS (tVar 3) (tPart (tOp rAddI (tVar 5) (tC (.int 1)))) tNoPart)) tNil))))))))))))))
def s_law_turned_letter (φ_law_take : WF) (φ_law_add : WF) (ξ : Xi) : WS := (sSeq (sAsg (eB (bOp wIx (bDGet (bVar 1) (bC (.str "texts"))) (bUn wNegI (bC (.int 1))))) (gNm 3)) (sSeq (sIf (tB0 (bOr (bTest (bOp (wEqB false) (bVar 3) (bC (.str "")))) (bTest (bOp wGtI (bCB wLen (bCons (bVar 3) bNil)) (bVar 2))))) sRetN sNext) (sSeq (sAsg (eB (bOp wSubI (bCB wLen (bCons (bDGet (bVar 1) (bC (.str "rules"))) bNil)) (bC (.int 1)))) (gNm 4)) (sSeq (sAsg (eCall φ_law_take [some 0, none] xNo (aIo 0 (aCons (eB (bCB wLen (bCons (bVar 3) bNil))) aNil))) (gNm 5)) (sSeq (sAsg (eOp wIx (eB (bC (.str "abc"))) (eCall φ_law_take [some 0, none] xNo (aIo 0 (aCons (eB (bC (.int 3))) aNil)))) (gNm 6)) (sSeq (sAsg (eCall φ_law_add [some 1, none, none] xNo (aIo 1 (aCons (eTup (aCons (eB (bC (.str "part"))) (aCons (eFrz 4) (aCons (eB (bC (.int 0))) (aCons (eFrz 5) aNil))))) (aCons (eB (bSlS (bVar 3) oNo (oAt (bVar 5)))) aNil)))) (gNm 7)) (sSeq (sAsg (eCall φ_law_add [some 1, none, none] xNo (aIo 1 (aCons (eTup (aCons (eB (bC (.str "letters"))) (aCons (eFrz 6) aNil))) (aCons (eFrz 6) aNil)))) (gNm 8)) (sSeq (sAsg (eCall φ_law_add [some 1, none, none] xNo (aIo 1 (aCons (eTup (aCons (eB (bC (.str "part"))) (aCons (eFrz 4) (aCons (eB (bOp wAddI (bVar 5) (bC (.int 1)))) (aCons (eB (bCB wLen (bCons (bVar 3) bNil))) aNil))))) (aCons (eB (bSlS (bVar 3) (oAt (bOp wAddI (bVar 5) (bC (.int 1)))) oNo)) aNil)))) (gNm 9)) (sSeq (sAsg (eCall φ_law_add [some 1, none, none] xNo (aIo 1 (aCons (eTup (aCons (eB (bC (.str "join"))) (aCons (eFrz 7) (aCons (eFrz 8) aNil)))) (aCons (eB (bOp wAddS (bSlS (bVar 3) oNo (oAt (bVar 5))) (bVar 6))) aNil)))) (gNm 10)) (sDrop (eCall φ_law_add [some 1, none, none] xNo (aIo 1 (aCons (eTup (aCons (eB (bC (.str "join"))) (aCons (eFrz 10) (aCons (eFrz 9) aNil)))) (aCons (eB (bOp wAddS (bOp wAddS (bSlS (bVar 3) oNo (oAt (bVar 5))) (bVar 6)) (bSlS (bVar 3) (oAt (bOp wAddI (bVar 5) (bC (.int 1)))) oNo))) aNil))))))))))))))
theorem snd_law_turned_letter {K : PySem.W.Frag} (φ_law_take : WF) (φ_law_add : WF) (v0 v1 v2 : V) (E : XK) (ξ : Xi) : SS K [some v0, some v1, none] (fun _ => E) ξ (t_law_turned_letter K (spOf K 2 φ_law_take) (spOf K 3 φ_law_add)) (s_law_turned_letter φ_law_take φ_law_add ξ) := by
  unfold t_law_turned_letter s_law_turned_letter
  exact (ss_seq (ss_asg (se_b (sb_op sr_ix (sb_dGet sb_var sb_str) (sb_un sr_negI sb_int))) (sg_name (.inr rfl))) (ss_seq (ss_if (st_b (sb_or (sb_test (sb_op sr_eq sb_var sb_str)) (sb_test (sb_op sr_gtI (sb_cb sr_len (sb_cons sb_var sb_nil)) sb_var)))) ss_retN ss_next) (ss_seq (ss_asg (se_b (sb_op sr_subI (sb_cb sr_len (sb_cons (sb_dGet sb_var sb_str) sb_nil)) sb_int)) (sg_name (.inr rfl))) (ss_seq (ss_asg (se_call rfl (sk_io (sk_ex (se_b (sb_cb sr_len (sb_cons sb_var sb_nil))) sk_nil))) (sg_name (.inr rfl))) (ss_seq (ss_asg (se_op sr_ix (se_b sb_str) (se_call rfl (sk_io (sk_ex (se_b sb_int) sk_nil)))) (sg_name (.inr rfl))) (ss_seq (ss_asg (se_call rfl (sk_io (sk_ex (se_tup (sa_cons (se_b sb_str) (sa_cons se_frz (sa_cons (se_b sb_int) (sa_cons se_frz sa_nil))))) (sk_ex (se_b (sb_slS sb_var so_no (so_at sb_var))) sk_nil)))) (sg_name (.inr rfl))) (ss_seq (ss_asg (se_call rfl (sk_io (sk_ex (se_tup (sa_cons (se_b sb_str) (sa_cons se_frz sa_nil))) (sk_ex se_frz sk_nil)))) (sg_name (.inr rfl))) (ss_seq (ss_asg (se_call rfl (sk_io (sk_ex (se_tup (sa_cons (se_b sb_str) (sa_cons se_frz (sa_cons (se_b (sb_op sr_addI sb_var sb_int)) (sa_cons (se_b (sb_cb sr_len (sb_cons sb_var sb_nil))) sa_nil))))) (sk_ex (se_b (sb_slS sb_var (so_at (sb_op sr_addI sb_var sb_int)) so_no)) sk_nil)))) (sg_name (.inr rfl))) (ss_seq (ss_asg (se_call rfl (sk_io (sk_ex (se_tup (sa_cons (se_b sb_str) (sa_cons se_frz (sa_cons se_frz sa_nil)))) (sk_ex (se_b (sb_op sr_addS (sb_slS sb_var so_no (so_at sb_var)) sb_var)) sk_nil)))) (sg_name (.inr rfl))) (ss_drop (se_call rfl (sk_io (sk_ex (se_tup (sa_cons (se_b sb_str) (sa_cons se_frz (sa_cons se_frz sa_nil)))) (sk_ex (se_b (sb_op sr_addS (sb_op sr_addS (sb_slS sb_var so_no (so_at sb_var)) sb_var) (sb_slS sb_var (so_at (sb_op sr_addI sb_var sb_int)) so_no))) sk_nil))))))))))))))
def v_law_turned_letter (φ_law_take : WF) (φ_law_add : WF) : WF := wf (s_law_turned_letter φ_law_take φ_law_add) [true, true, false] 11
theorem w_law_turned_letter (φ_law_take : WF) (φ_law_add : WF) (x0 x1 x2 : Vl) (P : Vl → Ev → Prop) (PX : Xi) : v_law_turned_letter φ_law_take φ_law_add [x0, x1, x2] P PX = s_law_turned_letter φ_law_take φ_law_add (fun C fs env => nOut [true, true, false] env (PX C fs)) (VE.mk (fun env => nOut [true, true, false] env (P .non)) (fun x env => nOut [true, true, false] env (P x)) (fun _ => False) (fun _ => False)) [some x0, some x1, some x2, none, none, none, none, none, none, none, none] := rfl
theorem pure_law_turned_letter {K : PySem.W.Frag} (φ_law_take : WF) (φ_law_add : WF) (vs : List V) (H : Hp) (Q : VK) (E : XK) (h : spOf K 3 (v_law_turned_letter φ_law_take φ_law_add) vs H Q E) : t_law_turned_letter K (spOf K 2 φ_law_take) (spOf K 3 φ_law_add) { nx := fun _ H' => Q .non H', rt := Q } (start N_law_turned_letter vs) H :=
  body_ok (N := N_law_turned_letter) (pn := [true, true, false]) (t := fun E => t_law_turned_letter K (spOf K 2 φ_law_take) (spOf K 3 φ_law_add)) (fun vs hl E ξ => match vs, hl with | [v0, v1, v2], _ => snd_law_turned_letter φ_law_take φ_law_add v0 v1 v2 E ξ) h
def N_law_drawn : List Str := ["_law_pool_here", "_law_most", "_law_box_here", "_law_k"]
theorem st_law_drawn {v0 v1 : V} : start N_law_drawn [v0, v1] = [some v0, some v1, none, none] := rfl
def t_law_drawn (K : PySem.W.Frag) (sp_law_box : Sp) (sp_law_take : Sp) (sp_law_next_rule : Sp) (sp_law_power_rule : Sp) (sp_law_turned_letter : Sp) : TS := (tSeq (tAsg (tCall sp_law_box [] E0 tNil) (gName 2)) (Evl.tCut (tFor (iRng1 (tCons (tOp rAddI (tC (.int 1)) (tCall sp_law_take [] E0 (tCons (tVar 0) (tCons (tC (.int 14)) tNil)))) tNil)) (gName 3) (tDrop (tCall sp_law_next_rule [] E0 (tCons (tVar 0) (tCons (tVar 2) (tCons (tVar 1) tNil)))))) (Evl.tCut (tIfS (tTest (tOp rEq (tCall sp_law_take [] E0 (tCons (tVar 0) (tCons (tC (.int 3)) tNil))) (tC (.int 0)))) (tDrop (tCall sp_law_power_rule [] E0 (tCons (tVar 0) (tCons (tVar 2) (tCons (tVar 1) tNil))))) tNext) (Evl.tCut (tIfS (tTest (tOp rEq (tCall sp_law_take [] E0 (tCons (tVar 0) (tCons (tC (.int 3)) tNil))) (tC (.int 0)))) (tDrop (tCall sp_law_turned_letter [] E0 (tCons (tVar 0) (tCons (tVar 2) (tCons (tVar 1) tNil))))) tNext) (tRet (tVar 2))))))
def s_law_drawn (φ_law_box : WF) (φ_law_take : WF) (φ_law_next_rule : WF) (φ_law_power_rule : WF) (φ_law_turned_letter : WF) (ξ : Xi) : WS := (sSeq (sAsg (eCall φ_law_box [] xNo aNil) (gNm 2)) (sCut (sFor (iR1 (aCons (eOp wAddI (eB (bC (.int 1))) (eCall φ_law_take [some 0, none] xNo (aIo 0 (aCons (eB (bC (.int 14))) aNil)))) aNil)) (gNm 3) (sDrop (eCall φ_law_next_rule [some 0, some 2, none] xNo (aIo 0 (aIo 2 (aCons (eFrz 1) aNil)))))) (sCut (sIf (tTst (eOp (wEqB false) (eCall φ_law_take [some 0, none] xNo (aIo 0 (aCons (eB (bC (.int 3))) aNil))) (eB (bC (.int 0))))) (sDrop (eCall φ_law_power_rule [some 0, some 2, none] xNo (aIo 0 (aIo 2 (aCons (eFrz 1) aNil))))) sNext) (sCut (sIf (tTst (eOp (wEqB false) (eCall φ_law_take [some 0, none] xNo (aIo 0 (aCons (eB (bC (.int 3))) aNil))) (eB (bC (.int 0))))) (sDrop (eCall φ_law_turned_letter [some 0, some 2, none] xNo (aIo 0 (aIo 2 (aCons (eFrz 1) aNil))))) sNext) (sRet (eMov 2))))))
theorem snd_law_drawn {K : PySem.W.Frag} (φ_law_box : WF) (φ_law_take : WF) (φ_law_next_rule : WF) (φ_law_power_rule : WF) (φ_law_turned_letter : WF) (v0 v1 : V) (E : XK) (ξ : Xi) : SS K [some v0, none] (fun _ => E) ξ (t_law_drawn K (spOf K 0 φ_law_box) (spOf K 2 φ_law_take) (spOf K 3 φ_law_next_rule) (spOf K 3 φ_law_power_rule) (spOf K 3 φ_law_turned_letter)) (s_law_drawn φ_law_box φ_law_take φ_law_next_rule φ_law_power_rule φ_law_turned_letter ξ) := by
  unfold t_law_drawn s_law_drawn
  exact (ss_seq (ss_asg (se_call rfl sk_nil) (sg_name (.inr rfl))) (ss_cut (ss_for (si_rng1 (sa_cons (se_op sr_addI (se_b sb_int) (se_call rfl (sk_io (sk_ex (se_b sb_int) sk_nil)))) sa_nil)) (sg_name (.inr rfl)) (ss_drop (se_call rfl (sk_io (sk_io (sk_ex se_frz sk_nil)))))) (ss_cut (ss_if (st_test (se_op sr_eq (se_call rfl (sk_io (sk_ex (se_b sb_int) sk_nil))) (se_b sb_int))) (ss_drop (se_call rfl (sk_io (sk_io (sk_ex se_frz sk_nil))))) ss_next) (ss_cut (ss_if (st_test (se_op sr_eq (se_call rfl (sk_io (sk_ex (se_b sb_int) sk_nil))) (se_b sb_int))) (ss_drop (se_call rfl (sk_io (sk_io (sk_ex se_frz sk_nil))))) ss_next) (ss_ret se_mov)))))
def v_law_drawn (φ_law_box : WF) (φ_law_take : WF) (φ_law_next_rule : WF) (φ_law_power_rule : WF) (φ_law_turned_letter : WF) : WF := wf (s_law_drawn φ_law_box φ_law_take φ_law_next_rule φ_law_power_rule φ_law_turned_letter) [true, false] 4
theorem w_law_drawn (φ_law_box : WF) (φ_law_take : WF) (φ_law_next_rule : WF) (φ_law_power_rule : WF) (φ_law_turned_letter : WF) (x0 x1 : Vl) (P : Vl → Ev → Prop) (PX : Xi) : v_law_drawn φ_law_box φ_law_take φ_law_next_rule φ_law_power_rule φ_law_turned_letter [x0, x1] P PX = s_law_drawn φ_law_box φ_law_take φ_law_next_rule φ_law_power_rule φ_law_turned_letter (fun C fs env => nOut [true, false] env (PX C fs)) (VE.mk (fun env => nOut [true, false] env (P .non)) (fun x env => nOut [true, false] env (P x)) (fun _ => False) (fun _ => False)) [some x0, some x1, none, none] := rfl
theorem pure_law_drawn {K : PySem.W.Frag} (φ_law_box : WF) (φ_law_take : WF) (φ_law_next_rule : WF) (φ_law_power_rule : WF) (φ_law_turned_letter : WF) (vs : List V) (H : Hp) (Q : VK) (E : XK) (h : spOf K 2 (v_law_drawn φ_law_box φ_law_take φ_law_next_rule φ_law_power_rule φ_law_turned_letter) vs H Q E) : t_law_drawn K (spOf K 0 φ_law_box) (spOf K 2 φ_law_take) (spOf K 3 φ_law_next_rule) (spOf K 3 φ_law_power_rule) (spOf K 3 φ_law_turned_letter) { nx := fun _ H' => Q .non H', rt := Q } (start N_law_drawn vs) H :=
  body_ok (N := N_law_drawn) (pn := [true, false]) (t := fun E => t_law_drawn K (spOf K 0 φ_law_box) (spOf K 2 φ_law_take) (spOf K 3 φ_law_next_rule) (spOf K 3 φ_law_power_rule) (spOf K 3 φ_law_turned_letter)) (fun vs hl E ξ => match vs, hl with | [v0, v1], _ => snd_law_drawn φ_law_box φ_law_take φ_law_next_rule φ_law_power_rule φ_law_turned_letter v0 v1 E ξ) h
def N_law_period : List Str := ["_law_letters_here", "_law_size"]
theorem st_law_period {v0 : V} : start N_law_period [v0] = [some v0, none] := rfl
def t_law_period (K : PySem.W.Frag) : TS := (tSeq (tFor (iRng2 (tCons (tC (.int 1)) (tCons (tOp rAddI (tOp rDivI (tCB (rLn K) (tCons (tVar 0) tNil)) (tC (.int 2))) (tC (.int 1))) tNil))) (gName 1) (tIfS (tTest (tOp rEq (tSl rSlS (tVar 0) (tPart (tVar 1)) tNoPart) (tSl rSlS (tVar 0) tNoPart (tPart (tOp rSubI (tCB (rLn K) (tCons (tVar 0) tNil)) (tVar 1)))))) (tRet (tVar 1)) tNext)) (tRet (tC (.int 0))))
def s_law_period (ξ : Xi) : WS := (sSeq (sFor (iR2 (aCons (eB (bC (.int 1))) (aCons (eB (bOp wAddI (bOp wDivI (bCB wLen (bCons (bVar 0) bNil)) (bC (.int 2))) (bC (.int 1)))) aNil))) (gNm 1) (sIf (tB0 (bTest (bOp (wEqB false) (bSlS (bVar 0) (oAt (bVar 1)) oNo) (bSlS (bVar 0) oNo (oAt (bOp wSubI (bCB wLen (bCons (bVar 0) bNil)) (bVar 1))))))) (sRet (eMov 1)) sNext)) (sRet (eB (bC (.int 0)))))
theorem snd_law_period {K : PySem.W.Frag} (v0 : V) (E : XK) (ξ : Xi) : SS K [none] (fun _ => E) ξ (t_law_period K) (s_law_period ξ) := by
  unfold t_law_period s_law_period
  exact (ss_seq (ss_for (si_rng2 (sa_cons (se_b sb_int) (sa_cons (se_b (sb_op sr_addI (sb_op sr_divI (sb_cb sr_len (sb_cons sb_var sb_nil)) sb_int) sb_int)) sa_nil))) (sg_name (.inr rfl)) (ss_if (st_b (sb_test (sb_op sr_eq (sb_slS sb_var (so_at sb_var) so_no) (sb_slS sb_var so_no (so_at (sb_op sr_subI (sb_cb sr_len (sb_cons sb_var sb_nil)) sb_var)))))) (ss_ret se_mov) ss_next)) (ss_ret (se_b sb_int)))
def v_law_period : WF := wf (s_law_period) [false] 2
theorem w_law_period (x0 : Vl) (P : Vl → Ev → Prop) (PX : Xi) : v_law_period [x0] P PX = s_law_period (fun C fs env => nOut [false] env (PX C fs)) (VE.mk (fun env => nOut [false] env (P .non)) (fun x env => nOut [false] env (P x)) (fun _ => False) (fun _ => False)) [some x0, none] := rfl
theorem pure_law_period {K : PySem.W.Frag} (vs : List V) (H : Hp) (Q : VK) (E : XK) (h : spOf K 1 (v_law_period) vs H Q E) : t_law_period K { nx := fun _ H' => Q .non H', rt := Q } (start N_law_period vs) H :=
  body_ok (N := N_law_period) (pn := [false]) (t := fun E => t_law_period K) (fun vs hl E ξ => match vs, hl with | [v0], _ => snd_law_period v0 E ξ) h
def N_law_way : List Str := ["_law_pool_here", "_law_box_here", "_law_letters_here", "_law_deep", "_law_kind", "_law_size", "_law_times", "_law_base", "_law_whole", "_law_tail", "_law_at", "_law_first", "_law_rest", "_law_turned", "_law_more", "_law_other_here", "_law_longer"]
theorem st_law_way {v0 v1 v2 v3 : V} : start N_law_way [v0, v1, v2, v3] = [some v0, some v1, some v2, some v3, none, none, none, none, none, none, none, none, none, none, none, none, none] := rfl
def t_law_way (K : PySem.W.Frag) (sp_law_take : Sp) (sp_law_period : Sp) (sp_law_way : Sp) (sp_law_add : Sp) (sp_law_letters : Sp) : TS := (tSeq (tAsg (tCall sp_law_take [] E0 (tCons (tVar 0) (tCons (tC (.int 7)) tNil))) (gName 4)) (tSeq (tAsg (tCall sp_law_period [] E0 (tCons (tVar 2) tNil)) (gName 5)) (Evl.tCut (tIfS (tAnd (tTest (tOp rGtI (tVar 5) (tC (.int 0)))) (tAnd (tTest (tOp rLtI (tVar 4) (tC (.int 3)))) (tTest (tOp rGtI (tVar 3) (tC (.int 0)))))) (tSeq (tAsg (tOp rDivI (tCB (rLn K) (tCons (tVar 2) tNil)) (tVar 5)) (gName 6)) (tSeq (tAsg (tCall sp_law_way [] E0 (tCons (tVar 0) (tCons (tVar 1) (tCons (tSl rSlS (tVar 2) tNoPart (tPart (tVar 5))) (tCons (tOp rSubI (tVar 3) (tC (.int 1))) tNil))))) (gName 7)) (tSeq (tAsg (tCall sp_law_add [] E0 (tCons (tVar 1) (tCons (tTup (tCons (tC (.str "power")) (tCons (tVar 7) (tCons (tVar 6) tNil)))) (tCons (tOp rRepS (tSl rSlS (tVar 2) tNoPart (tPart (tVar 5))) (tVar 6)) tNil)))) (gName 8)) (tSeq (tIfS (tTest (tOp rEq (tOp rMulI (tVar 5) (tVar 6)) (tCB (rLn K) (tCons (tVar 2) tNil)))) (tRet (tVar 8)) tNext) (tSeq (tAsg (tCall sp_law_add [] E0 (tCons (tVar 1) (tCons (tTup (tCons (tC (.str "part")) (tCons (tVar 7) (tCons (tC (.int 0)) (tCons (tOp rSubI (tCB (rLn K) (tCons (tVar 2) tNil)) (tOp rMulI (tVar 5) (tVar 6))) tNil))))) (tCons (tSl rSlS (tVar 2) (tPart (tOp rMulI (tVar 5) (tVar 6))) tNoPart) tNil)))) (gName 9)) (tRet (tCall sp_law_add [] E0 (tCons (tVar 1) (tCons (tTup (tCons (tC (.str "join")) (tCons (tVar 8) (tCons (tVar 9) tNil)))) (tCons (tVar 2) tNil)))))))))) tNext) (Evl.tCut (tIfS (tOr (tTest (tOp rGtI (tCB (rLn K) (tCons (tVar 2) tNil)) (tC (.int 64)))) (tAnd (tTest (tOp rLtI (tVar 4) (tC (.int 4)))) (tAnd (tTest (tOp rGtI (tVar 3) (tC (.int 0)))) (tTest (tOp rNe (tVar 2) (tC (.str ""))))))) (tSeq (tAsg (tCall sp_law_take [] E0 (tCons (tVar 0) (tCons (tOp rAddI (tCB (rLn K) (tCons (tVar 2) tNil)) (tC (.int 1))) tNil))) (gName 10)) (Evl.tCut (tIfS (tTest (tOp rGtI (tCB (rLn K) (tCons (tVar 2) tNil)) (tC (.int 64)))) (tAsg (tOp rAddI (tC (.int 32)) (tCall sp_law_take [] E0 (tCons (tVar 0) (tCons (tC (.int 33)) tNil)))) (gName 10)) tNext) (tSeq (tAsg (tCall sp_law_way [] E0 (tCons (tVar 0) (tCons (tVar 1) (tCons (tSl rSlS (tVar 2) tNoPart (tPart (tVar 10))) (tCons (tOp rSubI (tVar 3) (tC (.int 1))) tNil))))) (gName 11)) (tSeq (tAsg (tCall sp_law_way [] E0 (tCons (tVar 0) (tCons (tVar 1) (tCons (tSl rSlS (tVar 2) (tPart (tVar 10)) tNoPart) (tCons (tOp rSubI (tVar 3) (tC (.int 1))) tNil))))) (gName 12)) (tRet (tCall sp_law_add [] E0 (tCons (tVar 1) (tCons (tTup (tCons (tC (.str "join")) (tCons (tVar 11) (tCons (tVar 12) tNil)))) (tCons (tVar 2) tNil))))))))) tNext) (Evl.tCut (tIfS (tAnd (tTest (tOp rEq (tVar 4) (tC (.int 4)))) (tTest (tOp rGtI (tVar 3) (tC (.int 0))))) (tSeq (tAsg (tCall sp_law_way [] E0 (tCons (tVar 0) (tCons (tVar 1) (tCons (tRevS K (tVar 2)) (tCons (tOp rSubI (tVar 3) (tC (.int 1))) tNil))))) (gName 13)) (tRet (tCall sp_law_add [] E0 (tCons (tVar 1) (tCons (tTup (tCons (tC (.str "back")) (tCons (tVar 13) tNil))) (tCons (tVar 2) tNil)))))) tNext) (Evl.tCut (tIfS (tAnd (tTest (tOp rEq (tVar 4) (tC (.int 5)))) (tTest (tOp rLtI (tCB (rLn K) (tCons (tVar 2) tNil)) (tC (.int 60))))) (tSeq (tAsg (tCall sp_law_letters [] E0 (tCons (tVar 0) (tCons (tC (.int 2)) tNil))) (gName 14)) (tSeq (tAsg (tCall sp_law_letters [] E0 (tCons (tVar 0) (tCons (tC (.int 2)) tNil))) (gName 15)) (tSeq (tAsg (tCall sp_law_add [] E0 (tCons (tVar 1) (tCons (tTup (tCons (tC (.str "letters")) (tCons (tOp rAddS (tOp rAddS (tVar 14) (tVar 2)) (tVar 15)) tNil))) (tCons (tOp rAddS (tOp rAddS (tVar 14) (tVar 2)) (tVar 15)) tNil)))) (gName 16)) (tRet (tCall sp_law_add [] E0 (tCons (tVar 1) (tCons (tTup (tCons (tC (.str "part")) (tCons (tVar 16) (tCons (tCB (rLn K) (tCons (tVar 14) tNil)) (tCons (tOp rAddI (tCB (rLn K) (tCons (tVar 14) tNil)) (tCB (rLn K) (tCons (tVar 2) tNil))) tNil))))) (tCons (tVar 2) tNil)))))))) tNext) (tRet (tCall sp_law_add [] E0 (tCons (tVar 1) (tCons (tTup (tCons (tC (.str "letters")) (tCons (tVar 2) tNil))) (tCons (tVar 2) tNil)))))))))))
def s_law_way (φ_law_take : WF) (φ_law_period : WF) (φ_law_way : WF) (φ_law_add : WF) (φ_law_letters : WF) (ξ : Xi) : WS := (sSeq (sAsg (eCall φ_law_take [some 0, none] xNo (aIo 0 (aCons (eB (bC (.int 7))) aNil))) (gNm 4)) (sSeq (sAsg (eCall φ_law_period [none] xNo (aCons (eFrz 2) aNil)) (gNm 5)) (sCut (sIf (tB0 (bAnd (bTest (bOp wGtI (bVar 5) (bC (.int 0)))) (bAnd (bTest (bOp wLtI (bVar 4) (bC (.int 3)))) (bTest (bOp wGtI (bVar 3) (bC (.int 0))))))) (sSeq (sAsg (eB (bOp wDivI (bCB wLen (bCons (bVar 2) bNil)) (bVar 5))) (gNm 6)) (sSeq (sAsg (eCall φ_law_way [some 0, some 1, none, none] xNo (aIo 0 (aIo 1 (aCons (eB (bSlS (bVar 2) oNo (oAt (bVar 5)))) (aCons (eB (bOp wSubI (bVar 3) (bC (.int 1)))) aNil))))) (gNm 7)) (sSeq (sAsg (eCall φ_law_add [some 1, none, none] xNo (aIo 1 (aCons (eTup (aCons (eB (bC (.str "power"))) (aCons (eFrz 7) (aCons (eFrz 6) aNil)))) (aCons (eB (bOp wRepS (bSlS (bVar 2) oNo (oAt (bVar 5))) (bVar 6))) aNil)))) (gNm 8)) (sSeq (sIf (tB0 (bTest (bOp (wEqB false) (bOp wMulI (bVar 5) (bVar 6)) (bCB wLen (bCons (bVar 2) bNil))))) (sRet (eMov 8)) sNext) (sSeq (sAsg (eCall φ_law_add [some 1, none, none] xNo (aIo 1 (aCons (eTup (aCons (eB (bC (.str "part"))) (aCons (eFrz 7) (aCons (eB (bC (.int 0))) (aCons (eB (bOp wSubI (bCB wLen (bCons (bVar 2) bNil)) (bOp wMulI (bVar 5) (bVar 6)))) aNil))))) (aCons (eB (bSlS (bVar 2) (oAt (bOp wMulI (bVar 5) (bVar 6))) oNo)) aNil)))) (gNm 9)) (sRet (eCall φ_law_add [some 1, none, none] xNo (aIo 1 (aCons (eTup (aCons (eB (bC (.str "join"))) (aCons (eFrz 8) (aCons (eFrz 9) aNil)))) (aCons (eFrz 2) aNil)))))))))) sNext) (sCut (sIf (tB0 (bOr (bTest (bOp wGtI (bCB wLen (bCons (bVar 2) bNil)) (bC (.int 64)))) (bAnd (bTest (bOp wLtI (bVar 4) (bC (.int 4)))) (bAnd (bTest (bOp wGtI (bVar 3) (bC (.int 0)))) (bTest (bOp (wEqB true) (bVar 2) (bC (.str "")))))))) (sSeq (sAsg (eCall φ_law_take [some 0, none] xNo (aIo 0 (aCons (eB (bOp wAddI (bCB wLen (bCons (bVar 2) bNil)) (bC (.int 1)))) aNil))) (gNm 10)) (sCut (sIf (tB0 (bTest (bOp wGtI (bCB wLen (bCons (bVar 2) bNil)) (bC (.int 64))))) (sAsg (eOp wAddI (eB (bC (.int 32))) (eCall φ_law_take [some 0, none] xNo (aIo 0 (aCons (eB (bC (.int 33))) aNil)))) (gNm 10)) sNext) (sSeq (sAsg (eCall φ_law_way [some 0, some 1, none, none] xNo (aIo 0 (aIo 1 (aCons (eB (bSlS (bVar 2) oNo (oAt (bVar 10)))) (aCons (eB (bOp wSubI (bVar 3) (bC (.int 1)))) aNil))))) (gNm 11)) (sSeq (sAsg (eCall φ_law_way [some 0, some 1, none, none] xNo (aIo 0 (aIo 1 (aCons (eB (bSlS (bVar 2) (oAt (bVar 10)) oNo)) (aCons (eB (bOp wSubI (bVar 3) (bC (.int 1)))) aNil))))) (gNm 12)) (sRet (eCall φ_law_add [some 1, none, none] xNo (aIo 1 (aCons (eTup (aCons (eB (bC (.str "join"))) (aCons (eFrz 11) (aCons (eFrz 12) aNil)))) (aCons (eFrz 2) aNil))))))))) sNext) (sCut (sIf (tB0 (bAnd (bTest (bOp (wEqB false) (bVar 4) (bC (.int 4)))) (bTest (bOp wGtI (bVar 3) (bC (.int 0)))))) (sSeq (sAsg (eCall φ_law_way [some 0, some 1, none, none] xNo (aIo 0 (aIo 1 (aCons (eB (bRevS (bVar 2))) (aCons (eB (bOp wSubI (bVar 3) (bC (.int 1)))) aNil))))) (gNm 13)) (sRet (eCall φ_law_add [some 1, none, none] xNo (aIo 1 (aCons (eTup (aCons (eB (bC (.str "back"))) (aCons (eFrz 13) aNil))) (aCons (eFrz 2) aNil)))))) sNext) (sCut (sIf (tB0 (bAnd (bTest (bOp (wEqB false) (bVar 4) (bC (.int 5)))) (bTest (bOp wLtI (bCB wLen (bCons (bVar 2) bNil)) (bC (.int 60)))))) (sSeq (sAsg (eCall φ_law_letters [some 0, none] xNo (aIo 0 (aCons (eB (bC (.int 2))) aNil))) (gNm 14)) (sSeq (sAsg (eCall φ_law_letters [some 0, none] xNo (aIo 0 (aCons (eB (bC (.int 2))) aNil))) (gNm 15)) (sSeq (sAsg (eCall φ_law_add [some 1, none, none] xNo (aIo 1 (aCons (eTup (aCons (eB (bC (.str "letters"))) (aCons (eB (bOp wAddS (bOp wAddS (bVar 14) (bVar 2)) (bVar 15))) aNil))) (aCons (eB (bOp wAddS (bOp wAddS (bVar 14) (bVar 2)) (bVar 15))) aNil)))) (gNm 16)) (sRet (eCall φ_law_add [some 1, none, none] xNo (aIo 1 (aCons (eTup (aCons (eB (bC (.str "part"))) (aCons (eFrz 16) (aCons (eB (bCB wLen (bCons (bVar 14) bNil))) (aCons (eB (bOp wAddI (bCB wLen (bCons (bVar 14) bNil)) (bCB wLen (bCons (bVar 2) bNil)))) aNil))))) (aCons (eFrz 2) aNil)))))))) sNext) (sRet (eCall φ_law_add [some 1, none, none] xNo (aIo 1 (aCons (eTup (aCons (eB (bC (.str "letters"))) (aCons (eFrz 2) aNil))) (aCons (eFrz 2) aNil)))))))))))
theorem snd_law_way {K : PySem.W.Frag} (φ_law_take : WF) (φ_law_period : WF) (φ_law_way : WF) (φ_law_add : WF) (φ_law_letters : WF) (v0 v1 v2 v3 : V) (E : XK) (ξ : Xi) : SS K [some v0, some v1, none, none] (fun _ => E) ξ (t_law_way K (spOf K 2 φ_law_take) (spOf K 1 φ_law_period) (spOf K 4 φ_law_way) (spOf K 3 φ_law_add) (spOf K 2 φ_law_letters)) (s_law_way φ_law_take φ_law_period φ_law_way φ_law_add φ_law_letters ξ) := by
  unfold t_law_way s_law_way
  exact (ss_seq (ss_asg (se_call rfl (sk_io (sk_ex (se_b sb_int) sk_nil))) (sg_name (.inr rfl))) (ss_seq (ss_asg (se_call rfl (sk_ex se_frz sk_nil)) (sg_name (.inr rfl))) (ss_cut (ss_if (st_b (sb_and (sb_test (sb_op sr_gtI sb_var sb_int)) (sb_and (sb_test (sb_op sr_ltI sb_var sb_int)) (sb_test (sb_op sr_gtI sb_var sb_int))))) (ss_seq (ss_asg (se_b (sb_op sr_divI (sb_cb sr_len (sb_cons sb_var sb_nil)) sb_var)) (sg_name (.inr rfl))) (ss_seq (ss_asg (se_call rfl (sk_io (sk_io (sk_ex (se_b (sb_slS sb_var so_no (so_at sb_var))) (sk_ex (se_b (sb_op sr_subI sb_var sb_int)) sk_nil))))) (sg_name (.inr rfl))) (ss_seq (ss_asg (se_call rfl (sk_io (sk_ex (se_tup (sa_cons (se_b sb_str) (sa_cons se_frz (sa_cons se_frz sa_nil)))) (sk_ex (se_b (sb_op sr_repS (sb_slS sb_var so_no (so_at sb_var)) sb_var)) sk_nil)))) (sg_name (.inr rfl))) (ss_seq (ss_if (st_b (sb_test (sb_op sr_eq (sb_op sr_mulI sb_var sb_var) (sb_cb sr_len (sb_cons sb_var sb_nil))))) (ss_ret se_mov) ss_next) (ss_seq (ss_asg (se_call rfl (sk_io (sk_ex (se_tup (sa_cons (se_b sb_str) (sa_cons se_frz (sa_cons (se_b sb_int) (sa_cons (se_b (sb_op sr_subI (sb_cb sr_len (sb_cons sb_var sb_nil)) (sb_op sr_mulI sb_var sb_var))) sa_nil))))) (sk_ex (se_b (sb_slS sb_var (so_at (sb_op sr_mulI sb_var sb_var)) so_no)) sk_nil)))) (sg_name (.inr rfl))) (ss_ret (se_call rfl (sk_io (sk_ex (se_tup (sa_cons (se_b sb_str) (sa_cons se_frz (sa_cons se_frz sa_nil)))) (sk_ex se_frz sk_nil)))))))))) ss_next) (ss_cut (ss_if (st_b (sb_or (sb_test (sb_op sr_gtI (sb_cb sr_len (sb_cons sb_var sb_nil)) sb_int)) (sb_and (sb_test (sb_op sr_ltI sb_var sb_int)) (sb_and (sb_test (sb_op sr_gtI sb_var sb_int)) (sb_test (sb_op sr_ne sb_var sb_str)))))) (ss_seq (ss_asg (se_call rfl (sk_io (sk_ex (se_b (sb_op sr_addI (sb_cb sr_len (sb_cons sb_var sb_nil)) sb_int)) sk_nil))) (sg_name (.inr rfl))) (ss_cut (ss_if (st_b (sb_test (sb_op sr_gtI (sb_cb sr_len (sb_cons sb_var sb_nil)) sb_int))) (ss_asg (se_op sr_addI (se_b sb_int) (se_call rfl (sk_io (sk_ex (se_b sb_int) sk_nil)))) (sg_name (.inr rfl))) ss_next) (ss_seq (ss_asg (se_call rfl (sk_io (sk_io (sk_ex (se_b (sb_slS sb_var so_no (so_at sb_var))) (sk_ex (se_b (sb_op sr_subI sb_var sb_int)) sk_nil))))) (sg_name (.inr rfl))) (ss_seq (ss_asg (se_call rfl (sk_io (sk_io (sk_ex (se_b (sb_slS sb_var (so_at sb_var) so_no)) (sk_ex (se_b (sb_op sr_subI sb_var sb_int)) sk_nil))))) (sg_name (.inr rfl))) (ss_ret (se_call rfl (sk_io (sk_ex (se_tup (sa_cons (se_b sb_str) (sa_cons se_frz (sa_cons se_frz sa_nil)))) (sk_ex se_frz sk_nil))))))))) ss_next) (ss_cut (ss_if (st_b (sb_and (sb_test (sb_op sr_eq sb_var sb_int)) (sb_test (sb_op sr_gtI sb_var sb_int)))) (ss_seq (ss_asg (se_call rfl (sk_io (sk_io (sk_ex (se_b (sb_revS sb_var)) (sk_ex (se_b (sb_op sr_subI sb_var sb_int)) sk_nil))))) (sg_name (.inr rfl))) (ss_ret (se_call rfl (sk_io (sk_ex (se_tup (sa_cons (se_b sb_str) (sa_cons se_frz sa_nil))) (sk_ex se_frz sk_nil)))))) ss_next) (ss_cut (ss_if (st_b (sb_and (sb_test (sb_op sr_eq sb_var sb_int)) (sb_test (sb_op sr_ltI (sb_cb sr_len (sb_cons sb_var sb_nil)) sb_int)))) (ss_seq (ss_asg (se_call rfl (sk_io (sk_ex (se_b sb_int) sk_nil))) (sg_name (.inr rfl))) (ss_seq (ss_asg (se_call rfl (sk_io (sk_ex (se_b sb_int) sk_nil))) (sg_name (.inr rfl))) (ss_seq (ss_asg (se_call rfl (sk_io (sk_ex (se_tup (sa_cons (se_b sb_str) (sa_cons (se_b (sb_op sr_addS (sb_op sr_addS sb_var sb_var) sb_var)) sa_nil))) (sk_ex (se_b (sb_op sr_addS (sb_op sr_addS sb_var sb_var) sb_var)) sk_nil)))) (sg_name (.inr rfl))) (ss_ret (se_call rfl (sk_io (sk_ex (se_tup (sa_cons (se_b sb_str) (sa_cons se_frz (sa_cons (se_b (sb_cb sr_len (sb_cons sb_var sb_nil))) (sa_cons (se_b (sb_op sr_addI (sb_cb sr_len (sb_cons sb_var sb_nil)) (sb_cb sr_len (sb_cons sb_var sb_nil)))) sa_nil))))) (sk_ex se_frz sk_nil)))))))) ss_next) (ss_ret (se_call rfl (sk_io (sk_ex (se_tup (sa_cons (se_b sb_str) (sa_cons se_frz sa_nil))) (sk_ex se_frz sk_nil)))))))))))
def v_law_way (φ_law_take : WF) (φ_law_period : WF) (φ_law_way : WF) (φ_law_add : WF) (φ_law_letters : WF) : WF := wf (s_law_way φ_law_take φ_law_period φ_law_way φ_law_add φ_law_letters) [true, true, false, false] 17
theorem w_law_way (φ_law_take : WF) (φ_law_period : WF) (φ_law_way : WF) (φ_law_add : WF) (φ_law_letters : WF) (x0 x1 x2 x3 : Vl) (P : Vl → Ev → Prop) (PX : Xi) : v_law_way φ_law_take φ_law_period φ_law_way φ_law_add φ_law_letters [x0, x1, x2, x3] P PX = s_law_way φ_law_take φ_law_period φ_law_way φ_law_add φ_law_letters (fun C fs env => nOut [true, true, false, false] env (PX C fs)) (VE.mk (fun env => nOut [true, true, false, false] env (P .non)) (fun x env => nOut [true, true, false, false] env (P x)) (fun _ => False) (fun _ => False)) [some x0, some x1, some x2, some x3, none, none, none, none, none, none, none, none, none, none, none, none, none] := rfl
theorem pure_law_way {K : PySem.W.Frag} (φ_law_take : WF) (φ_law_period : WF) (φ_law_way : WF) (φ_law_add : WF) (φ_law_letters : WF) (vs : List V) (H : Hp) (Q : VK) (E : XK) (h : spOf K 4 (v_law_way φ_law_take φ_law_period φ_law_way φ_law_add φ_law_letters) vs H Q E) : t_law_way K (spOf K 2 φ_law_take) (spOf K 1 φ_law_period) (spOf K 4 φ_law_way) (spOf K 3 φ_law_add) (spOf K 2 φ_law_letters) { nx := fun _ H' => Q .non H', rt := Q } (start N_law_way vs) H :=
  body_ok (N := N_law_way) (pn := [true, true, false, false]) (t := fun E => t_law_way K (spOf K 2 φ_law_take) (spOf K 1 φ_law_period) (spOf K 4 φ_law_way) (spOf K 3 φ_law_add) (spOf K 2 φ_law_letters)) (fun vs hl E ξ => match vs, hl with | [v0, v1, v2, v3], _ => snd_law_way φ_law_take φ_law_period φ_law_way φ_law_add φ_law_letters v0 v1 v2 v3 E ξ) h
def N_law_other : List Str := ["_law_pool_here", "_law_letters_here", "_law_box_here"]
theorem st_law_other {v0 v1 : V} : start N_law_other [v0, v1] = [some v0, some v1, none] := rfl
def t_law_other (K : PySem.W.Frag) (sp_law_box : Sp) (sp_law_way : Sp) : TS := (tSeq (tAsg (tCall sp_law_box [] E0 tNil) (gName 2)) (tSeq (tDrop (tCall sp_law_way [] E0 (tCons (tVar 0) (tCons (tVar 2) (tCons (tVar 1) (tCons (tC (.int 3)) tNil)))))) (tRet (tVar 2))))
def s_law_other (φ_law_box : WF) (φ_law_way : WF) (ξ : Xi) : WS := (sSeq (sAsg (eCall φ_law_box [] xNo aNil) (gNm 2)) (sSeq (sDrop (eCall φ_law_way [some 0, some 2, none, none] xNo (aIo 0 (aIo 2 (aCons (eFrz 1) (aCons (eB (bC (.int 3))) aNil)))))) (sRet (eMov 2))))
theorem snd_law_other {K : PySem.W.Frag} (φ_law_box : WF) (φ_law_way : WF) (v0 v1 : V) (E : XK) (ξ : Xi) : SS K [some v0, none] (fun _ => E) ξ (t_law_other K (spOf K 0 φ_law_box) (spOf K 4 φ_law_way)) (s_law_other φ_law_box φ_law_way ξ) := by
  unfold t_law_other s_law_other
  exact (ss_seq (ss_asg (se_call rfl sk_nil) (sg_name (.inr rfl))) (ss_seq (ss_drop (se_call rfl (sk_io (sk_io (sk_ex se_frz (sk_ex (se_b sb_int) sk_nil)))))) (ss_ret se_mov)))
def v_law_other (φ_law_box : WF) (φ_law_way : WF) : WF := wf (s_law_other φ_law_box φ_law_way) [true, false] 3
theorem w_law_other (φ_law_box : WF) (φ_law_way : WF) (x0 x1 : Vl) (P : Vl → Ev → Prop) (PX : Xi) : v_law_other φ_law_box φ_law_way [x0, x1] P PX = s_law_other φ_law_box φ_law_way (fun C fs env => nOut [true, false] env (PX C fs)) (VE.mk (fun env => nOut [true, false] env (P .non)) (fun x env => nOut [true, false] env (P x)) (fun _ => False) (fun _ => False)) [some x0, some x1, none] := rfl
theorem pure_law_other {K : PySem.W.Frag} (φ_law_box : WF) (φ_law_way : WF) (vs : List V) (H : Hp) (Q : VK) (E : XK) (h : spOf K 2 (v_law_other φ_law_box φ_law_way) vs H Q E) : t_law_other K (spOf K 0 φ_law_box) (spOf K 4 φ_law_way) { nx := fun _ H' => Q .non H', rt := Q } (start N_law_other vs) H :=
  body_ok (N := N_law_other) (pn := [true, false]) (t := fun E => t_law_other K (spOf K 0 φ_law_box) (spOf K 4 φ_law_way)) (fun vs hl E ξ => match vs, hl with | [v0, v1], _ => snd_law_other φ_law_box φ_law_way v0 v1 E ξ) h
/-! ### the second way to draw rules: boxes -/
abbrev kRu : Key := .inr ("rules" : Str)
abbrev kTx : Key := .inr ("texts" : Str)
def BoxV (rs : List Ru) (ts : List Tx) : Vl := .dic true [(kRu, .lst false (rs.map ruL)), (kTx, .lst false (ts.map txL))]
theorem str_rt : (("rules" : Str) = "texts") = False := by decide +kernel
theorem str_tr : (("texts" : Str) = "rules") = False := by decide +kernel
theorem key_rt : ((kRu : Key) = kTx) = False := by decide +kernel
theorem key_tr : ((kTx : Key) = kRu) = False := by decide +kernel
theorem box_rules {rs : List Ru} {ts : List Tx} : valD [(kRu, .lst false (rs.map ruL)), (kTx, .lst false (ts.map txL))] kRu = some (.lst false (rs.map ruL)) := valD_pos rfl
theorem box_texts {rs : List Ru} {ts : List Tx} : valD [(kRu, .lst false (rs.map ruL)), (kTx, .lst false (ts.map txL))] kTx = some (.lst false (ts.map txL)) := by
  rw [valD_neg (by show ¬ ((kRu : Key) = kTx); rw [key_rt]; exact id)]
  exact valD_pos rfl
instance {rs : List Ru} {ts : List Tx} {Q : Vl → Prop} : St1 (wDGet (BoxV rs ts) (.str "rules") Q) (Q (.lst false (rs.map ruL))) := ⟨fun h => ⟨true, _, _, _, rfl, rfl, box_rules, h⟩⟩
instance {rs : List Ru} {ts : List Tx} {Q : Vl → Prop} : St1 (wDGet (BoxV rs ts) (.str "texts") Q) (Q (.lst false (ts.map txL))) := ⟨fun h => ⟨true, _, _, _, rfl, rfl, box_texts, h⟩⟩
theorem put_rules {R R' T : Vl} : putD [(kRu, R), (kTx, T)] kRu R' = [(kRu, R'), (kTx, T)] := by
  unfold putD
  simp [str_tr]
theorem put_texts {R T' T : Vl} : putD [(kRu, R), (kTx, T)] kTx T' = [(kRu, R), (kTx, T')] := by
  unfold putD
  simp [str_rt]
theorem empty_eq1 : ("" : Str) = S [] := by decide +kernel
abbrev V_add : WF := v_law_add
theorem nput_rules {rs : List Ru} {ts : List Tx} {R' : Vl} {n : Nat} {env env' : Ev} {β : WB} {p : Ev → Prop} [l : LkE env n (BoxV rs ts)] [f : Fzc R'] [e : SsE env n (some (.dic true [(kRu, R'), (kTx, .lst false (ts.map txL))])) env'] (hb : ∀ Q : Vl → Prop, Q (.str "rules") → β env Q) (h : p env') : nDPut (gSl n) (pSl n) R' β env p :=
  ⟨_, gSl_of (x := .dic true [(kRu, .lst false (rs.map ruL)), (kTx, .lst false (ts.map txL))]) (l := l), f.h, hb _ ⟨_, rfl, by show (2 : Nat) < _; decide, by rw [put_rules, pSl, e.h]; exact h⟩⟩
theorem nput_texts {rs : List Ru} {ts : List Tx} {R' : Vl} {n : Nat} {env env' : Ev} {β : WB} {p : Ev → Prop} [l : LkE env n (BoxV rs ts)] [f : Fzc R'] [e : SsE env n (some (.dic true [(kRu, .lst false (rs.map ruL)), (kTx, R')])) env'] (hb : ∀ Q : Vl → Prop, Q (.str "texts") → β env Q) (h : p env') : nDPut (gSl n) (pSl n) R' β env p :=
  ⟨_, gSl_of (x := .dic true [(kRu, .lst false (rs.map ruL)), (kTx, .lst false (ts.map txL))]) (l := l), f.h, hb _ ⟨_, rfl, by show (2 : Nat) < _; decide, by rw [put_texts, pSl, e.h]; exact h⟩⟩
theorem add_ok {rs : List Ru} {ts : List Tx} {r : Ru} {t : Tx} {P : Vl → Ev → Prop} {PX : Xi} (hl : rs.length ≤ 100000) (ht : ts.length ≤ 100000) (k : P (.int (rs.length : Int)) [some (BoxV (rs ++ [r]) (ts ++ [t])), none, none]) : V_add [BoxV rs ts, ruL r, .str (S t)] P PX := by
  unfold V_add
  rw [w_law_add]
  unfold s_law_add
  walk_at "vv"
  refine v_cat (by simp; omega) ?_
  walk_at "vv"
  refine nput_rules (fun _ h => h) ?_
  rw [show (rs.map ruL ++ [ruL r] : List Vl) = (rs ++ [r]).map ruL by rw [List.map_append]; rfl]
  show sSeq _ _ _ [some (BoxV (rs ++ [r]) ts), some (ruL r), some (.str (S t))]
  walk_at "vv"
  refine v_cat (by simp; omega) ?_
  walk_at "vv"
  refine nput_texts (fun _ h => h) ?_
  rw [show (ts.map txL ++ [Vl.str (S t)] : List Vl) = (ts ++ [t]).map txL by rw [List.map_append]; rfl]
  show sRet _ _ [some (BoxV (rs ++ [r]) (ts ++ [t])), some (ruL r), some (.str (S t))]
  walk_at "vv"
  rw [List.length_map, List.length_append]
  rw [show (((rs.length + [r].length : Nat) : Int) - 1) = (rs.length : Int) by simp]
  exact k
theorem box_ok {P : Vl → Ev → Prop} {PX : Xi} (k : P (BoxV [] []) []) : v_law_box [] P PX := by
  rw [w_law_box]
  unfold s_law_box
  walk_at "vv"
  exact k
theorem pick1 {w : Tx} {r : Int} (h0 : 0 ≤ r) (h1 : r < (w.length : Int)) {q : Nat → Prop} (h : ∀ c ∈ w, q c) : ∃ c, atI w r = some c ∧ q c := by
  obtain ⟨n, rfl⟩ : ∃ n : Nat, r = (n : Int) := ⟨r.toNat, by omega⟩
  have hn : n < w.length := by omega
  exact ⟨w[n], atI_nat (List.getElem?_eq_getElem hn), h _ (List.getElem_mem hn)⟩
abbrev V_letters : WF := v_law_letters V_take
theorem bletters_ok {x : Vl} [hP : PoolV x] {most : Nat} {P : Vl → Ev → Prop} {PX : Xi} (hm : most ≤ 1000) (k : ∀ (w : Tx) x', w.length ≤ most → (∀ c ∈ w, c ∈ signs) → PoolV x' → P (.str (S w)) [some x', none]) : V_letters [x, .int (most : Int)] P PX := by
  unfold V_letters
  rw [w_law_letters]
  unfold s_law_letters
  rw [signs_eq]
  walk_at "vv"
  refine take_ok (by decide) (by decide) fun kd x1 h0 h1 hP1 => ?_
  walk_at "vv"
  refine take_ok (by decide) (by decide) fun bs x2 h2 h3 hP2 => ?_
  walk_at "vv"
  refine take_ok (by omega) (by omega) fun mn x3 h4 h5 hP3 => ?_
  walk_at "vv"
  rw [empty_eq1]
  refine ⟨fun i env => ∃ (w : Tx) (x' : Vl) (o6 o7 : Option Vl), env = [some x', some (.int (most : Int)), some (.str (S signs)), some (.int kd), some (.int bs), some (.str (S w)), o6, o7] ∧ w.length = i ∧ (∀ c ∈ w, c ∈ signs) ∧ PoolV x', ⟨[], x3, none, none, rfl, rfl, fun c hc => by simp at hc, hP3⟩, ?_, ?_⟩
  · rintro i y env hi rfl ⟨w, x4, o6, o7, rfl, hw, hs, hP4⟩
    have hi' : i < 1001 := by omega
    walk_at "vv"
    refine take_ok (by decide) (by decide) fun r x5 r0 r1 hP5 => ?_
    walk_at "vv"
    obtain ⟨c, hc, hcs⟩ := pick1 (w := signs) (r := bs + r) (by omega) (by show _ < (94 : Int); omega) (q := fun c => c ∈ signs) fun c h => h
    refine v_ixS (by decide) hc ?_
    walk_at "vv"
    have cut : ∀ {e : Int}, True := fun {_} => trivial
    refine ⟨fun env => ∃ (c : Nat) (x' : Vl), env = [some x', some (.int (most : Int)), some (.str (S signs)), some (.int kd), some (.int bs), some (.str (S w)), some (.int (0 + (i : Int))), some (.str (S [c]))] ∧ c ∈ signs ∧ PoolV x', ?_, ?_⟩
    · walk_at "vv"
      refine ifP (fun h => ?_) (fun h => ?_)
      · walk_at "vv"
        refine take_ok (by decide) (by decide) fun r x5 r0 r1 hP5 => ?_
        walk_at "vv"
        obtain ⟨c, hc, hcs⟩ := pick1 (w := signs) (r := r) (by omega) (by show _ < (94 : Int); omega) (q := fun c => c ∈ signs) fun c h => h
        refine v_ixS (by decide) hc ?_
        walk_at "vv"
        exact ⟨c, _, rfl, hcs, hP5⟩
      · walk_at "vv"
        exact ⟨c, _, rfl, hcs, hP5⟩
    rintro env ⟨c, x5, rfl, hcs, hP5⟩
    refine ⟨fun env => ∃ (c : Nat) (x' : Vl), env = [some x', some (.int (most : Int)), some (.str (S signs)), some (.int kd), some (.int bs), some (.str (S w)), some (.int (0 + (i : Int))), some (.str (S [c]))] ∧ c ∈ signs ∧ PoolV x', ?_, ?_⟩
    · walk_at "vv"
      refine ifP (fun h => ?_) (fun h => ?_)
      · walk_at "vv"
        refine take_ok (by decide) (by decide) fun r x5 r0 r1 hP5 => ?_
        walk_at "vv"
        rw [show ("abcde" : Str) = S [97, 98, 99, 100, 101] by decide +kernel]
        obtain ⟨c, hc, hcs⟩ := pick1 (w := [97, 98, 99, 100, 101]) (r := r) (by omega) (by show _ < (5 : Int); omega) (q := fun c => c ∈ signs) (by decide +kernel)
        refine v_ixS (by decide) hc ?_
        walk_at "vv"
        exact ⟨c, _, rfl, hcs, hP5⟩
      · walk_at "vv"
        exact ⟨c, _, rfl, hcs, hP5⟩
    rintro env ⟨c, x5, rfl, hcs, hP5⟩
    refine ⟨fun env => ∃ (c : Nat) (x' : Vl), env = [some x', some (.int (most : Int)), some (.str (S signs)), some (.int kd), some (.int bs), some (.str (S w)), some (.int (0 + (i : Int))), some (.str (S [c]))] ∧ c ∈ signs ∧ PoolV x', ?_, ?_⟩
    · walk_at "vv"
      refine ifP (fun h => ?_) (fun h => ?_)
      · walk_at "vv"
        refine take_ok (by decide) (by decide) fun r x5 r0 r1 hP5 => ?_
        walk_at "vv"
        rw [show ("ab" : Str) = S [97, 98] by decide +kernel]
        obtain ⟨c, hc, hcs⟩ := pick1 (w := [97, 98]) (r := r) (by omega) (by show _ < (2 : Int); omega) (q := fun c => c ∈ signs) (by decide +kernel)
        refine v_ixS (by decide) hc ?_
        walk_at "vv"
        exact ⟨c, _, rfl, hcs, hP5⟩
      · walk_at "vv"
        exact ⟨c, _, rfl, hcs, hP5⟩
    rintro env ⟨c, x5, rfl, hcs, hP5⟩
    walk_at "vv"
    refine v_addS (by simp; omega) ?_
    walk_at "vv"
    exact ⟨w ++ [c], _, _, _, rfl, by simp [hw], fun d hd => by
      rcases List.mem_append.mp hd with hd | hd
      · exact hs d hd
      · rw [List.mem_singleton.mp hd]; exact hcs, hP5⟩
  · rintro env ⟨w, x4, o6, o7, rfl, hw, hs, hP4⟩
    walk_at "vv"
    exact k w x4 (by omega) hs hP4
theorem S_emp {t : Tx} : (S t = ("" : Str)) ↔ t = [] := by
  constructor
  · intro h
    rw [empty_eq1] at h
    have := congrArg (fun s : Str => s.length) h
    simp only [SX.S_len] at this
    exact List.eq_nil_of_length_eq_zero (by simpa using this)
  · rintro rfl
    exact empty_eq1.symm
abbrev V_power_rule : WF := v_law_power_rule V_take V_add
theorem power_rule_ok {z : Vl} [hP : PoolV z] {rs : List Ru} {ts : List Tx} {most m : Nat} {P : Vl → Ev → Prop} {PX : Xi} (hT : TabL rs ts m) (h1 : 1 ≤ rs.length) (hl : rs.length ≤ 10000) (hmm : most ≤ m) (hm : m ≤ 100000)
    (k : ∀ (r : Ru) z', PoolV z' → TabL (rs ++ [r]) (ts ++ [ruT ts r]) m → P (.int (rs.length : Int)) [some z', some (BoxV (rs ++ [r]) (ts ++ [ruT ts r])), none]) : V_power_rule [z, BoxV rs ts, .int (most : Int)] P PX := by
  have hln := hT.tab.ln
  unfold V_power_rule
  rw [w_law_power_rule]
  unfold s_law_power_rule
  walk_at "vv"
  rw [List.length_map]
  refine take_ok (by omega) (by omega) fun f z1 f0 f1 hP1 => ?_
  obtain ⟨f, rfl⟩ : ∃ n : Nat, f = (n : Int) := ⟨f.toNat, by omega⟩
  have hf : f < ts.length := by omega
  have hlf := hT.le f
  walk_at "vv"
  refine v_ixL (txL_get hf) ?_
  walk_at "vv"
  refine take_ok (by decide) (by decide) fun t z2 t0 t1 hP2 => ?_
  walk_at "vv"
  refine ⟨fun env => ∃ (z' : Vl) (t : Nat), env = [some z', some (BoxV rs ts), some (.int (most : Int)), some (.int (f : Int)), some (.str (S (gt ts f))), some (.int (t : Int))] ∧ t ≤ 100005 ∧ PoolV z', ?_, ?_⟩
  · walk_at "vv"
    refine ifN (fun h => ?_) (fun h => ?_)
    · have hne : 0 < (gt ts f).length := List.length_pos_iff.mpr fun e => h (S_emp.mpr e)
      walk_at "vv"
      refine take_ok (by decide) (by decide) fun c z3 c0 c1 hP3 => ?_
      walk_at "vv"
      refine ifP (fun h => ?_) (fun h => ?_)
      · walk_at "vv"
        refine v_lenS (by omega) ?_
        walk_at "vv"
        have hq : (most : Int) / ((gt ts f).length : Int) ≤ (most : Int) := Int.ediv_le_self _ (by omega)
        have hq0 : 0 ≤ (most : Int) / ((gt ts f).length : Int) := Int.ediv_nonneg (by omega) (by omega)
        refine take_ok (by omega) (by omega) fun c z4 c0 c1 hP4 => ?_
        walk_at "vv"
        exact ⟨z4, c.toNat, by rw [show ((c.toNat : Nat) : Int) = c by omega], by omega, hP4⟩
      · walk_at "vv"
        exact ⟨z3, t.toNat, by rw [show ((t.toNat : Nat) : Int) = t by omega], by omega, hP3⟩
    · walk_at "vv"
      exact ⟨z2, t.toNat, by rw [show ((t.toNat : Nat) : Int) = t by omega], by omega, hP2⟩
  rintro env ⟨z3, t, rfl, ht, hP3⟩
  refine ⟨fun env => ∃ (t : Nat), env = [some z3, some (BoxV rs ts), some (.int (most : Int)), some (.int (f : Int)), some (.str (S (gt ts f))), some (.int (t : Int))] ∧ t ≤ 100005 ∧ (gt ts f).length * t ≤ most, ?_, ?_⟩
  · walk_at "vv"
    refine v_lenS (by omega) ?_
    walk_at "vv"
    refine ifP (fun h => ?_) (fun h => ?_)
    · have hne : 0 < (gt ts f).length := by
        cases hz : (gt ts f).length with
        | zero => rw [hz] at h; omega
        | succ n => omega
      walk_at "vv"
      refine v_lenS (by omega) ?_
      walk_at "vv"
      refine ⟨most / (gt ts f).length, by rw [Int.natCast_ediv], ?_, Nat.mul_div_le _ _⟩
      have := Nat.div_le_self most (gt ts f).length
      omega
    · walk_at "vv"
      refine ⟨t, rfl, ht, ?_⟩
      have : ((gt ts f).length : Int) * (t : Int) = (((gt ts f).length * t : Nat) : Int) := (Int.natCast_mul _ _).symm
      omega
  rintro env ⟨t, rfl, ht, hpt⟩
  walk_at "vv"
  have e : (List.replicate t (gt ts f)).flatten = ruT ts (.power f t) := rfl
  refine v_repS (by omega) (by omega) (by rw [Int.toNat_natCast]; omega) ?_
  rw [Int.toNat_natCast]
  walk_at "vv"
  refine add_ok (r := .power f t) (by omega) (by omega) ?_
  walk_at "vv"
  rw [e]
  exact k (.power f t) z3 hP3 (hT.snoc hm ⟨hf, by omega⟩ (by show (List.replicate t (gt ts f)).flatten.length ≤ m; rw [rep_len, Nat.mul_comm]; omega))
theorem six30 (c : Bool) : atI [Vl.int 6, Vl.int 30] (if c = true then 1 else 0) = some (.int ((if c = true then 30 else 6 : Nat) : Int)) := by cases c <;> rfl
theorem bletters30 {z1 : Vl} [hP : PoolV z1] (c : Bool) {P : Vl → Ev → Prop} {PX : Xi} (k : ∀ (w : Tx) z', w.length ≤ 30 → (∀ c ∈ w, c ∈ signs) → PoolV z' → P (.str (S w)) [some z', none]) : V_letters [z1, .int ((if c = true then 30 else 6 : Nat) : Int)] P PX :=
  bletters_ok (by cases c <;> decide) fun w x' h hs hP => k w x' (by cases c <;> simp at h <;> omega) hs hP
abbrev V_next_rule : WF := v_law_next_rule V_take V_letters V_add V_power_rule
theorem next_rule_ok {z : Vl} [hP : PoolV z] {rs : List Ru} {ts : List Tx} {most m : Nat} {P : Vl → Ev → Prop} {PX : Xi} (hT : TabL rs ts m) (hl : rs.length ≤ 10000) (hmm : most ≤ m) (hm0 : 30 ≤ m) (hm : m ≤ 100000)
    (k : ∀ (r : Ru) z', PoolV z' → TabL (rs ++ [r]) (ts ++ [ruT ts r]) m → P (.int (rs.length : Int)) [some z', some (BoxV (rs ++ [r]) (ts ++ [ruT ts r])), none]) : V_next_rule [z, BoxV rs ts, .int (most : Int)] P PX := by
  have hln := hT.tab.ln
  unfold V_next_rule
  rw [w_law_next_rule]
  unfold s_law_next_rule
  walk_at "vv"
  refine take_ok (by decide) (by decide) fun kd z1 k0 k1 hP1 => ?_
  walk_at "vv"
  rw [List.length_map]
  refine ifP (fun h => ?_) (fun h => ?_)
  · walk_at "vv"
    refine take_ok (by decide) (by decide) fun c z2 c0 c1 hP2 => ?_
    walk_at "vv"
    refine v_ixT (six30 _) ?_
    walk_at "vv"
    refine bletters30 _ fun w z3 hw hs hP3 => ?_
    walk_at "vv"
    refine add_ok (r := .wri w) (by omega) (by omega) ?_
    walk_at "vv"
    exact k (.wri w) z3 hP3 (hT.snoc hm ⟨by omega, hs⟩ (by show w.length ≤ m; omega))
  walk_at "vv"
  refine ifP (fun h2 => ?_) (fun h2 => ?_)
  · walk_at "vv"
    refine take_ok (by decide) (by decide) fun c z2 c0 c1 hP2 => ?_
    walk_at "vv"
    refine v_ixT (six30 _) ?_
    walk_at "vv"
    refine bletters30 _ fun w z3 hw hs hP3 => ?_
    walk_at "vv"
    refine add_ok (r := .wri w) (by omega) (by omega) ?_
    walk_at "vv"
    exact k (.wri w) z3 hP3 (hT.snoc hm ⟨by omega, hs⟩ (by show w.length ≤ m; omega))
  have hne : 0 < rs.length := by omega
  walk_at "vv"
  refine take_ok (by omega) (by omega) fun f z2 f0 f1 hP2 => ?_
  obtain ⟨f, rfl⟩ : ∃ n : Nat, f = (n : Int) := ⟨f.toNat, by omega⟩
  have hf : f < ts.length := by omega
  have hlf := hT.le f
  walk_at "vv"
  refine v_ixL (txL_get hf) ?_
  walk_at "vv"
  refine ⟨fun env => ∃ (z' : Vl) (g : Nat) (o8 : Option Vl), env = [some z', some (BoxV rs ts), some (.int (most : Int)), some (.int kd), some (.int (rs.length : Int)), none, some (.int (g : Int)), some (.str (S (gt ts f))), o8, none, none] ∧ (4 ≤ kd → g = f) ∧ PoolV z', ?_, ?_⟩
  · walk_at "vv"
    refine ifP (fun h3 => ?_) (fun h3 => ?_)
    · walk_at "vv"
      refine take_ok (by omega) (by omega) fun o z3 o0 o1 hP3 => ?_
      obtain ⟨o, rfl⟩ : ∃ n : Nat, o = (n : Int) := ⟨o.toNat, by omega⟩
      walk_at "vv"
      refine ⟨fun env => ∃ (z' : Vl) (g o : Nat), env = [some z', some (BoxV rs ts), some (.int (most : Int)), some (.int kd), some (.int (rs.length : Int)), none, some (.int (g : Int)), some (.str (S (gt ts f))), some (.int (o : Int)), none, none] ∧ g < ts.length ∧ o < ts.length ∧ PoolV z', ?_, ?_⟩
      · walk_at "vv"
        refine take_ok (by decide) (by decide) fun c z4 c0 c1 hP4 => ?_
        walk_at "vv"
        refine ifP (fun h4 => ?_) (fun h4 => ?_)
        · walk_at "vv"
          exact ⟨z4, rs.length - 1, rs.length - 2, by rw [show (rs.length : Int) - 1 = ((rs.length - 1 : Nat) : Int) by omega, show max 0 ((rs.length : Int) - 2) = ((rs.length - 2 : Nat) : Int) by omega], by omega, by omega, hP4⟩
        · walk_at "vv"
          exact ⟨z4, f, o, rfl, hf, by omega, hP4⟩
      rintro env ⟨z4, g, o, rfl, hg, ho, hP4⟩
      have hlg := hT.le g
      have hlo := hT.le o
      walk_at "vv"
      refine v_ixL (txL_get hg) ?_
      walk_at "vv"
      refine v_lenS (by omega) ?_
      walk_at "vv"
      refine v_ixL (txL_get ho) ?_
      walk_at "vv"
      refine v_lenS (by omega) ?_
      walk_at "vv"
      refine ifP (fun h5 => ?_) (fun h5 => ?_)
      · walk_at "vv"
        refine v_ixL (txL_get hg) ?_
        walk_at "vv"
        refine v_ixL (txL_get ho) ?_
        walk_at "vv"
        refine v_addS (by omega) ?_
        walk_at "vv"
        refine add_ok (r := .join g o) (by omega) (by omega) ?_
        walk_at "vv"
        exact k (.join g o) z4 hP4 (hT.snoc hm ⟨hg, ho⟩ (by show (gt ts g ++ gt ts o).length ≤ m; rw [List.length_append]; omega))
      · walk_at "vv"
        exact ⟨z4, g, _, rfl, fun h => by omega, hP4⟩
    · walk_at "vv"
      exact ⟨z2, f, _, rfl, fun _ => rfl, hP2⟩
  rintro env ⟨z3, g, o8, rfl, hgf, hP3⟩
  walk_at "vv"
  refine ifP (fun h4 => ?_) (fun h4 => ?_)
  · cases hgf (by omega)
    walk_at "vv"
    refine v_revS (by omega) ?_
    walk_at "vv"
    refine add_ok (r := .back f) (by omega) (by omega) ?_
    walk_at "vv"
    exact k (.back f) z3 hP3 (hT.snoc hm hf (by show (gt ts f).reverse.length ≤ m; rw [List.length_reverse]; omega))
  walk_at "vv"
  refine ifP (fun h5 => ?_) (fun h5 => ?_)
  · cases hgf (by omega)
    walk_at "vv"
    refine v_lenS (by omega) ?_
    walk_at "vv"
    refine take_ok (by omega) (by omega) fun a z4 a0 a1 hP4 => ?_
    obtain ⟨a, rfl⟩ : ∃ n : Nat, a = (n : Int) := ⟨a.toNat, by omega⟩
    walk_at "vv"
    refine v_lenS (by omega) ?_
    walk_at "vv"
    refine take_ok (by omega) (by omega) fun b z5 b0 b1 hP5 => ?_
    obtain ⟨b, rfl⟩ : ∃ n : Nat, b = (n : Int) := ⟨b.toNat, by omega⟩
    walk_at "vv"
    rw [show (a : Int) + (b : Int) = ((a + b : Nat) : Int) by omega]
    refine v_cutS (by omega) cutS_nat ?_
    walk_at "vv"
    refine add_ok (r := .part f a (a + b)) (by omega) (by omega) ?_
    walk_at "vv"
    exact k (.part f a (a + b)) z5 hP5 (hT.snoc hm ⟨hf, by omega, by omega⟩ (by show (((gt ts f).take (a + b)).drop a).length ≤ m; rw [cut_len (by omega)]; omega))
  walk_at "vv"
  refine power_rule_ok hT hne hl hmm hm fun r z4 hP4 hT4 => ?_
  walk_at "vv"
  exact k r z4 hP4 hT4
theorem gt_end {ts : List Tx} {x : Tx} {n : Nat} (h : ts.length = n) : gt (ts ++ [x]) n = x := by subst h; exact gt_at (by rw [List.getElem?_append_right (by omega), Nat.sub_self]; rfl)
abbrev V_turned_letter : WF := v_law_turned_letter V_take V_add
theorem abc_eq : ("abc" : Str) = S [97, 98, 99] := by decide +kernel
theorem txs_last' {ts : List Tx} (h : 1 ≤ ts.length) : atI (ts.map txL) (-1) = some (.str (S (whole ts))) := by
  have : ts.length - 1 < ts.length := by omega
  have e := take_one (at_gt this)
  rw [show ts.length - 1 + 1 = ts.length by omega, List.take_of_length_le (Nat.le_refl _)] at e
  conv => lhs; rw [e]
  rw [List.map_append]
  exact atI_last _ _
theorem turned_letter_ok {z : Vl} [hP : PoolV z] {rs : List Ru} {ts : List Tx} {most m : Nat} {P : Vl → Ev → Prop} {PX : Xi} (hT : TabL rs ts m) (h1 : 1 ≤ rs.length) (hl : rs.length ≤ 10000) (hm0 : 30 ≤ m) (hm : m ≤ 100000)
    (k : ∀ rs' ts' z', PoolV z' → TabL rs' ts' m → rs.length ≤ rs'.length → rs'.length ≤ rs.length + 5 → P .non [some z', some (BoxV rs' ts'), none]) : V_turned_letter [z, BoxV rs ts, .int (most : Int)] P PX := by
  have hln := hT.tab.ln
  have hlw : (whole ts).length ≤ m := hT.le _
  unfold V_turned_letter
  rw [w_law_turned_letter]
  unfold s_law_turned_letter
  walk_at "vv"
  refine v_ixL (txs_last' (by omega)) ?_
  walk_at "vv"
  refine ifP (fun h0 => ?_) (fun h0 => ?_)
  · walk_at "vv"
    exact k rs ts z hP hT (by omega) (by omega)
  walk_at "vv"
  refine v_lenS (by omega) ?_
  walk_at "vv"
  refine ifP (fun h => ?_) (fun h => ?_)
  · walk_at "vv"
    exact k rs ts z hP hT (by omega) (by omega)
  have hne : 0 < (whole ts).length := List.length_pos_iff.mpr fun e => h0 (S_emp.mpr e)
  walk_at "vv"
  refine v_lenS (by omega) ?_
  walk_at "vv"
  refine take_ok (by omega) (by omega) fun a z1 a0 a1 hP1 => ?_
  obtain ⟨a, rfl⟩ : ∃ n : Nat, a = (n : Int) := ⟨a.toNat, by omega⟩
  walk_at "vv"
  refine take_ok (by decide) (by decide) fun c z2 c0 c1 hP2 => ?_
  walk_at "vv"
  rw [abc_eq]
  obtain ⟨c, hc, hcs⟩ := pick1 (w := [97, 98, 99]) (r := c) (by omega) (by show _ < (3 : Int); omega) (q := fun c => c ∈ signs) (by decide +kernel)
  refine v_ixS (by decide) hc ?_
  walk_at "vv"
  obtain ⟨n, hn⟩ : ∃ n, rs.length = n + 1 := ⟨rs.length - 1, by omega⟩
  have hw : whole ts = gt ts n := by unfold whole; rw [show ts.length - 1 = n by omega]
  generalize hB : whole ts = B at *
  rw [List.length_map, show (rs.length : Int) - 1 = (n : Int) by omega]
  refine v_cutS (by omega) cutS_to ?_
  walk_at "vv"
  have f1 : ruT ts (.part n 0 a) = B.take a := by show ((gt ts n).take a).drop 0 = _; rw [← hw]; rfl
  have hT1 := hT.snoc (r := .part n 0 a) hm ⟨by omega, by omega, by rw [← hw]; omega⟩ (by rw [f1, List.length_take]; omega)
  rw [f1] at hT1
  refine add_ok (r := .part n 0 a) (by omega) (by omega) ?_
  walk_at "vv"
  have hT2 := hT1.snoc (r := .wri [c]) hm ⟨by simp, by simpa using hcs⟩ (by show (1 : Nat) ≤ m; omega)
  rw [show ruT (ts ++ [B.take a]) (.wri [c]) = [c] from rfl] at hT2
  refine add_ok (r := .wri [c]) (by simp; omega) (by simp; omega) ?_
  walk_at "vv"
  refine v_lenS (by omega) ?_
  walk_at "vv"
  rw [show (a : Int) + 1 = ((a + 1 : Nat) : Int) by omega]
  refine v_cutS (by omega) cutS_from ?_
  walk_at "vv"
  have g3 : gt (ts ++ [B.take a] ++ [[c]]) n = B := by rw [gt_app (by simp; omega), gt_app (by omega), hw]
  have f3 : ruT (ts ++ [B.take a] ++ [[c]]) (.part n (a + 1) B.length) = B.drop (a + 1) := by
    show ((gt (ts ++ [B.take a] ++ [[c]]) n).take B.length).drop (a + 1) = _
    rw [g3, List.take_of_length_le (Nat.le_refl _)]
  have hT3 := hT2.snoc (r := .part n (a + 1) B.length) hm ⟨by simp; omega, by omega, by rw [g3]; omega⟩ (by rw [f3, List.length_drop]; omega)
  rw [f3] at hT3
  refine add_ok (r := .part n (a + 1) B.length) (by simp; omega) (by simp; omega) ?_
  walk_at "vv"
  refine v_cutS (by omega) cutS_to ?_
  walk_at "vv"
  refine v_addS (by simp; omega) ?_
  walk_at "vv"
  generalize hrs3 : rs ++ [Ru.part n 0 a] ++ [Ru.wri [c]] ++ [Ru.part n (a + 1) B.length] = rs3 at hT3 ⊢
  generalize hts3 : ts ++ [B.take a] ++ [[c]] ++ [B.drop (a + 1)] = ts3 at hT3 ⊢
  have l3 : rs3.length = rs.length + 3 := by rw [← hrs3]; simp
  have l3' : ts3.length = rs.length + 3 := by rw [hT3.tab.ln]; exact l3
  have q0 : gt ts3 rs.length = B.take a := by rw [← hts3, gt_app (by simp; omega), gt_app (by simp; omega)]; exact gt_end (by omega)
  have q1 : gt ts3 (rs ++ [Ru.part n 0 a]).length = [c] := by rw [← hts3, gt_app (by simp; omega)]; exact gt_end (by simp; omega)
  have q2 : gt ts3 (rs ++ [Ru.part n 0 a] ++ [Ru.wri [c]]).length = B.drop (a + 1) := by rw [← hts3]; exact gt_end (by simp; omega)
  have f4 : ruT ts3 (.join rs.length (rs ++ [Ru.part n 0 a]).length) = B.take a ++ [c] := by show gt ts3 _ ++ gt ts3 _ = _; rw [q0, q1]
  have hT4 := hT3.snoc (r := .join rs.length (rs ++ [Ru.part n 0 a]).length) hm ⟨by omega, by simp; omega⟩ (by rw [f4, List.length_append, List.length_take]; simp; omega)
  rw [f4] at hT4
  refine add_ok (r := .join rs.length (rs ++ [Ru.part n 0 a]).length) (by omega) (by omega) ?_
  walk_at "vv"
  refine v_cutS (by omega) cutS_to ?_
  walk_at "vv"
  refine v_addS (by simp; omega) ?_
  walk_at "vv"
  rw [show (a : Int) + 1 = ((a + 1 : Nat) : Int) by omega]
  refine v_cutS (by omega) cutS_from ?_
  walk_at "vv"
  refine v_addS (by simp; omega) ?_
  walk_at "vv"
  have q3 : gt (ts3 ++ [B.take a ++ [c]]) rs3.length = B.take a ++ [c] := gt_end (by omega)
  have q4 : gt (ts3 ++ [B.take a ++ [c]]) (rs ++ [Ru.part n 0 a] ++ [Ru.wri [c]]).length = B.drop (a + 1) := by rw [gt_app (by simp; omega), q2]
  have f5 : ruT (ts3 ++ [B.take a ++ [c]]) (.join rs3.length (rs ++ [Ru.part n 0 a] ++ [Ru.wri [c]]).length) = B.take a ++ [c] ++ B.drop (a + 1) := by show gt _ _ ++ gt _ _ = _; rw [q3, q4]
  have hT5 := hT4.snoc (r := .join rs3.length (rs ++ [Ru.part n 0 a] ++ [Ru.wri [c]]).length) hm ⟨by simp; omega, by simp; omega⟩ (by rw [f5]; simp; omega)
  rw [f5] at hT5
  refine add_ok (r := .join rs3.length (rs ++ [Ru.part n 0 a] ++ [Ru.wri [c]]).length) (by simp; omega) (by simp; omega) ?_
  walk_at "vv"
  exact k _ _ z2 hP2 hT5 (by simp; omega) (by simp; omega)
abbrev V_drawn : WF := v_law_drawn v_law_box V_take V_next_rule V_power_rule V_turned_letter
theorem drawn_ok {z : Vl} [hP : PoolV z] {most m : Nat} {P : Vl → Ev → Prop} {PX : Xi} (hmm : most ≤ m) (hm0 : 30 ≤ m) (hm : m ≤ 100000)
    (k : ∀ rs ts z', PoolV z' → TabL rs ts m → 1 ≤ rs.length → rs.length ≤ 20 → P (BoxV rs ts) [some z', none]) : V_drawn [z, .int (most : Int)] P PX := by
  unfold V_drawn
  rw [w_law_drawn]
  unfold s_law_drawn
  walk_at "vv"
  refine box_ok ?_
  walk_at "vv"
  refine ⟨fun env => ∃ rs ts z' o3, env = [some z', some (.int (most : Int)), some (BoxV rs ts), o3] ∧ TabL rs ts m ∧ 1 ≤ rs.length ∧ rs.length ≤ 14 ∧ PoolV z', ?_, ?_⟩
  · walk_at "vv"
    refine take_ok (by decide) (by decide) fun n z1 n0 n1 hP1 => ?_
    walk_at "vv"
    refine ⟨fun i env => ∃ rs ts z' o3, env = [some z', some (.int (most : Int)), some (BoxV rs ts), o3] ∧ TabL rs ts m ∧ rs.length = i ∧ PoolV z', ⟨[], [], z1, none, rfl, TabL.nil, rfl, hP1⟩, ?_, ?_⟩
    · rintro i y env hi rfl ⟨rs, ts, z2, o3, rfl, hT, hl, hP2⟩
      walk_at "vv"
      refine next_rule_ok hT (by omega) hmm hm0 hm fun r z3 hP3 hT3 => ?_
      walk_at "vv"
      exact ⟨_, _, _, _, rfl, hT3, by simp [hl], hP3⟩
    · rintro env ⟨rs, ts, z2, o3, rfl, hT, hl, hP2⟩
      exact ⟨rs, ts, z2, o3, rfl, hT, by omega, by omega, hP2⟩
  rintro env ⟨rs, ts, z2, o3, rfl, hT, h1, h14, hP2⟩
  refine ⟨fun env => ∃ rs ts z' o3, env = [some z', some (.int (most : Int)), some (BoxV rs ts), o3] ∧ TabL rs ts m ∧ 1 ≤ rs.length ∧ rs.length ≤ 15 ∧ PoolV z', ?_, ?_⟩
  · walk_at "vv"
    refine take_ok (by decide) (by decide) fun n z1 n0 n1 hP1 => ?_
    walk_at "vv"
    refine ifP (fun h => ?_) (fun h => ?_)
    · walk_at "vv"
      refine power_rule_ok hT h1 (by omega) hmm hm fun r z3 hP3 hT3 => ?_
      walk_at "vv"
      exact ⟨_, _, _, _, rfl, hT3, by simp, by simp; omega, hP3⟩
    · walk_at "vv"
      exact ⟨_, _, _, _, rfl, hT, h1, by omega, hP1⟩
  rintro env ⟨rs, ts, z2, o3, rfl, hT, h1, h15, hP2⟩
  refine ⟨fun env => ∃ rs ts z' o3, env = [some z', some (.int (most : Int)), some (BoxV rs ts), o3] ∧ TabL rs ts m ∧ 1 ≤ rs.length ∧ rs.length ≤ 20 ∧ PoolV z', ?_, ?_⟩
  · walk_at "vv"
    refine take_ok (by decide) (by decide) fun n z1 n0 n1 hP1 => ?_
    walk_at "vv"
    refine ifP (fun h => ?_) (fun h => ?_)
    · walk_at "vv"
      refine turned_letter_ok hT h1 (by omega) hm0 hm fun rs' ts' z3 hP3 hT3 g1 g2 => ?_
      walk_at "vv"
      exact ⟨_, _, _, _, rfl, hT3, by omega, by omega, hP3⟩
    · walk_at "vv"
      exact ⟨_, _, _, _, rfl, hT, h1, by omega, hP1⟩
  rintro env ⟨rs, ts, z2, o3, rfl, hT, h1, h20, hP2⟩
  walk_at "vv"
  exact k rs ts z2 hP2 hT h1 h20
abbrev V_period : WF := v_law_period
theorem period_ok {w : Tx} {P : Vl → Ev → Prop} {PX : Xi} (hw : w.length ≤ 100000) (k : ∀ p : Nat, (p = 0 ∨ 1 ≤ p ∧ 2 * p ≤ w.length ∧ w.drop p = w.take (w.length - p)) → P (.int (p : Int)) [none]) : V_period [.str (S w)] P PX := by
  unfold V_period
  rw [w_law_period]
  unfold s_law_period
  walk_at "vv"
  refine v_lenS (by omega) ?_
  walk_at "vv"
  refine ⟨fun i env => ∃ o1, env = [some (.str (S w)), o1], ⟨none, rfl⟩, ?_, ?_⟩
  · rintro i y env hi rfl ⟨o1, rfl⟩
    have hi2 : 2 * (1 + i) ≤ w.length := by omega
    walk_at "vv"
    rw [show (1 : Int) + (i : Int) = ((1 + i : Nat) : Int) by omega]
    refine v_cutS (by omega) cutS_from ?_
    walk_at "vv"
    refine v_lenS (by omega) ?_
    walk_at "vv"
    rw [show (w.length : Int) - ((1 + i : Nat) : Int) = ((w.length - (1 + i) : Nat) : Int) by omega]
    refine v_cutS (by omega) cutS_to ?_
    walk_at "vv"
    refine ifP (fun h => ?_) (fun h => ?_)
    · walk_at "vv"
      exact k (1 + i) (.inr ⟨by omega, hi2, SX.S_inj h⟩)
    · walk_at "vv"
      exact ⟨_, rfl⟩
  · rintro env ⟨o1, rfl⟩
    walk_at "vv"
    exact k 0 (.inl rfl)
def V_wayD : Nat → WF
  | 0 => noF
  | n + 1 => v_law_way V_take V_period (V_wayD n) V_add V_letters
def wayM (w : Tx) (d : Int) : Nat := d.toNat + (w.length - 1) / 32
def wayN (w : Tx) (d : Int) : Nat := 3 * 2 ^ d.toNat - 1 + 3 * ((w.length - 1) / 32 - 1)
theorem lend {A B : Prop} (a : A) (b : A → B) : B := b a
theorem per_rep : ∀ (t : Nat) {w : Tx} {p : Nat}, w.drop p = w.take (w.length - p) → p * t ≤ w.length → w.take (p * t) = (List.replicate t (w.take p)).flatten
  | 0, w, p, _, _ => by simp
  | t + 1, w, p, h, hl => by
    rw [List.replicate_succ, List.flatten_cons, ← per_rep t h (by rw [Nat.mul_succ] at hl; omega)]
    have e : w.take (p * (t + 1)) = w.take p ++ (w.drop p).take (p * t) := by
      rw [Nat.mul_succ, Nat.add_comm, List.take_add]
    rw [e, h, List.take_take, Nat.min_eq_left (by rw [Nat.mul_succ] at hl; omega)]
theorem per_drop : ∀ (t : Nat) {w : Tx} {p : Nat}, w.drop p = w.take (w.length - p) → p * t ≤ w.length → w.drop (p * t) = w.take (w.length - p * t)
  | 0, w, p, _, _ => by simp
  | t + 1, w, p, h, hl => by
    have hl' : p * t ≤ w.length := by rw [Nat.mul_succ] at hl; omega
    have e := per_drop t h hl'
    rw [Nat.mul_succ, ← List.drop_drop, e, List.drop_take, h, List.take_take, Nat.min_eq_left (by omega)]
    congr 1
    omega
theorem way_ok {m : Nat} (hm0 : 64 ≤ m) (hm : m ≤ 100000) : ∀ (n : Nat) {z : Vl} [PoolV z] {rs : List Ru} {ts : List Tx} {w : Tx} {deep : Int} {P : Vl → Ev → Prop} {PX : Xi}, TabL rs ts m → w.length ≤ m → (∀ c ∈ w, c ∈ signs) → wayM w deep < n → rs.length + wayN w deep ≤ 10000 → deep ≤ 10001 → deep ≤ 10000 →
    (∀ rs' tt z', PoolV z' → TabL rs' tt m → (∃ us, tt = ts ++ us) → gt tt (rs'.length - 1) = w → rs.length < rs'.length → rs'.length ≤ rs.length + wayN w deep → P (.int ((rs'.length - 1 : Nat) : Int)) [some z', some (BoxV rs' tt), none, none]) →
    V_wayD n [z, BoxV rs ts, .str (S w), .int deep] P PX
  | 0, z, hP, rs, ts, w, deep, P, PX, hT, hw, hs, hn, hb, hd0, hd1, k => absurd hn (Nat.not_lt_zero _)
  | n + 1, z, hP, rs, ts, w, deep, P, PX, hT, hw, hs, hn, hb, hd0, hd1, k => by
    have hln := hT.tab.ln
    have k2 : ∀ (rs1 : List Ru) (r : Ru) (tt : List Tx) z', PoolV z' → TabL (rs1 ++ [r]) (tt ++ [w]) m → (∃ us, tt = ts ++ us) → rs.length ≤ rs1.length → rs1.length + 1 ≤ rs.length + wayN w deep → P (.int (rs1.length : Int)) [some z', some (BoxV (rs1 ++ [r]) (tt ++ [w])), none, none] := fun rs1 r tt z' h1 h2 ⟨us, h3⟩ h4 h5 => by
      have e : (rs1 ++ [r]).length = rs1.length + 1 := by simp
      have e2 := h2.tab.ln
      rw [List.length_append, List.length_append, List.length_singleton, List.length_singleton] at e2
      have := k (rs1 ++ [r]) (tt ++ [w]) z' h1 h2 ⟨us ++ [w], by rw [h3, List.append_assoc]⟩ (by rw [e, Nat.add_sub_cancel]; exact gt_end (by omega)) (by omega) (by omega)
      rw [e, Nat.add_sub_cancel] at this
      exact this
    have hD : 1 ≤ 2 ^ deep.toNat := Nat.one_le_two_pow
    have hD' : 1 ≤ 2 ^ (deep - 1).toNat := Nat.one_le_two_pow
    have hDD : 0 < deep → 2 ^ deep.toNat = 2 * 2 ^ (deep - 1).toNat := fun h => by rw [show deep.toNat = (deep - 1).toNat + 1 by omega, Nat.pow_succ]; omega
    have hD1 : ¬ 0 < deep → 2 ^ deep.toNat = 1 ∧ 2 ^ (deep - 1).toNat = 1 := fun h => by rw [show deep.toNat = 0 by omega, show (deep - 1).toNat = 0 by omega]; exact ⟨rfl, rfl⟩
    unfold wayN at hb
    unfold wayM at hn
    show v_law_way V_take V_period (V_wayD n) V_add V_letters _ P PX
    rw [w_law_way]
    unfold s_law_way
    walk_at "vv"
    refine take_ok (by decide) (by decide) fun kd z1 k0 k1 hP1 => ?_
    walk_at "vv"
    refine period_ok (by omega) fun p hp => ?_
    walk_at "vv"
    refine ⟨fun env => env = [some z1, some (BoxV rs ts), some (.str (S w)), some (.int deep), some (.int kd), some (.int (p : Int)), none, none, none, none, none, none, none, none, none, none, none], ?_, ?_⟩
    · walk_at "vv"
      refine ifP (fun h1 => ?_) (fun h1 => by walk_at "vv"; rfl)
      walk_at "vv"
      refine ifP (fun h2 => ?_) (fun h2 => by walk_at "vv"; rfl)
      walk_at "vv"
      refine ifP (fun h3 => ?_) (fun h3 => by walk_at "vv"; rfl)
      obtain ⟨hp1, hp2, hp3⟩ : 1 ≤ p ∧ 2 * p ≤ w.length ∧ w.drop p = w.take (w.length - p) := by
        rcases hp with rfl | h
        · omega
        · exact h
      walk_at "vv"
      refine v_lenS (by omega) ?_
      walk_at "vv"
      refine v_cutS (by omega) cutS_to ?_
      walk_at "vv"
      have hpt : p * (w.length / p) ≤ w.length := Nat.mul_div_le _ _
      have hpt2 : w.length < p * (w.length / p) + p := by have := Nat.lt_mul_div_succ w.length (show 0 < p by omega); rw [Nat.mul_succ] at this; exact this
      have htl : w.length / p ≤ w.length := Nat.div_le_self _ _
      rw [show (w.length : Int) / (p : Int) = ((w.length / p : Nat) : Int) by rw [Int.natCast_ediv]]
      generalize ht : w.length / p = t at *
      have hlw1 : (w.take p).length = p := by rw [List.length_take]; omega
      have hE := hDD (by omega)
      refine way_ok hm0 hm n hT (by omega) (fun c hc => hs c (List.mem_of_mem_take hc)) (by unfold wayM; rw [hlw1]; omega) (by unfold wayN; rw [hlw1]; omega) (by omega) (by omega) fun rs1 tt z2 hP2 hT1 ⟨us, htt⟩ hg1 hl1 hl1' => ?_
      unfold wayN at hl1'
      rw [hlw1] at hl1'
      have hln1 := hT1.tab.ln
      walk_at "vv"
      refine v_cutS (by omega) cutS_to ?_
      walk_at "vv"
      refine v_repS (by omega) (by omega) (by rw [hlw1, Int.toNat_natCast]; omega) ?_
      rw [Int.toNat_natCast]
      walk_at "vv"
      have hrep := per_rep t hp3 hpt
      have e1 : ruT tt (.power (rs1.length - 1) t) = (List.replicate t (w.take p)).flatten := by show (List.replicate t (gt _ _)).flatten = _; rw [hg1]
      have hlT1 : ((List.replicate t (w.take p)).flatten : Tx).length = p * t := by rw [rep_len, hlw1, Nat.mul_comm]
      have hT2 := hT1.snoc (r := .power (rs1.length - 1) t) hm ⟨by omega, by omega⟩ (by rw [e1, hlT1]; omega)
      rw [e1] at hT2
      refine add_ok (r := .power (rs1.length - 1) t) (by omega) (by omega) ?_
      walk_at "vv"
      rw [show (p : Int) * (t : Int) = ((p * t : Nat) : Int) from (Int.natCast_mul _ _).symm]
      refine v_lenS (by omega) ?_
      walk_at "vv"
      refine ifP (fun h4 => ?_) (fun h4 => ?_)
      · walk_at "vv"
        have ew : (List.replicate t (w.take p)).flatten = w := by rw [← hrep, List.take_of_length_le (by omega)]
        rw [ew] at hT2 ⊢
        exact k2 _ _ _ z2 hP2 hT2 ⟨us, htt⟩ (by omega) (by unfold wayN; omega)
      walk_at "vv"
      refine v_lenS (by omega) ?_
      walk_at "vv"
      rw [show (p : Int) * (t : Int) = ((p * t : Nat) : Int) from (Int.natCast_mul _ _).symm, show (w.length : Int) - ((p * t : Nat) : Int) = ((w.length - p * t : Nat) : Int) by omega]
      refine v_cutS (by omega) cutS_from ?_
      walk_at "vv"
      have hdr := per_drop t hp3 hpt
      generalize hR : (List.replicate t (w.take p)).flatten = R at *
      have g2 : gt (tt ++ [R]) (rs1.length - 1) = w.take p := by rw [gt_app (by omega), hg1]
      have e2 : ruT (tt ++ [R]) (.part (rs1.length - 1) 0 (w.length - p * t)) = w.drop (p * t) := by
        show ((gt _ _).take _).drop 0 = _
        rw [g2, List.drop_zero, List.take_take, Nat.min_eq_left (by omega), hdr]
      have hT3 := hT2.snoc (r := .part (rs1.length - 1) 0 (w.length - p * t)) hm ⟨by simp; omega, by omega, by rw [g2, hlw1]; omega⟩ (by rw [e2, List.length_drop]; omega)
      rw [e2] at hT3
      refine add_ok (r := .part (rs1.length - 1) 0 (w.length - p * t)) (by simp; omega) (by simp; omega) ?_
      walk_at "vv"
      have l2 : (rs1 ++ [Ru.power (rs1.length - 1) t]).length = rs1.length + 1 := by simp
      rw [l2]
      have g3 : gt (tt ++ [R] ++ [w.drop (p * t)]) rs1.length = w.take (p * t) := by rw [gt_app (by simp; omega), gt_end (by omega), hrep]
      have g4 : gt (tt ++ [R] ++ [w.drop (p * t)]) (rs1.length + 1) = w.drop (p * t) := gt_end (by simp; omega)
      have e3 : ruT (tt ++ [R] ++ [w.drop (p * t)]) (.join rs1.length (rs1.length + 1)) = w := by
        show gt _ _ ++ gt _ _ = _
        rw [g3, g4, List.take_append_drop]
      have hT4 := hT3.snoc (r := .join rs1.length (rs1.length + 1)) hm ⟨by simp; omega, by simp; omega⟩ (by rw [e3]; exact hw)
      rw [e3] at hT4
      refine add_ok (r := .join rs1.length (rs1.length + 1)) (by simp; omega) (by simp; omega) ?_
      walk_at "vv"
      exact k2 _ _ _ z2 hP2 hT4 ⟨us ++ [R] ++ [w.drop (p * t)], by rw [htt]; simp only [List.append_assoc]⟩ (by simp; omega) (by unfold wayN; simp; omega)
    · rintro env rfl
      refine ⟨fun env => env = [some z1, some (BoxV rs ts), some (.str (S w)), some (.int deep), some (.int kd), some (.int (p : Int)), none, none, none, none, none, none, none, none, none, none, none] ∧ w.length ≤ 64, ?_, ?_⟩
      · walk_at "vv"
        refine v_lenS (by omega) ?_
        walk_at "vv"
        apply lend (A := (64 < w.length ∨ 0 < deep) → _)
        case b =>
          intro JB
          refine ifP (fun h1 => ?_) (fun h1 => ?_)
          · walk_at "vv"
            exact JB (.inl (by omega))
          walk_at "vv"
          refine ifP (fun h2 => ?_) (fun h2 => by walk_at "vv"; exact ⟨rfl, by omega⟩)
          walk_at "vv"
          refine ifP (fun h3 => ?_) (fun h3 => by walk_at "vv"; exact ⟨rfl, by omega⟩)
          walk_at "vv"
          refine ifN (fun h4 => ?_) (fun h4 => by walk_at "vv"; exact ⟨rfl, by omega⟩)
          walk_at "vv"
          exact JB (.inr (by omega))
        case a =>
          intro hor
          refine v_lenS (by omega) ?_
          walk_at "vv"
          refine take_ok (by omega) (by omega) fun a z2 a0 a1 hP2 => ?_
          walk_at "vv"
          refine ⟨fun env => ∃ (z' : Vl) (a : Nat), env = [some z', some (BoxV rs ts), some (.str (S w)), some (.int deep), some (.int kd), some (.int (p : Int)), none, none, none, none, some (.int (a : Int)), none, none, none, none, none, none] ∧ a ≤ w.length ∧ (64 < w.length → 32 ≤ a ∧ a ≤ 64) ∧ PoolV z', ?_, ?_⟩
          · walk_at "vv"
            refine v_lenS (by omega) ?_
            walk_at "vv"
            refine ifP (fun h1 => ?_) (fun h1 => ?_)
            · walk_at "vv"
              refine take_ok (by decide) (by decide) fun b z3 b0 b1 hP3 => ?_
              walk_at "vv"
              exact ⟨z3, (32 + b).toNat, by rw [show (((32 + b).toNat : Nat) : Int) = 32 + b by omega], by omega, fun _ => ⟨by omega, by omega⟩, hP3⟩
            · walk_at "vv"
              exact ⟨z2, a.toNat, by rw [show ((a.toNat : Nat) : Int) = a by omega], by omega, fun h => by omega, hP2⟩
          rintro env ⟨z3, a, rfl, ha, ha2, hP3⟩
          have hl1 : (w.take a).length = a := by rw [List.length_take]; omega
          have hl2 : (w.drop a).length = w.length - a := List.length_drop
          have hdd : 0 < deep ∨ ¬ 0 < deep := by omega
          walk_at "vv"
          refine v_cutS (by omega) cutS_to ?_
          walk_at "vv"
          have hN1 : wayN (w.take a) (deep - 1) ≤ 3 * 2 ^ (deep - 1).toNat - 1 + 3 * ((a - 1) / 32 - 1) := by unfold wayN; rw [hl1]; exact Nat.le_refl _
          have hN2 : wayN (w.drop a) (deep - 1) ≤ 3 * 2 ^ (deep - 1).toNat - 1 + 3 * ((w.length - a - 1) / 32 - 1) := by unfold wayN; rw [hl2]; exact Nat.le_refl _
          have hsum : wayN (w.take a) (deep - 1) + wayN (w.drop a) (deep - 1) + 1 ≤ 3 * 2 ^ deep.toNat - 1 + 3 * ((w.length - 1) / 32 - 1) := by
            rcases hdd with h | h
            · have := hDD h
              rcases Nat.lt_or_ge 64 w.length with h5 | h5
              · have := ha2 h5; omega
              · omega
            · have := hD1 h
              rcases Nat.lt_or_ge 64 w.length with h5 | h5
              · have := ha2 h5; omega
              · omega
          refine way_ok hm0 hm n hT (by omega) (fun c hc => hs c (List.mem_of_mem_take hc)) (by
            unfold wayM; rw [hl1]
            rcases Nat.lt_or_ge 64 w.length with h5 | h5
            · have := ha2 h5; omega
            · omega) (by omega) (by omega) (by omega) fun rs1 tt z4 hP4 hT1 ⟨us, htt⟩ hg1 hl1' hl1'' => ?_
          have hln1 := hT1.tab.ln
          walk_at "vv"
          refine v_cutS (by omega) cutS_from ?_
          walk_at "vv"
          refine way_ok hm0 hm n hT1 (by omega) (fun c hc => hs c (List.mem_of_mem_drop hc)) (by
            unfold wayM; rw [hl2]
            rcases Nat.lt_or_ge 64 w.length with h5 | h5
            · have := ha2 h5; omega
            · omega) (by omega) (by omega) (by omega) fun rs2 uu z5 hP5 hT2 ⟨us2, huu⟩ hg2 hl2' hl2'' => ?_
          have hln2 := hT2.tab.ln
          walk_at "vv"
          have e3 : ruT uu (.join (rs1.length - 1) (rs2.length - 1)) = w := by
            show gt _ _ ++ gt _ _ = _
            rw [hg2, huu, gt_app (by omega), hg1, List.take_append_drop]
          have hT3 := hT2.snoc (r := .join (rs1.length - 1) (rs2.length - 1)) hm ⟨by omega, by omega⟩ (by rw [e3]; exact hw)
          rw [e3] at hT3
          refine add_ok (r := .join (rs1.length - 1) (rs2.length - 1)) (by omega) (by omega) ?_
          walk_at "vv"
          exact k2 _ _ _ z5 hP5 hT3 ⟨us ++ us2, by rw [huu, htt, List.append_assoc]⟩ (by omega) (by unfold wayN; omega)
      rintro env ⟨rfl, h64⟩
      refine ⟨fun env => env = [some z1, some (BoxV rs ts), some (.str (S w)), some (.int deep), some (.int kd), some (.int (p : Int)), none, none, none, none, none, none, none, none, none, none, none], ?_, ?_⟩
      · walk_at "vv"
        refine ifP (fun h1 => ?_) (fun h1 => by walk_at "vv"; rfl)
        walk_at "vv"
        refine ifP (fun h2 => ?_) (fun h2 => by walk_at "vv"; rfl)
        have hE := hDD (by omega)
        walk_at "vv"
        refine v_revS (by omega) ?_
        walk_at "vv"
        refine way_ok hm0 hm n hT (by rw [List.length_reverse]; omega) (fun c hc => hs c (List.mem_reverse.mp hc)) (by unfold wayM; rw [List.length_reverse]; omega) (by unfold wayN; rw [List.length_reverse]; omega) (by omega) (by omega) fun rs1 tt z4 hP4 hT1 ⟨us, htt⟩ hg1 hl1' hl1'' => ?_
        unfold wayN at hl1''
        rw [List.length_reverse] at hl1''
        have hln1 := hT1.tab.ln
        walk_at "vv"
        have e3 : ruT tt (.back (rs1.length - 1)) = w := by show (gt _ _).reverse = _; rw [hg1, List.reverse_reverse]
        have hT3 := hT1.snoc (r := .back (rs1.length - 1)) hm (by show _ < _; omega) (by rw [e3]; exact hw)
        rw [e3] at hT3
        refine add_ok (r := .back (rs1.length - 1)) (by omega) (by omega) ?_
        walk_at "vv"
        exact k2 _ _ _ z4 hP4 hT3 ⟨us, htt⟩ (by omega) (by unfold wayN; omega)
      rintro env rfl
      refine ⟨fun env => env = [some z1, some (BoxV rs ts), some (.str (S w)), some (.int deep), some (.int kd), some (.int (p : Int)), none, none, none, none, none, none, none, none, none, none, none], ?_, ?_⟩
      · walk_at "vv"
        refine ifP (fun h1 => ?_) (fun h1 => by walk_at "vv"; rfl)
        walk_at "vv"
        refine v_lenS (by omega) ?_
        walk_at "vv"
        refine ifP (fun h2 => ?_) (fun h2 => by walk_at "vv"; rfl)
        walk_at "vv"
        refine bletters_ok (most := 2) (by decide) fun a z2 ha has hP2 => ?_
        walk_at "vv"
        refine bletters_ok (most := 2) (by decide) fun b z3 hb hbs hP3 => ?_
        walk_at "vv"
        refine v_addS (by omega) ?_
        walk_at "vv"
        refine v_addS (by simp; omega) ?_
        walk_at "vv"
        refine v_addS (by omega) ?_
        walk_at "vv"
        refine v_addS (by simp; omega) ?_
        walk_at "vv"
        have hx : (a ++ w ++ b).length = a.length + w.length + b.length := by simp; omega
        have hxs : ∀ c ∈ a ++ w ++ b, c ∈ signs := fun c hc => by
          simp only [List.mem_append] at hc
          rcases hc with (hc | hc) | hc
          · exact has c hc
          · exact hs c hc
          · exact hbs c hc
        have hT1 := hT.snoc (r := .wri (a ++ w ++ b)) hm ⟨by omega, hxs⟩ (by show (a ++ w ++ b).length ≤ m; omega)
        rw [show ruT ts (.wri (a ++ w ++ b)) = a ++ w ++ b from rfl] at hT1
        refine add_ok (r := .wri (a ++ w ++ b)) (by omega) (by omega) ?_
        walk_at "vv"
        refine v_lenS (by omega) ?_
        walk_at "vv"
        refine v_lenS (by omega) ?_
        walk_at "vv"
        refine v_lenS (by omega) ?_
        walk_at "vv"
        rw [show (a.length : Int) + (w.length : Int) = ((a.length + w.length : Nat) : Int) by omega]
        have g1 : gt (ts ++ [a ++ w ++ b]) rs.length = a ++ w ++ b := gt_end (by omega)
        have e3 : ruT (ts ++ [a ++ w ++ b]) (.part rs.length a.length (a.length + w.length)) = w := by
          show ((gt _ _).take _).drop _ = _
          rw [g1, List.take_append_of_le_length (by simp), List.take_of_length_le (by simp), List.drop_left]
        have hT2 := hT1.snoc (r := .part rs.length a.length (a.length + w.length)) hm ⟨by simp; omega, by omega, by rw [g1]; omega⟩ (by rw [e3]; exact hw)
        rw [e3] at hT2
        refine add_ok (r := .part rs.length a.length (a.length + w.length)) (by simp; omega) (by simp; omega) ?_
        walk_at "vv"
        exact k2 _ _ _ z3 hP3 hT2 ⟨[a ++ w ++ b], rfl⟩ (by simp) (by unfold wayN; simp; omega)
      rintro env rfl
      walk_at "vv"
      have hT3 := hT.snoc (r := .wri w) hm ⟨h64, hs⟩ (by show w.length ≤ m; omega)
      refine add_ok (r := .wri w) (by omega) (by omega) ?_
      walk_at "vv"
      exact k2 _ _ _ z1 hP1 hT3 ⟨[], by simp⟩ (by omega) (by unfold wayN; omega)
abbrev V_way : WF := V_wayD 20
abbrev V_other : WF := v_law_other v_law_box V_way
theorem other_ok {z : Vl} [hP : PoolV z] {w : Tx} {m : Nat} {P : Vl → Ev → Prop} {PX : Xi} (hm0 : 64 ≤ m) (hm : m ≤ 100000) (hw : w.length ≤ m) (hw4 : w.length ≤ 400) (hs : ∀ c ∈ w, c ∈ signs)
    (k : ∀ rs ts z', PoolV z' → TabL rs ts m → whole ts = w → 1 ≤ rs.length → rs.length ≤ 60 → P (BoxV rs ts) [some z', none]) : V_other [z, .str (S w)] P PX := by
  unfold V_other
  rw [w_law_other]
  unfold s_law_other
  walk_at "vv"
  refine box_ok ?_
  walk_at "vv"
  have hN : wayN w 3 ≤ 56 := by unfold wayN; rw [show (3 : Int).toNat = 3 from rfl]; omega
  refine way_ok hm0 hm 20 TabL.nil hw hs (by unfold wayM; rw [show (3 : Int).toNat = 3 from rfl]; omega) (by show 0 + _ ≤ _; omega) (by decide) (by decide) fun rs ts z' hP' hT _ hg h1 h2 => ?_
  walk_at "vv"
  have hln := hT.tab.ln
  exact k rs ts z' hP' hT (by unfold whole; rw [hln]; exact hg) h1 (by simp at h2; omega)
theorem tab_signs {rs : List Ru} {ts : List Tx} (h : Tab rs ts) : ∀ (n i : Nat), i < n → ∀ c ∈ gt ts i, c ∈ signs
  | 0, i, hi => by omega
  | n + 1, i, hi => by
    have ih := tab_signs h n
    by_cases hr : i < rs.length
    · obtain ⟨h1, h2, _⟩ := h.ok i _ (List.getElem?_eq_getElem hr)
      rw [gt_at h2]
      cases hq : rs[i] with
      | wri w => rw [hq] at h1; exact h1.2
      | join a b =>
        rw [hq] at h1
        intro c hc
        rcases List.mem_append.mp (show c ∈ gt ts a ++ gt ts b from hc) with hc | hc
        · exact ih a (by have := h1.1; omega) c hc
        · exact ih b (by have := h1.2; omega) c hc
      | power a t =>
        rw [hq] at h1
        intro c hc
        obtain ⟨l, hl, hcl⟩ := List.mem_flatten.mp (show c ∈ (List.replicate t (gt ts a)).flatten from hc)
        rw [(List.mem_replicate.mp hl).2] at hcl
        exact ih a (by have := h1.1; omega) c hcl
      | part a b d =>
        rw [hq] at h1
        intro c hc
        exact ih a (by have := h1.1; omega) c (List.mem_of_mem_take (List.mem_of_mem_drop (show c ∈ ((gt ts a).take d).drop b from hc)))
      | back a =>
        rw [hq] at h1
        intro c hc
        exact ih a (by have : a < i := h1; omega) c (List.mem_reverse.mp (show c ∈ (gt ts a).reverse from hc))
    · have : ts.length ≤ i := by rw [h.ln]; omega
      intro c hc
      unfold gt at hc
      rw [List.getD_eq_getElem?_getD, List.getElem?_eq_none this] at hc
      cases hc
theorem TabL.signs {rs : List Ru} {ts : List Tx} {m : Nat} (h : TabL rs ts m) (i : Nat) : ∀ c ∈ gt ts i, c ∈ signs := tab_signs h.tab (i + 1) i (by omega)
end Tr
end Sh


set_option Elab.async false
set_option linter.all false
set_option maxRecDepth 100000
set_option maxHeartbeats 4000000
/-! # text.find(part, 0, limit) over trees -/
namespace Sh
open PySem PySem.Spec PyProof.Rows L2
open SX (S)
def rFind4 (x : V) (xs : List V) (H : Hp) (Q : VK) : Prop := ∃ (a b : Str) (i j : Int), x = .str a ∧ xs = [.str b, .int i, .int j] ∧ Q (.int (Txt.findIn a b i j)) H
/-- the first place of y in z that ends by j -/
def fnd (z y : List Nat) (j : Nat) : Int := Txt.findIn (S z) (S y) 0 (j : Int)
def AtN (z y : List Nat) (hi i : Nat) : Prop := i + y.length ≤ hi ∧ (z.drop i).take y.length = y
theorem atN_iff {z y : List Nat} {hi i : Nat} : StrLaws.At (S z) (S y) hi i ↔ AtN z y hi i := by
  unfold StrLaws.At AtN Builtin.Str.subAt
  rw [SX.S_len]
  have e : ((S z).cps.extract i (i + y.length) == (S y).cps) = decide ((z.drop i).take y.length = y) := by
    show ((z.toArray).extract i (i + y.length) == y.toArray) = _
    rw [List.extract_toArray]
    rw [List.extract_eq_take_drop, Nat.add_sub_cancel_left]
    by_cases h : (z.drop i).take y.length = y
    · rw [h]; simp
    · simp [h]
  rw [e, decide_eq_true_iff]
theorem fnd_spec (z y : List Nat) (j : Nat) : (fnd z y j = -1 ∧ ∀ i, ¬ AtN z y (min j z.length) i) ∨ ∃ k : Nat, fnd z y j = (k : Int) ∧ AtN z y (min j z.length) k ∧ ∀ i, i < k → ¬ AtN z y (min j z.length) i := by
  have e1 : PySem.fromIndex (S z).length 0 = 0 := by
    unfold PySem.fromIndex
    simp
  have e2 : PySem.toIndexW (S z).length (j : Int) = min j z.length := by
    unfold PySem.toIndexW
    rw [SX.S_len]
    have : ¬ ((j : Int) < 0) := by omega
    rw [if_neg this]
    congr 1
  unfold fnd Txt.findIn
  rw [e1, e2]
  rw [StrLaws.occ_eq]
  rcases StrLaws.occ_first (S z) (S y) (min j z.length) 1 (Nat.le_refl 1) (List.range' 0 (min j z.length + 1 - 0)) 0 (fun i hi => Nat.zero_le _) with ⟨h0, hn⟩ | ⟨pre, a, post, e, h0, ha, hn⟩
  · rw [h0]
    exact .inl ⟨rfl, fun i hi => hn i (by have := hi.1; rw [List.mem_range'_1]; omega) (atN_iff.mpr hi)⟩
  · have hs := StrLaws.range'_split e
    generalize (forIn (List.range' 0 (min j z.length + 1 - 0)) ((#[] : Array Nat), 0) (StrLaws.occBody (S z) (S y) (min j z.length) 1)).run.fst = arr at h0
    have h1 : arr.toList[0]? = some a := by simpa using h0
    cases hL : arr.toList with
    | nil => rw [hL] at h1; cases h1
    | cons b t =>
      rw [hL] at h1; simp at h1; subst h1
      exact .inr ⟨b, rfl, atN_iff.mp ha, fun i hi h => hn i (hs i hi) (atN_iff.mpr h)⟩
section
variable {K : PySem.W.Frag} {pv : List (Option V)} {EK : EKt} {ξ : Xi} {a : WE} {as : WA} {ta : TE} {tas : TA}
def nFnA (x : Vl) (q : List Nat → Prop) : Prop := ∃ z, x = .str (S z) ∧ q z
def nFnB (z : List Nat) (ys : List Vl) (Q : Vl → Prop) : Prop := ∃ (y : List Nat) (j : Nat), ys = [.str (S y), .int 0, .int (j : Int)] ∧ Q (.int (fnd z y j))
theorem bor3 {F : Hp} {M : Ow} {vs : List V} {x y z : Vl} (h : BorA K F M vs [x, y, z]) : ∃ v w u, vs = [v, w, u] ∧ Bor K F M v x ∧ Bor K F M w y ∧ Bor K F M u z := by
  match vs, h with
  | [v, w, u], h => exact ⟨v, w, u, rfl, h.1, h.2.1, h.2.2.1⟩
def eFind (a : WE) (as : WA) : WE := fun env P => a env fun x env1 => ∃ z, x = .str (S z) ∧ as env1 fun ys env2 => ∃ (y : List Nat) (j : Nat), ys = [.str (S y), .int 0, .int (j : Int)] ∧ P (.int (fnd z y j)) env2
instance {env : Ev} {P : Vl → Ev → Prop} : St1 (eFind a as env P) (a env fun x env1 => nFnA x fun z => as env1 fun ys env2 => nFnB z ys fun r => P r env2) := ⟨id⟩
instance {z : List Nat} {q : List Nat → Prop} : St1 (nFnA (.str (S z)) q) (q z) := ⟨fun h => ⟨z, rfl, h⟩⟩
instance {z y : List Nat} {j : Nat} {Q : Vl → Prop} : St1 (nFnB z [.str (S y), .int 0, .int (j : Int)] Q) (Q (.int (fnd z y j))) := ⟨fun h => ⟨y, j, rfl, h⟩⟩
theorem se_find (ha : SE K pv EK ξ ta a) (hr : SA K pv EK ξ tas as) : SE K pv EK ξ (tBM K "str" rFind4 ta tas) (eFind a as) := ⟨fun F0 Mf env P σ H Q hE st h k =>
  ha.run F0 Mf env _ σ H _ hE st h fun x env1 v H1 ⟨z, ex, h1⟩ st1 => by
    subst ex
    obtain ⟨F, N, M, e, hp, hA, he, hs, hB, hBA⟩ := st1.all
    obtain rfl : v = .str (S z) := hBA.1.str
    refine ⟨rfl, ?_⟩
    refine hr.run F0 Mf env1 _ σ H1 _ hE st1.dropV h1 fun ys env2 ws H2 ⟨y, j, ey, hP⟩ st2 => ?_
    subst ey
    obtain ⟨F2, N2, M2, e2, hp2, hA2, he2, hs2, hB2, hBA2⟩ := st2.all
    obtain ⟨u1, u2, u3, rfl, b1, b2, b3⟩ := bor3 hBA2
    obtain rfl := b1.str
    obtain rfl := b2.int
    obtain rfl := b3.int
    refine ⟨S z, S y, 0, (j : Int), rfl, rfl, k _ _ _ _ hP (Stt.push (N := []) (Same.refl F0) .int ?_)⟩
    exact ((st2.dropV).dropV).dropV⟩
/-- an operator whose first side is a name, borrowed when the second side is reckoned -/
def eOpL (ρ : W2) (i : Nat) (b : WE) : WE := fun env P => (∃ x, env[i]? = some (some x)) ∧ b env fun y env1 => ∃ x, env1[i]? = some (some x) ∧ ρ x y (wz fun z => P z env1)
def nOpL (ρ : W2) (i : Nat) (y : Vl) (env : Ev) (P : Vl → Ev → Prop) : Prop := ∃ x, env[i]? = some (some x) ∧ ρ x y (wz fun z => P z env)
instance {ρ : W2} {i : Nat} {b : WE} {env : Ev} {P : Vl → Ev → Prop} {x : Vl} [l : LkE env i x] : St1 (eOpL ρ i b env P) (b env fun y env1 => nOpL ρ i y env1 P) := ⟨fun h => ⟨⟨x, l.h⟩, h⟩⟩
instance {ρ : W2} {i : Nat} {y x : Vl} {env : Ev} {P : Vl → Ev → Prop} [l : LkE env i x] : St1 (nOpL ρ i y env P) (ρ x y (wz fun z => P z env)) := ⟨fun h => ⟨x, l.h, h⟩⟩
theorem se_opL {r : R2} {ρ : W2} {i : Nat} {tb : TE} {b : WE} (hr : SR2 K r ρ) (hb : SE K pv EK ξ tb b) : SE K pv EK ξ (tOp r (tVar i) tb) (eOpL ρ i b) := ⟨fun F0 Mf env P σ H Q hE st ⟨⟨x0, hx0⟩, h⟩ k => by
  obtain ⟨F, N, M, e, hp, ha, he, hs, hB, hBA⟩ := st.all
  obtain ⟨v, h1, h2⟩ := hB i x0 hx0
  refine ⟨v, h1, hb.run F0 Mf env _ σ H _ hE st h fun y env1 w H2 ⟨x, hx, hρ⟩ st3 => ?_⟩
  obtain ⟨F3, N3, M3, e3, hp3, hA3, he3, hs3, hB3, hBA3⟩ := st3.all
  obtain ⟨v', h1', h2'⟩ := hB3 i x hx
  obtain rfl : v' = v := by rw [h1] at h1'; cases h1'; rfl
  exact hr.run F3 _ H2 v' x w y _ Q hs3 h2' hBA3.1 hρ fun F4 H4 u z e4 hs4 b4 ⟨hz, hP⟩ => k z env1 u H4 hP ⟨F4, [], M3, e3.trans e4, hp3, RepA.one (b4.rep hz), he3.mono e4, Hs.sub (M := N3) hs4⟩⟩
end
end Sh


set_option Elab.async false
set_option linter.all false
set_option maxRecDepth 100000
set_option maxHeartbeats 4000000
/-! # Cuts: phrases, greedy rows, no other row is shorter -/
namespace Sh
inductive Ph
  | lt (c : Nat)
  | cp (s b m : Nat)
def Ph.sz : Ph → Nat
  | .lt _ => 1
  | .cp _ _ m => m
def CpOk (ts : List Tx) (n a s b m : Nat) : Prop := 1 ≤ m ∧ s ≤ n ∧ (s = n → b < a) ∧ a + m ≤ (gt ts n).length ∧ b + m ≤ (gt ts s).length ∧ ∀ k, k < m → (gt ts s)[b + k]? = (gt ts n)[a + k]?
def PhOk (ts : List Tx) (n a : Nat) : Ph → Prop
  | .lt c => (gt ts n)[a]? = some c
  | .cp s b m => CpOk ts n a s b m
def GOk (ts : List Tx) (n a : Nat) (p : Ph) : Prop := PhOk ts n a p ∧ ∀ s b, ¬ CpOk ts n a s b (p.sz + 1)
inductive Pth (ok : Nat → Ph → Prop) : Nat → List Ph → Nat → Prop
  | nil (a : Nat) : Pth ok a [] a
  | cons {a b : Nat} {p : Ph} {ps : List Ph} : ok a p → Pth ok (a + p.sz) ps b → Pth ok a (p :: ps) b
theorem Pth.snoc {ok : Nat → Ph → Prop} {p : Ph} : ∀ {a b : Nat} {ps : List Ph}, Pth ok a ps b → ok b p → Pth ok a (ps ++ [p]) (b + p.sz)
  | _, _, _, .nil a, h => .cons h (.nil _)
  | _, _, _, .cons h t, h' => .cons h (t.snoc h')
theorem Pth.le {ok : Nat → Ph → Prop} : ∀ {a b : Nat} {ps : List Ph}, Pth ok a ps b → a ≤ b
  | _, _, _, .nil a => Nat.le_refl _
  | _, _, _, .cons h t => by have := t.le; omega
theorem Pth.mono {ok ok' : Nat → Ph → Prop} (m : ∀ a p, ok a p → ok' a p) : ∀ {a b : Nat} {ps : List Ph}, Pth ok a ps b → Pth ok' a ps b
  | _, _, _, .nil a => .nil a
  | _, _, _, .cons h t => .cons (m _ _ h) (t.mono m)
theorem CpOk.pre {ts : List Tx} {n a s b m m' : Nat} (h : CpOk ts n a s b m) (h1 : 1 ≤ m') (h2 : m' ≤ m) : CpOk ts n a s b m' :=
  ⟨h1, h.2.1, h.2.2.1, by have := h.2.2.2.1; omega, by have := h.2.2.2.2.1; omega, fun k hk => h.2.2.2.2.2 k (by omega)⟩
theorem CpOk.shift {ts : List Tx} {n a s b m d : Nat} (h : CpOk ts n a s b m) (hd : d < m) : CpOk ts n (a + d) s (b + d) (m - d) :=
  ⟨by omega, h.2.1, fun e => by have := h.2.2.1 e; omega, by have := h.2.2.2.1; omega, by have := h.2.2.2.2.1; omega, fun k hk => by
    have := h.2.2.2.2.2 (d + k) (by omega)
    rw [Nat.add_assoc, Nat.add_assoc]; exact this⟩
theorem PhOk.sz1 {ts : List Tx} {n a : Nat} {p : Ph} (h : PhOk ts n a p) : 1 ≤ p.sz := by
  cases p with
  | lt c => exact Nat.le_refl _
  | cp s b m => exact h.1
theorem PhOk.end {ts : List Tx} {n a : Nat} {p : Ph} (h : PhOk ts n a p) : a + p.sz ≤ (gt ts n).length := by
  cases p with
  | lt c => exact (List.getElem?_eq_some_iff.mp h).1
  | cp s b m => exact h.2.2.2.1
theorem greedy_le {ts : List Tx} {n : Nat} : ∀ {qs : List Ph} {b a : Nat} {ps : List Ph} {e : Nat}, Pth (PhOk ts n) b qs e → Pth (GOk ts n) a ps e → b ≤ a → ps.length ≤ qs.length
  | [], b, a, ps, e, tq, g, h => by
    cases tq
    cases g with
    | nil => exact Nat.le_refl _
    | cons h1 t => have := t.le; have := h1.1.sz1; omega
  | q :: qs, b, a, ps, e, tq, g, h => by
    obtain ⟨hq, tq⟩ : PhOk ts n b q ∧ Pth (PhOk ts n) (b + q.sz) qs e := by cases tq with | cons h1 t1 => exact ⟨h1, t1⟩
    cases g with
    | nil => simp
    | @cons _ _ p ps' h1 t =>
      have h2 : b + q.sz ≤ a + p.sz := by
        by_cases hc : b + q.sz ≤ a + p.sz
        · exact hc
        · exfalso
          have hs := h1.1.sz1
          cases q with
          | lt c => rw [show (Ph.lt c).sz = 1 from rfl] at hc; omega
          | cp s c m =>
            have hq' : CpOk ts n b s c m := hq
            rw [show (Ph.cp s c m).sz = m from rfl] at hc
            have h3 := (hq'.shift (d := a - b) (by omega)).pre (m' := p.sz + 1) (by omega) (by omega)
            rw [show b + (a - b) = a by omega] at h3
            exact h1.2 _ _ h3
      have := greedy_le tq t h2
      simp only [List.length_cons]; omega
theorem take_eq {z w : List Nat} {i a l : Nat} : (z.drop i).take l = (w.drop a).take l ↔ ∀ k, k < l → z[i + k]? = w[a + k]? := by
  constructor
  · intro h k hk
    have := congrArg (·[k]?) h
    simp only [List.getElem?_take, List.getElem?_drop, if_pos hk] at this
    exact this
  · intro h
    refine List.ext_getElem? fun k => ?_
    simp only [List.getElem?_take, List.getElem?_drop]
    by_cases hk : k < l
    · rw [if_pos hk, if_pos hk, h k hk]
    · rw [if_neg hk, if_neg hk]
/-- what find finds is a copy -/
theorem atN_cp {ts : List Tx} {n a s i m L : Nat} (hm : 1 ≤ m) (hs : s ≤ n) (ha : a + m ≤ (gt ts n).length) (hL : (s = n → L = a + m - 1) ∧ (s ≠ n → L = (gt ts s).length)) :
    AtN (gt ts s) (((gt ts n).take (a + m)).drop a) (min L (gt ts s).length) i ↔ CpOk ts n a s i m := by
  have e : ((gt ts n).take (a + m)).drop a = ((gt ts n).drop a).take m := by rw [List.drop_take]; congr 1; omega
  have hl : (((gt ts n).take (a + m)).drop a).length = m := by rw [e, List.length_take, List.length_drop]; omega
  unfold AtN
  rw [hl, e]
  constructor
  · rintro ⟨h1, h2⟩
    refine ⟨hm, hs, fun e => ?_, ha, by omega, take_eq.mp h2⟩
    have := hL.1 e; omega
  · rintro ⟨_, _, h1, _, h2, h3⟩
    refine ⟨?_, take_eq.mpr h3⟩
    by_cases e : s = n
    · have := hL.1 e; have := h1 e; omega
    · have := hL.2 e; omega
end Sh


set_option Elab.async false
set_option linter.all false
set_option maxRecDepth 100000
set_option maxHeartbeats 4000000
namespace Sh
open PySem PySem.Spec PyProof.Rows L2
open SX (S)
namespace Tr
set_option synthInstance.maxSize 4096
set_option synthInstance.maxHeartbeats 400000
local macro_rules | `(tactic| walk_at "vv1") => `(tactic| first
  | refine go ?_
  | (with_reducible refine v_mulL (by omega) (by omega) ?_) | (with_reducible refine v_mulR (by omega) (by omega) ?_) | (with_reducible refine v_divI (by omega) (by omega) ?_) | (with_reducible refine v_modI (by omega) ?_)
  | (with_reducible refine v_r1 (by omega) (by omega) ?_) | (with_reducible refine v_r2 (by omega) (by omega) (by omega) (by omega) ?_))
local macro_rules | `(tactic| walk_at "vv") => `(tactic| repeat (walk_at "vv1"))
def N_unfolded : List Str := ["text", "found", "start"]
theorem st_unfolded {v0 : V} : start N_unfolded [v0] = [some v0, none, none] := rfl
def t_unfolded (K : PySem.W.Frag) (sp_Text_letters : Sp) : TS := (tSeq (tAsg (tLst tNil) (gName 1)) (tSeq (tFor (iRng3 (tCons (tC (.int 0)) (tCons (tFld K (tVar 0) "length") (tCons (tC (.int 1000)) tNil)))) (gName 2) (tDrop (tBM K "list" rAppend (tVar 1) (tCons (tMethE (He.ga K "Text") "letters" sp_Text_letters (fun _ _ _ _ => False) (tVar 0) (tCons (tVar 2) (tCons (tCB rMin2 (tCons (tFld K (tVar 0) "length") (tCons (tOp rAddI (tVar 2) (tC (.int 1000))) tNil))) tNil))) tNil)))) (tRet (tJoin K (tC (.str "")) (tVar 1)))))
def s_unfolded (φ_Text_letters : WF) (ξ : Xi) : WS := (sSeq (sAsg (eLst aNil) (gNm 1)) (sSeq (sFor (iR3 (aCons (eB (bC (.int 0))) (aCons (eB (bFld .Text 2 (bVar 0))) (aCons (eB (bC (.int 1000))) aNil)))) (gNm 2) (sDrop (eMs 1 mApp (aCons (eMethEx (eFrz 0) .Text φ_Text_letters [none, none] xNo (aCons (eFrz 2) (aCons (eB (bCB wMin2 (bCons (bFld .Text 2 (bVar 0)) (bCons (bOp wAddI (bVar 2) (bC (.int 1000))) bNil)))) aNil))) aNil)))) (sRet (eB (bJoin (bVar 1))))))
theorem snd_unfolded {K : PySem.W.Frag} (φ_Text_letters : WF) (c_Text : ClsF K (He.ga K (Cn.nm .Text)) (Cn.ns .Text)) (v0 : V) (E : XK) (ξ : Xi) : SS K [none] (fun _ => E) ξ (t_unfolded K (spOf K 3 φ_Text_letters)) (s_unfolded φ_Text_letters ξ) := by
  unfold t_unfolded s_unfolded
  exact (ss_seq (ss_asg (se_lst sa_nil) (sg_name (.inr rfl))) (ss_seq (ss_for (si_rng3 (sa_cons (se_b sb_int) (sa_cons (se_b (sb_fld (cn := .Text) c_Text rfl sb_var)) (sa_cons (se_b sb_int) sa_nil)))) (sg_name (.inr rfl)) (ss_drop (se_ms sm_append (sa_cons (se_methExN (cn := .Text) (m := "letters") ⟨by decide +kernel⟩ rfl se_frz (sk_ex se_frz (sk_ex (se_b (sb_cb sr_min2 (sb_cons (sb_fld (cn := .Text) c_Text rfl sb_var) (sb_cons (sb_op sr_addI sb_var sb_int) sb_nil)))) sk_nil))) sa_nil)))) (ss_ret (se_b (sb_join sb_var)))))
def v_unfolded (φ_Text_letters : WF) : WF := wf (s_unfolded φ_Text_letters) [false] 3
theorem w_unfolded (φ_Text_letters : WF) (x0 : Vl) (P : Vl → Ev → Prop) (PX : Xi) : v_unfolded φ_Text_letters [x0] P PX = s_unfolded φ_Text_letters (fun C fs env => nOut [false] env (PX C fs)) (VE.mk (fun env => nOut [false] env (P .non)) (fun x env => nOut [false] env (P x)) (fun _ => False) (fun _ => False)) [some x0, none, none] := rfl
theorem pure_unfolded {K : PySem.W.Frag} (φ_Text_letters : WF) (c_Text : ClsF K (He.ga K (Cn.nm .Text)) (Cn.ns .Text)) (vs : List V) (H : Hp) (Q : VK) (E : XK) (h : spOf K 1 (v_unfolded φ_Text_letters) vs H Q E) : t_unfolded K (spOf K 3 φ_Text_letters) { nx := fun _ H' => Q .non H', rt := Q } (start N_unfolded vs) H :=
  body_ok (N := N_unfolded) (pn := [false]) (t := fun E => t_unfolded K (spOf K 3 φ_Text_letters)) (fun vs hl E ξ => match vs, hl with | [v0], _ => snd_unfolded φ_Text_letters c_Text v0 E ξ) h
def N_grown : List Str := ["source", "start", "text", "at", "many"]
theorem st_grown {v0 v1 v2 v3 v4 : V} : start N_grown [v0, v1, v2, v3, v4] = [some v0, some v1, some v2, some v3, some v4] := rfl
def t_grown (K : PySem.W.Frag) : TS := (tSeq (tWhile (tAnd (tTest (tOp rLtI (tOp rAddI (tVar 3) (tVar 4)) (tCB (rLn K) (tCons (tVar 2) tNil)))) (tAnd (tTest (tOp rLtI (tOp rAddI (tVar 1) (tVar 4)) (tCB (rLn K) (tCons (tVar 0) tNil)))) (tTest (tOp rEq (tOp (rIx K) (tVar 0) (tOp rAddI (tVar 1) (tVar 4))) (tOp (rIx K) (tVar 2) (tOp rAddI (tVar 3) (tVar 4))))))) (tAug 4 (tC (.int 1)) (ipI fun i j => i + j))) (tRet (tVar 4)))
def s_grown (ξ : Xi) : WS := (sSeq (sWhile (tB0 (bAnd (bTest (bOp wLtI (bOp wAddI (bVar 3) (bVar 4)) (bCB wLen (bCons (bVar 2) bNil)))) (bAnd (bTest (bOp wLtI (bOp wAddI (bVar 1) (bVar 4)) (bCB wLen (bCons (bVar 0) bNil)))) (bTest (bOp (wEqB false) (bOp wIx (bVar 0) (bOp wAddI (bVar 1) (bVar 4))) (bOp wIx (bVar 2) (bOp wAddI (bVar 3) (bVar 4)))))))) (sAug 4 (fun i j => i + j) (eB (bC (.int 1))))) (sRet (eMov 4)))
theorem snd_grown {K : PySem.W.Frag} (v0 v1 v2 v3 v4 : V) (E : XK) (ξ : Xi) : SS K [none, none, none, none, none] (fun _ => E) ξ (t_grown K) (s_grown ξ) := by
  unfold t_grown s_grown
  exact (ss_seq (ss_while (st_b (sb_and (sb_test (sb_op sr_ltI (sb_op sr_addI sb_var sb_var) (sb_cb sr_len (sb_cons sb_var sb_nil)))) (sb_and (sb_test (sb_op sr_ltI (sb_op sr_addI sb_var sb_var) (sb_cb sr_len (sb_cons sb_var sb_nil)))) (sb_test (sb_op sr_eq (sb_op sr_ix sb_var (sb_op sr_addI sb_var sb_var)) (sb_op sr_ix sb_var (sb_op sr_addI sb_var sb_var))))))) (ss_aug (.inl rfl) (se_b sb_int))) (ss_ret se_mov))
def v_grown : WF := wf (s_grown) [false, false, false, false, false] 5
theorem w_grown (x0 x1 x2 x3 x4 : Vl) (P : Vl → Ev → Prop) (PX : Xi) : v_grown [x0, x1, x2, x3, x4] P PX = s_grown (fun C fs env => nOut [false, false, false, false, false] env (PX C fs)) (VE.mk (fun env => nOut [false, false, false, false, false] env (P .non)) (fun x env => nOut [false, false, false, false, false] env (P x)) (fun _ => False) (fun _ => False)) [some x0, some x1, some x2, some x3, some x4] := rfl
theorem pure_grown {K : PySem.W.Frag} (vs : List V) (H : Hp) (Q : VK) (E : XK) (h : spOf K 5 (v_grown) vs H Q E) : t_grown K { nx := fun _ H' => Q .non H', rt := Q } (start N_grown vs) H :=
  body_ok (N := N_grown) (pn := [false, false, false, false, false]) (t := fun E => t_grown K) (fun vs hl E ξ => match vs, hl with | [v0, v1, v2, v3, v4], _ => snd_grown v0 v1 v2 v3 v4 E ξ) h
def N_first_place : List Str := ["unpacked", "number", "at", "many", "wanted", "source", "limit", "start"]
theorem st_first_place {v0 v1 v2 v3 : V} : start N_first_place [v0, v1, v2, v3] = [some v0, some v1, some v2, some v3, none, none, none, none] := rfl
def t_first_place (K : PySem.W.Frag) : TS := (tSeq (tAsg (tSl rSlS (tOp (rIx K) (tVar 0) (tVar 1)) (tPart (tVar 2)) (tPart (tOp rAddI (tVar 2) (tVar 3)))) (gName 4)) (tSeq (tFor (iRng1 (tCons (tOp rAddI (tVar 1) (tC (.int 1))) tNil)) (gName 5) (tSeq (tAsg (tIf (tTest (tOp rEq (tVar 5) (tVar 1))) (tOp rSubI (tOp rAddI (tVar 2) (tVar 3)) (tC (.int 1))) (tCB (rLn K) (tCons (tOp (rIx K) (tVar 0) (tVar 5)) tNil))) (gName 6)) (tSeq (tAsg (tBM K "str" rFind4 (tOp (rIx K) (tVar 0) (tVar 5)) (tCons (tVar 4) (tCons (tC (.int 0)) (tCons (tVar 6) tNil)))) (gName 7)) (tIfS (tTest (tOp rGeI (tVar 7) (tC (.int 0)))) (tRet (tTup (tCons (tVar 5) (tCons (tVar 7) tNil)))) tNext)))) (tRet (tC .non))))
def s_first_place (ξ : Xi) : WS := (sSeq (sAsg (eB (bSlS (bOp wIx (bVar 0) (bVar 1)) (oAt (bVar 2)) (oAt (bOp wAddI (bVar 2) (bVar 3))))) (gNm 4)) (sSeq (sFor (iR1 (aCons (eB (bOp wAddI (bVar 1) (bC (.int 1)))) aNil)) (gNm 5) (sSeq (sAsg (eIf (tB0 (bTest (bOp (wEqB false) (bVar 5) (bVar 1)))) (eB (bOp wSubI (bOp wAddI (bVar 2) (bVar 3)) (bC (.int 1)))) (eB (bCB wLen (bCons (bOp wIx (bVar 0) (bVar 5)) bNil)))) (gNm 6)) (sSeq (sAsg (eFind (eB (bOp wIx (bVar 0) (bVar 5))) (aCons (eFrz 4) (aCons (eB (bC (.int 0))) (aCons (eFrz 6) aNil)))) (gNm 7)) (sIf (tB0 (bTest (bOp wGeI (bVar 7) (bC (.int 0))))) (sRet (eTup (aCons (eMov 5) (aCons (eMov 7) aNil)))) sNext)))) (sRet (eB (bC .non)))))
theorem snd_first_place {K : PySem.W.Frag} (v0 v1 v2 v3 : V) (E : XK) (ξ : Xi) : SS K [none, none, none, none] (fun _ => E) ξ (t_first_place K) (s_first_place ξ) := by
  unfold t_first_place s_first_place
  exact (ss_seq (ss_asg (se_b (sb_slS (sb_op sr_ix sb_var sb_var) (so_at sb_var) (so_at (sb_op sr_addI sb_var sb_var)))) (sg_name (.inr rfl))) (ss_seq (ss_for (si_rng1 (sa_cons (se_b (sb_op sr_addI sb_var sb_int)) sa_nil)) (sg_name (.inr rfl)) (ss_seq (ss_asg (se_if (st_b (sb_test (sb_op sr_eq sb_var sb_var))) (se_b (sb_op sr_subI (sb_op sr_addI sb_var sb_var) sb_int)) (se_b (sb_cb sr_len (sb_cons (sb_op sr_ix sb_var sb_var) sb_nil)))) (sg_name (.inr rfl))) (ss_seq (ss_asg (se_find (se_b (sb_op sr_ix sb_var sb_var)) (sa_cons se_frz (sa_cons (se_b sb_int) (sa_cons se_frz sa_nil)))) (sg_name (.inr rfl))) (ss_if (st_b (sb_test (sb_op sr_geI sb_var sb_int))) (ss_ret (se_tup (sa_cons se_mov (sa_cons se_mov sa_nil)))) ss_next)))) (ss_ret (se_b sb_non))))
def v_first_place : WF := wf (s_first_place) [false, false, false, false] 8
theorem w_first_place (x0 x1 x2 x3 : Vl) (P : Vl → Ev → Prop) (PX : Xi) : v_first_place [x0, x1, x2, x3] P PX = s_first_place (fun C fs env => nOut [false, false, false, false] env (PX C fs)) (VE.mk (fun env => nOut [false, false, false, false] env (P .non)) (fun x env => nOut [false, false, false, false] env (P x)) (fun _ => False) (fun _ => False)) [some x0, some x1, some x2, some x3, none, none, none, none] := rfl
theorem pure_first_place {K : PySem.W.Frag} (vs : List V) (H : Hp) (Q : VK) (E : XK) (h : spOf K 4 (v_first_place) vs H Q E) : t_first_place K { nx := fun _ H' => Q .non H', rt := Q } (start N_first_place vs) H :=
  body_ok (N := N_first_place) (pn := [false, false, false, false]) (t := fun E => t_first_place K) (fun vs hl E ξ => match vs, hl with | [v0, v1, v2, v3], _ => snd_first_place v0 v1 v2 v3 E ξ) h
def N_longest_copy : List Str := ["unpacked", "number", "at", "text", "found", "many", "source", "wanted", "limit", "start"]
theorem st_longest_copy {v0 v1 v2 : V} : start N_longest_copy [v0, v1, v2] = [some v0, some v1, some v2, none, none, none, none, none, none, none] := rfl
def t_longest_copy (K : PySem.W.Frag) (sp_grown : Sp) : TS := (tSeq (tAsg (tOp (rIx K) (tVar 0) (tVar 1)) (gName 3)) (tSeq (tAsg (tC .non) (gName 4)) (tSeq (tAsg (tC (.int 1)) (gName 5)) (tSeq (tFor (iRng1 (tCons (tOp rAddI (tVar 1) (tC (.int 1))) tNil)) (gName 6) (tWhile (tTest (tOp rLtI (tOp rAddI (tVar 2) (tVar 5)) (tCB (rLn K) (tCons (tVar 3) tNil)))) (tSeq (tAsg (tSl rSlS (tVar 3) (tPart (tVar 2)) (tPart (tOp rAddI (tOp rAddI (tVar 2) (tVar 5)) (tC (.int 1))))) (gName 7)) (tSeq (tAsg (tIf (tTest (tOp rEq (tVar 6) (tVar 1))) (tOp rAddI (tVar 2) (tVar 5)) (tCB (rLn K) (tCons (tOp (rIx K) (tVar 0) (tVar 6)) tNil))) (gName 8)) (tSeq (tAsg (tBM K "str" rFind4 (tOp (rIx K) (tVar 0) (tVar 6)) (tCons (tVar 7) (tCons (tC (.int 0)) (tCons (tVar 8) tNil)))) (gName 9)) (tSeq (tIfS (tTest (tOp rLtI (tVar 9) (tC (.int 0)))) tBreak tNext) (tSeq (tAsg (tCall sp_grown [] E0 (tCons (tOp (rIx K) (tVar 0) (tVar 6)) (tCons (tVar 9) (tCons (tVar 3) (tCons (tVar 2) (tCons (tOp rAddI (tVar 5) (tC (.int 1))) tNil)))))) (gName 5)) (tAsg (tTup (tCons (tVar 6) (tCons (tVar 9) (tCons (tVar 5) tNil)))) (gName 4))))))))) (tRet (tVar 4))))))
def s_longest_copy (φ_grown : WF) (ξ : Xi) : WS := (sSeq (sAsg (eB (bOp wIx (bVar 0) (bVar 1))) (gNm 3)) (sSeq (sAsg (eB (bC .non)) (gNm 4)) (sSeq (sAsg (eB (bC (.int 1))) (gNm 5)) (sSeq (sFor (iR1 (aCons (eB (bOp wAddI (bVar 1) (bC (.int 1)))) aNil)) (gNm 6) (sWhile (tB0 (bTest (bOp wLtI (bOp wAddI (bVar 2) (bVar 5)) (bCB wLen (bCons (bVar 3) bNil))))) (sSeq (sAsg (eB (bSlS (bVar 3) (oAt (bVar 2)) (oAt (bOp wAddI (bOp wAddI (bVar 2) (bVar 5)) (bC (.int 1)))))) (gNm 7)) (sSeq (sAsg (eIf (tB0 (bTest (bOp (wEqB false) (bVar 6) (bVar 1)))) (eB (bOp wAddI (bVar 2) (bVar 5))) (eB (bCB wLen (bCons (bOp wIx (bVar 0) (bVar 6)) bNil)))) (gNm 8)) (sSeq (sAsg (eFind (eB (bOp wIx (bVar 0) (bVar 6))) (aCons (eFrz 7) (aCons (eB (bC (.int 0))) (aCons (eFrz 8) aNil)))) (gNm 9)) (sSeq (sIf (tB0 (bTest (bOp wLtI (bVar 9) (bC (.int 0))))) sBreak sNext) (sSeq (sAsg (eCall φ_grown [none, none, none, none, none] xNo (aCons (eB (bOp wIx (bVar 0) (bVar 6))) (aCons (eFrz 9) (aCons (eFrz 3) (aCons (eFrz 2) (aCons (eB (bOp wAddI (bVar 5) (bC (.int 1)))) aNil)))))) (gNm 5)) (sAsg (eTup (aCons (eFrz 6) (aCons (eFrz 9) (aCons (eFrz 5) aNil)))) (gNm 4))))))))) (sRet (eMov 4))))))
theorem snd_longest_copy {K : PySem.W.Frag} (φ_grown : WF) (v0 v1 v2 : V) (E : XK) (ξ : Xi) : SS K [none, none, none] (fun _ => E) ξ (t_longest_copy K (spOf K 5 φ_grown)) (s_longest_copy φ_grown ξ) := by
  unfold t_longest_copy s_longest_copy
  exact (ss_seq (ss_asg (se_b (sb_op sr_ix sb_var sb_var)) (sg_name (.inr rfl))) (ss_seq (ss_asg (se_b sb_non) (sg_name (.inr rfl))) (ss_seq (ss_asg (se_b sb_int) (sg_name (.inr rfl))) (ss_seq (ss_for (si_rng1 (sa_cons (se_b (sb_op sr_addI sb_var sb_int)) sa_nil)) (sg_name (.inr rfl)) (ss_while (st_b (sb_test (sb_op sr_ltI (sb_op sr_addI sb_var sb_var) (sb_cb sr_len (sb_cons sb_var sb_nil))))) (ss_seq (ss_asg (se_b (sb_slS sb_var (so_at sb_var) (so_at (sb_op sr_addI (sb_op sr_addI sb_var sb_var) sb_int)))) (sg_name (.inr rfl))) (ss_seq (ss_asg (se_if (st_b (sb_test (sb_op sr_eq sb_var sb_var))) (se_b (sb_op sr_addI sb_var sb_var)) (se_b (sb_cb sr_len (sb_cons (sb_op sr_ix sb_var sb_var) sb_nil)))) (sg_name (.inr rfl))) (ss_seq (ss_asg (se_find (se_b (sb_op sr_ix sb_var sb_var)) (sa_cons se_frz (sa_cons (se_b sb_int) (sa_cons se_frz sa_nil)))) (sg_name (.inr rfl))) (ss_seq (ss_if (st_b (sb_test (sb_op sr_ltI sb_var sb_int))) ss_break ss_next) (ss_seq (ss_asg (se_call rfl (sk_ex (se_b (sb_op sr_ix sb_var sb_var)) (sk_ex se_frz (sk_ex se_frz (sk_ex se_frz (sk_ex (se_b (sb_op sr_addI sb_var sb_int)) sk_nil)))))) (sg_name (.inr rfl))) (ss_asg (se_tup (sa_cons se_frz (sa_cons se_frz (sa_cons se_frz sa_nil)))) (sg_name (.inr rfl)))))))))) (ss_ret se_mov)))))
def v_longest_copy (φ_grown : WF) : WF := wf (s_longest_copy φ_grown) [false, false, false] 10
theorem w_longest_copy (φ_grown : WF) (x0 x1 x2 : Vl) (P : Vl → Ev → Prop) (PX : Xi) : v_longest_copy φ_grown [x0, x1, x2] P PX = s_longest_copy φ_grown (fun C fs env => nOut [false, false, false] env (PX C fs)) (VE.mk (fun env => nOut [false, false, false] env (P .non)) (fun x env => nOut [false, false, false] env (P x)) (fun _ => False) (fun _ => False)) [some x0, some x1, some x2, none, none, none, none, none, none, none] := rfl
theorem pure_longest_copy {K : PySem.W.Frag} (φ_grown : WF) (vs : List V) (H : Hp) (Q : VK) (E : XK) (h : spOf K 3 (v_longest_copy φ_grown) vs H Q E) : t_longest_copy K (spOf K 5 φ_grown) { nx := fun _ H' => Q .non H', rt := Q } (start N_longest_copy vs) H :=
  body_ok (N := N_longest_copy) (pn := [false, false, false]) (t := fun E => t_longest_copy K (spOf K 5 φ_grown)) (fun vs hl E ξ => match vs, hl with | [v0, v1, v2], _ => snd_longest_copy φ_grown v0 v1 v2 E ξ) h
def N_shortest_cut : List Str := ["texts", "unpacked", "rows", "number", "row", "at", "found", "source", "start", "text"]
theorem st_shortest_cut {v0 : V} : start N_shortest_cut [v0] = [some v0, none, none, none, none, none, none, none, none, none] := rfl
def t_shortest_cut (K : PySem.W.Frag) (sp_unfolded : Sp) (sp_longest_copy : Sp) (sp_first_place : Sp) : TS := (tSeq (tIfS (tTest (tOp rGtI (tCB (rSum K) (tCons (tLc (iList K (tVar 0)) (gName 9) tYes (tFld K (tVar 9) "length") [9]) tNil)) (tC (.int 4096)))) tDead tNext) (tSeq (tAsg (tLc (iList K (tVar 0)) (gName 9) tYes (tCall sp_unfolded [] E0 (tCons (tVar 9) tNil)) [9]) (gName 1)) (tSeq (tAsg (tLst tNil) (gName 2)) (tSeq (tFor (iRng1 (tCons (tCB (rLn K) (tCons (tVar 0) tNil)) tNil)) (gName 3) (tSeq (tAsg (tLst tNil) (gName 4)) (tSeq (tAsg (tC (.int 0)) (gName 5)) (tSeq (tWhile (tTest (tOp rLtI (tVar 5) (tCB (rLn K) (tCons (tOp (rIx K) (tVar 1) (tVar 3)) tNil)))) (tSeq (tAsg (tCall sp_longest_copy [] E0 (tCons (tVar 1) (tCons (tVar 3) (tCons (tVar 5) tNil)))) (gName 6)) (tIfS (tTest (tOp rIsNone (tVar 6) (tC .non))) (tSeq (tDrop (tBM K "list" rAppend (tVar 4) (tCons (tTup (tCons (tC (.str "letter")) (tCons (tOp (rIx K) (tOp (rIx K) (tVar 1) (tVar 3)) (tVar 5)) tNil))) tNil))) (tAug 5 (tC (.int 1)) (ipI fun i j => i + j))) (tSeq (tAsg (tCall sp_first_place [] E0 (tCons (tVar 1) (tCons (tVar 3) (tCons (tVar 5) (tCons (tOp (rIx K) (tVar 6) (tC (.int 2))) tNil))))) (gTup K 2 (gCons (gName 7) (gCons (gName 8) gNil)))) (tSeq (tDrop (tBM K "list" rAppend (tVar 4) (tCons (tTup (tCons (tC (.str "copy")) (tCons (tVar 7) (tCons (tVar 8) (tCons (tOp (rIx K) (tVar 6) (tC (.int 2))) tNil))))) tNil))) (tAug 5 (tOp (rIx K) (tVar 6) (tC (.int 2))) (ipI fun i j => i + j))))))) (tDrop (tBM K "list" rAppend (tVar 2) (tCons (tCB (rTupleOf K) (tCons (tVar 4) tNil)) tNil))))))) (tRet (tCB (rTupleOf K) (tCons (tVar 2) tNil)))))))
def s_shortest_cut (φ_unfolded : WF) (φ_longest_copy : WF) (φ_first_place : WF) (ξ : Xi) : WS := (sSeq (sIf (tTst (eOp wGtI (eCB wSum (aCons (eLc (iL (eFrz 0)) (gNm 9) tYs (eB (bFld .Text 2 (bVar 9))) [9]) aNil)) (eB (bC (.int 4096))))) sDead sNext) (sSeq (sAsg (eLc (iL (eFrz 0)) (gNm 9) tYs (eCall φ_unfolded [none] xNo (aCons (eFrz 9) aNil)) [9]) (gNm 1)) (sSeq (sAsg (eLst aNil) (gNm 2)) (sSeq (sFor (iR1 (aCons (eB (bCB wLen (bCons (bVar 0) bNil))) aNil)) (gNm 3) (sSeq (sAsg (eLst aNil) (gNm 4)) (sSeq (sAsg (eB (bC (.int 0))) (gNm 5)) (sSeq (sWhile (tB0 (bTest (bOp wLtI (bVar 5) (bCB wLen (bCons (bOp wIx (bVar 1) (bVar 3)) bNil))))) (sSeq (sAsg (eCall φ_longest_copy [none, none, none] xNo (aCons (eFrz 1) (aCons (eFrz 3) (aCons (eFrz 5) aNil)))) (gNm 6)) (sIf (tB0 (bTest (bOp (wIsN false) (bVar 6) (bC .non)))) (sSeq (sDrop (eMs 4 mApp (aCons (eTup (aCons (eB (bC (.str "letter"))) (aCons (eB (bOp wIx (bOp wIx (bVar 1) (bVar 3)) (bVar 5))) aNil))) aNil))) (sAug 5 (fun i j => i + j) (eB (bC (.int 1))))) (sSeq (sAsg (eCall φ_first_place [none, none, none, none] xNo (aCons (eFrz 1) (aCons (eFrz 3) (aCons (eFrz 5) (aCons (eB (bOp wIx (bVar 6) (bC (.int 2)))) aNil))))) (gTp 2 (gC (gNm 7) (gC (gNm 8) gN)))) (sSeq (sDrop (eMs 4 mApp (aCons (eTup (aCons (eB (bC (.str "copy"))) (aCons (eFrz 7) (aCons (eFrz 8) (aCons (eB (bOp wIx (bVar 6) (bC (.int 2)))) aNil))))) aNil))) (sAug 5 (fun i j => i + j) (eB (bOp wIx (bVar 6) (bC (.int 2)))))))))) (sDrop (eMs 2 mApp (aCons (eB (bCB wTupOf (bCons (bVar 4) bNil))) aNil))))))) (sRet (eB (bCB wTupOf (bCons (bVar 2) bNil))))))))
theorem snd_shortest_cut {K : PySem.W.Frag} (φ_unfolded : WF) (φ_longest_copy : WF) (φ_first_place : WF) (c_Text : ClsF K (He.ga K (Cn.nm .Text)) (Cn.ns .Text)) (v0 : V) (E : XK) (ξ : Xi) : SS K [none] (fun _ => E) ξ (t_shortest_cut K (spOf K 1 φ_unfolded) (spOf K 3 φ_longest_copy) (spOf K 4 φ_first_place)) (s_shortest_cut φ_unfolded φ_longest_copy φ_first_place ξ) := by
  unfold t_shortest_cut s_shortest_cut
  exact (ss_seq (ss_if (st_test (se_op sr_gtI (se_cb sr_sum (sa_cons (se_lc (si_list se_frz) (sg_name (.inr rfl)) st_yes (se_b (sb_fld (cn := .Text) c_Text rfl sb_var)) (by decide) (by rfl)) sa_nil)) (se_b sb_int))) ss_dead ss_next) (ss_seq (ss_asg (se_lc (si_list se_frz) (sg_name (.inr rfl)) st_yes (se_call rfl (sk_ex se_frz sk_nil)) (by decide) (by rfl)) (sg_name (.inr rfl))) (ss_seq (ss_asg (se_lst sa_nil) (sg_name (.inr rfl))) (ss_seq (ss_for (si_rng1 (sa_cons (se_b (sb_cb sr_len (sb_cons sb_var sb_nil))) sa_nil)) (sg_name (.inr rfl)) (ss_seq (ss_asg (se_lst sa_nil) (sg_name (.inr rfl))) (ss_seq (ss_asg (se_b sb_int) (sg_name (.inr rfl))) (ss_seq (ss_while (st_b (sb_test (sb_op sr_ltI sb_var (sb_cb sr_len (sb_cons (sb_op sr_ix sb_var sb_var) sb_nil))))) (ss_seq (ss_asg (se_call rfl (sk_ex se_frz (sk_ex se_frz (sk_ex se_frz sk_nil)))) (sg_name (.inr rfl))) (ss_if (st_b (sb_test (sb_op sr_isN sb_var sb_non))) (ss_seq (ss_drop (se_ms sm_append (sa_cons (se_tup (sa_cons (se_b sb_str) (sa_cons (se_b (sb_op sr_ix (sb_op sr_ix sb_var sb_var) sb_var)) sa_nil))) sa_nil))) (ss_aug (.inr rfl) (se_b sb_int))) (ss_seq (ss_asg (se_call rfl (sk_ex se_frz (sk_ex se_frz (sk_ex se_frz (sk_ex (se_b (sb_op sr_ix sb_var sb_int)) sk_nil))))) (sg_tup (sg_cons (sg_name (.inr rfl)) (sg_cons (sg_name (.inr rfl)) sg_nil)))) (ss_seq (ss_drop (se_ms sm_append (sa_cons (se_tup (sa_cons (se_b sb_str) (sa_cons se_frz (sa_cons se_frz (sa_cons (se_b (sb_op sr_ix sb_var sb_int)) sa_nil))))) sa_nil))) (ss_aug (.inr rfl) (se_b (sb_op sr_ix sb_var sb_int)))))))) (ss_drop (se_ms sm_append (sa_cons (se_b (sb_cb sr_tupOf (sb_cons sb_var sb_nil))) sa_nil))))))) (ss_ret (se_b (sb_cb sr_tupOf (sb_cons sb_var sb_nil))))))))
def v_shortest_cut (φ_unfolded : WF) (φ_longest_copy : WF) (φ_first_place : WF) : WF := wf (s_shortest_cut φ_unfolded φ_longest_copy φ_first_place) [false] 10
theorem w_shortest_cut (φ_unfolded : WF) (φ_longest_copy : WF) (φ_first_place : WF) (x0 : Vl) (P : Vl → Ev → Prop) (PX : Xi) : v_shortest_cut φ_unfolded φ_longest_copy φ_first_place [x0] P PX = s_shortest_cut φ_unfolded φ_longest_copy φ_first_place (fun C fs env => nOut [false] env (PX C fs)) (VE.mk (fun env => nOut [false] env (P .non)) (fun x env => nOut [false] env (P x)) (fun _ => False) (fun _ => False)) [some x0, none, none, none, none, none, none, none, none, none] := rfl
theorem pure_shortest_cut {K : PySem.W.Frag} (φ_unfolded : WF) (φ_longest_copy : WF) (φ_first_place : WF) (c_Text : ClsF K (He.ga K (Cn.nm .Text)) (Cn.ns .Text)) (vs : List V) (H : Hp) (Q : VK) (E : XK) (h : spOf K 1 (v_shortest_cut φ_unfolded φ_longest_copy φ_first_place) vs H Q E) : t_shortest_cut K (spOf K 1 φ_unfolded) (spOf K 3 φ_longest_copy) (spOf K 4 φ_first_place) { nx := fun _ H' => Q .non H', rt := Q } (start N_shortest_cut vs) H :=
  body_ok (N := N_shortest_cut) (pn := [false]) (t := fun E => t_shortest_cut K (spOf K 1 φ_unfolded) (spOf K 3 φ_longest_copy) (spOf K 4 φ_first_place)) (fun vs hl E ξ => match vs, hl with | [v0], _ => snd_shortest_cut φ_unfolded φ_longest_copy φ_first_place c_Text v0 E ξ) h
/-! ### cuts.py: the shortest cut -/
theorem v_r3u {i j c : Int} {q : Int → Nat → Int → Prop} (h0 : 0 ≤ i) (h1 : i ≤ j) (h2 : j ≤ 1152921504606846976) (hc : 1 ≤ c) (hc2 : c < 1073741824) (h : ∀ n : Nat, (∀ k : Nat, k < n → i + (k : Int) * c < j) → j ≤ i + (n : Int) * c → q i n c) : nR3 [.int i, .int j, .int c] q := by
  obtain ⟨n, g1, g2⟩ := rgC_up h0 h1 h2 hc hc2
  refine ⟨i, j, c, n, rfl, g1, h n g2 ?_⟩
  have e : (n : Int) = Builtin.Range.rangeSize i j c := by have := g1; unfold RgC at this; omega
  rw [e]
  unfold Builtin.Range.rangeSize
  rw [if_pos (by omega)]
  split
  · have h3 := Int.lt_ediv_add_one_mul_self (j - i - 1) (show 0 < c by omega)
    omega
  · omega
theorem lettersT_ok {rs : List Ru} {ts : List Tx} {p q : Int} {x y : Nat} {P : Vl → Ev → Prop} {PX : Xi} (k : TxK rs ts) (hp : p = x) (hq : q = y) (h1 : x ≤ y) (h2 : y ≤ (whole ts).length) (h3 : y - x ≤ 1000) (kk : P (.str (S (cut (whole ts) x y))) [none, none, none]) : F_letters [txtV rs ts, .int p, .int q] P PX := by
  subst hp hq
  exact ⟨rs, ts, _, _, rfl, k, fun x' y' e1 e2 _ _ _ => by
    have : x = x' := by omega
    have : y = y' := by omega
    subst x' y'
    exact kk, fun _ _ _ h => by omega, fun h => absurd ⟨by omega, by omega, by omega⟩ h⟩
abbrev V_unfolded : WF := v_unfolded F_letters
theorem unfolded_ok {rs : List Ru} {ts : List Tx} {P : Vl → Ev → Prop} {PX : Xi} (kt : TxK rs ts) (hl : (whole ts).length ≤ 5000) (k : P (.str (S (whole ts))) [none]) : V_unfolded [txtV rs ts] P PX := by
  unfold V_unfolded
  rw [w_unfolded]
  unfold s_unfolded
  walk_at "vv"
  refine v_r3u (by decide) (by omega) (by omega) (by decide) (by decide) fun n hn1 hn2 => ?_
  walk_at "vv"
  refine ⟨fun i env => ∃ (ys : List Tx) (o2 : Option Vl), env = [some (txtV rs ts), some (.lst true (strsOf ys)), o2] ∧ ys.flatten = (whole ts).take (1000 * i) ∧ ys.length = i, ⟨[], _, rfl, rfl, rfl⟩, ?_, ?_⟩
  · rintro i y env hi rfl ⟨ys, o2, rfl, hf, hy⟩
    have hi' := hn1 i hi
    walk_at "vv"
    refine lettersT_ok (x := 1000 * i) (y := min (whole ts).length (1000 * i + 1000)) kt (by omega) (by omega) (by omega) (by omega) (by omega) ?_
    walk_at "vv"
    refine v_app (by simp [strsOf]; omega) ?_
    refine ⟨ys ++ [cut (whole ts) (1000 * i) (min (whole ts).length (1000 * i + 1000))], _, by simp [strsOf]; rfl, ?_, by simp [hy]⟩
    rw [List.flatten_append, hf]
    simp only [List.flatten_cons, List.flatten_nil, List.append_nil]
    rw [show (whole ts).take (1000 * i) = cut (whole ts) 0 (1000 * i) by simp [cut], cut_app (by omega) (by omega)]
    unfold cut
    rw [List.drop_zero, List.take_eq_take_iff]
    omega
  · rintro env ⟨ys, o2, rfl, hf, hy⟩
    have hw' : ys.flatten = whole ts := by rw [hf, List.take_of_length_le (by omega)]
    walk_at "vv"
    refine v_join rfl (by rw [hw']; omega) ?_
    rw [hw']
    walk_at "vv"
    exact k

abbrev V_grown : WF := v_grown
theorem grown_ok {z w : Tx} {b a m : Nat} {P : Vl → Ev → Prop} {PX : Xi} (hz : z.length ≤ 5000) (hw : w.length ≤ 5000) (h1 : b + m ≤ z.length) (h2 : a + m ≤ w.length) (he : ∀ k, k < m → z[b + k]? = w[a + k]?)
    (k : ∀ m' : Nat, m ≤ m' → b + m' ≤ z.length → a + m' ≤ w.length → (∀ k, k < m' → z[b + k]? = w[a + k]?) → P (.int (m' : Int)) [none, none, none, none, none]) : V_grown [.str (S z), .int (b : Int), .str (S w), .int (a : Int), .int (m : Int)] P PX := by
  unfold V_grown
  rw [w_grown]
  unfold s_grown
  walk_at "vv"
  refine ⟨fun n env => ∃ m' : Nat, env = [some (.str (S z)), some (.int (b : Int)), some (.str (S w)), some (.int (a : Int)), some (.int (m' : Int))] ∧ m ≤ m' ∧ b + m' ≤ z.length ∧ a + m' ≤ w.length ∧ (∀ k, k < m' → z[b + k]? = w[a + k]?) ∧ n = z.length - m', ⟨_, m, rfl, Nat.le_refl _, h1, h2, he, rfl⟩, ?_⟩
  rintro n env ⟨m', rfl, g1, g2, g3, g4, rfl⟩
  walk_at "vv"
  refine v_lenS (by omega) ?_
  walk_at "vv"
  refine ifP (fun h => ?_) (fun h => ?_)
  · walk_at "vv"
    refine v_lenS (by omega) ?_
    walk_at "vv"
    refine ifP (fun h' => ?_) (fun h' => ?_)
    · have hb : b + m' < z.length := by omega
      have ha : a + m' < w.length := by omega
      walk_at "vv"
      rw [show (b : Int) + (m' : Int) = ((b + m' : Nat) : Int) by omega]
      refine v_ixS (by omega) (atI_nat (List.getElem?_eq_getElem hb)) ?_
      walk_at "vv"
      rw [show (a : Int) + (m' : Int) = ((a + m' : Nat) : Int) by omega]
      refine v_ixS (by omega) (atI_nat (List.getElem?_eq_getElem ha)) ?_
      walk_at "vv"
      refine ifP (fun e => ?_) (fun e => ?_)
      · walk_at "vv"
        refine ⟨_, ?_, m' + 1, rfl, by omega, by omega, by omega, fun k hk => ?_, rfl⟩
        · omega
        · by_cases hk' : k < m'
          · exact g4 k hk'
          · obtain rfl : k = m' := by omega
            rw [List.getElem?_eq_getElem hb, List.getElem?_eq_getElem ha]
            have := SX.S_inj e
            rw [List.cons.injEq] at this
            rw [this.1]
      · walk_at "vv"
        exact k m' g1 g2 g3 g4
    · walk_at "vv"
      exact k m' g1 g2 g3 g4
  · walk_at "vv"
    exact k m' g1 g2 g3 g4

abbrev V_first_place : WF := v_first_place
theorem txL_at {ts : List Tx} {n : Nat} (h : n < ts.length) : atI (ts.map txL) (n : Int) = some (.str (S (gt ts n))) := by
  refine atI_nat ?_
  rw [List.getElem?_map, List.getElem?_eq_getElem h, gt_at (List.getElem?_eq_getElem h)]
  rfl
theorem first_place_ok {ts : List Tx} {n a m : Nat} {P : Vl → Ev → Prop} {PX : Xi} (hn : n < ts.length) (hl : ∀ i, (gt ts i).length ≤ 5000) (hc : ts.length ≤ 1000) (hm : ∃ s b, CpOk ts n a s b m)
    (k : ∀ s b : Nat, CpOk ts n a s b m → P (.tup [.int (s : Int), .int (b : Int)]) [none, none, none, none]) : V_first_place [.lst false (ts.map txL), .int (n : Int), .int (a : Int), .int (m : Int)] P PX := by
  have hln := hl n
  obtain ⟨s0, b0, h0⟩ := hm
  unfold V_first_place
  rw [w_first_place]
  unfold s_first_place
  walk_at "vv"
  refine v_ixL (txL_at hn) ?_
  walk_at "vv"
  rw [show (a : Int) + (m : Int) = ((a + m : Nat) : Int) by omega]
  refine v_cutS (by omega) cutS_nat ?_
  walk_at "vv"
  refine ⟨fun i env => ∃ o5 o6 o7, env = [some (.lst false (ts.map txL)), some (.int (n : Int)), some (.int (a : Int)), some (.int (m : Int)), some (.str (S (((gt ts n).take (a + m)).drop a))), o5, o6, o7] ∧ ∀ s, s < i → ∀ b, ¬ CpOk ts n a s b m, ⟨_, _, _, rfl, fun s h => by omega⟩, ?_, ?_⟩
  · rintro i y env hi rfl ⟨o5, o6, o7, rfl, hno⟩
    have hi' : i ≤ n := by omega
    have hli := hl i
    walk_at "vv"
    have e0 : atI (ts.map txL) (0 + (i : Int)) = some (.str (S (gt ts i))) := by rw [Int.zero_add]; exact txL_at (by omega)
    have go : ∀ L : Nat, ((i = n → L = a + m - 1) ∧ (i ≠ n → L = (gt ts i).length)) → fnd (gt ts i) (((gt ts n).take (a + m)).drop a) L = -1 ∧ (∀ b, ¬ CpOk ts n a i b m) ∨ ∃ b : Nat, fnd (gt ts i) (((gt ts n).take (a + m)).drop a) L = (b : Int) ∧ CpOk ts n a i b m := fun L hL => by
      rcases fnd_spec (gt ts i) (((gt ts n).take (a + m)).drop a) L with ⟨h1, h2⟩ | ⟨b, h1, h2, _⟩
      · exact .inl ⟨h1, fun b h => h2 b ((atN_cp h0.1 hi' h0.2.2.2.1 hL).mpr h)⟩
      · exact .inr ⟨b, h1, (atN_cp h0.1 hi' h0.2.2.2.1 hL).mp h2⟩
    refine ifP (fun h => ?_) (fun h => ?_)
    · have h1 := h0.1
      walk_at "vv"
      rw [show (a : Int) + (m : Int) - 1 = ((a + m - 1 : Nat) : Int) by omega]
      walk_at "vv"
      refine v_ixL e0 ?_
      walk_at "vv"
      rcases go (a + m - 1) (by exact ⟨fun _ => rfl, fun e => by omega⟩) with ⟨e, hno2⟩ | ⟨b, e, hcp⟩
      · rw [e]
        walk_at "vv"
        refine ifPF (by omega) ?_
        walk_at "vv"
        exact ⟨_, _, _, rfl, fun s hs => by
          by_cases hs' : s < i
          · exact hno s hs'
          · obtain rfl : s = i := by omega
            exact hno2⟩
      · rw [e]
        walk_at "vv"
        refine ifPT (by omega) ?_
        walk_at "vv"
        rw [Int.zero_add]
        exact k i b hcp
    · walk_at "vv"
      refine v_ixL e0 ?_
      walk_at "vv"
      refine v_lenS (by omega) ?_
      walk_at "vv"
      refine v_ixL e0 ?_
      walk_at "vv"
      rcases go (gt ts i).length (by exact ⟨fun e => by omega, fun _ => rfl⟩) with ⟨e, hno2⟩ | ⟨b, e, hcp⟩
      · rw [e]
        walk_at "vv"
        refine ifPF (by omega) ?_
        walk_at "vv"
        exact ⟨_, _, _, rfl, fun s hs => by
          by_cases hs' : s < i
          · exact hno s hs'
          · obtain rfl : s = i := by omega
            exact hno2⟩
      · rw [e]
        walk_at "vv"
        refine ifPT (by omega) ?_
        walk_at "vv"
        rw [Int.zero_add]
        exact k i b hcp
  · rintro env ⟨o5, o6, o7, rfl, hno⟩
    exact absurd h0 (hno s0 (by have := h0.2.1; omega) b0)
/-- what is found so far -/
def FndOk (ts : List Tx) (n a m : Nat) (x : Vl) : Prop := (x = .non ∧ m = 1) ∨ (2 ≤ m ∧ ∃ s b : Nat, x = .tup [.int (s : Int), .int (b : Int), .int (m : Int)] ∧ CpOk ts n a s b m)
abbrev V_longest_copy : WF := v_longest_copy V_grown
theorem longest_copy_ok {ts : List Tx} {n a : Nat} {P : Vl → Ev → Prop} {PX : Xi} (hn : n < ts.length) (hl : ∀ i, (gt ts i).length ≤ 5000) (hc : ts.length ≤ 1000) (ha : a < (gt ts n).length)
    (k : ∀ (m : Nat) (x : Vl), FndOk ts n a m x → (∀ s b, ¬ CpOk ts n a s b (m + 1)) → P x [none, none, none]) : V_longest_copy [.lst false (ts.map txL), .int (n : Int), .int (a : Int)] P PX := by
  have hln := hl n
  unfold V_longest_copy
  rw [w_longest_copy]
  unfold s_longest_copy
  walk_at "vv"
  refine v_ixL (txL_at hn) ?_
  walk_at "vv"
  refine ⟨fun i env => ∃ (x : Vl) (m : Nat) (o6 o7 o8 o9 : Option Vl), env = [some (.lst false (ts.map txL)), some (.int (n : Int)), some (.int (a : Int)), some (.str (S (gt ts n))), some x, some (.int (m : Int)), o6, o7, o8, o9] ∧ 1 ≤ m ∧ a + m ≤ (gt ts n).length ∧ FndOk ts n a m x ∧ ∀ s, s < i → ∀ b, ¬ CpOk ts n a s b (m + 1), ⟨_, 1, _, _, _, _, rfl, by omega, by omega, .inl ⟨rfl, rfl⟩, fun s h => by omega⟩, ?_, ?_⟩
  · rintro i y env hi rfl ⟨x0, m0, o6, o7, o8, o9, rfl, hm0, ham0, hf0, hno0⟩
    have hi' : i ≤ n := by omega
    have hli := hl i
    have e0 : atI (ts.map txL) (0 + (i : Int)) = some (.str (S (gt ts i))) := by rw [Int.zero_add]; exact txL_at (by omega)
    walk_at "vv"
    refine ⟨fun j env => ∃ (x : Vl) (m : Nat) (o7 o8 o9 : Option Vl), env = [some (.lst false (ts.map txL)), some (.int (n : Int)), some (.int (a : Int)), some (.str (S (gt ts n))), some x, some (.int (m : Int)), some (.int (0 + (i : Int))), o7, o8, o9] ∧ 1 ≤ m ∧ a + m ≤ (gt ts n).length ∧ FndOk ts n a m x ∧ (∀ s, s < i → ∀ b, ¬ CpOk ts n a s b (m + 1)) ∧ j = (gt ts n).length - m, ⟨_, x0, m0, _, _, _, rfl, hm0, ham0, hf0, hno0, rfl⟩, ?_⟩
    rintro j env ⟨x, m, o7, o8, o9, rfl, hm, ham, hf, hno, rfl⟩
    walk_at "vv"
    refine v_lenS (by omega) ?_
    walk_at "vv"
    refine ifP (fun h => ?_) (fun h => ?_)
    · have h' : a + (m + 1) ≤ (gt ts n).length := by omega
      have go : ∀ L : Nat, ((i = n → L = a + (m + 1) - 1) ∧ (i ≠ n → L = (gt ts i).length)) → fnd (gt ts i) (((gt ts n).take (a + (m + 1))).drop a) L = -1 ∧ (∀ b, ¬ CpOk ts n a i b (m + 1)) ∨ ∃ b : Nat, fnd (gt ts i) (((gt ts n).take (a + (m + 1))).drop a) L = (b : Int) ∧ CpOk ts n a i b (m + 1) := fun L hL => by
        rcases fnd_spec (gt ts i) (((gt ts n).take (a + (m + 1))).drop a) L with ⟨h1, h2⟩ | ⟨b, h1, h2, _⟩
        · exact .inl ⟨h1, fun b h => h2 b ((atN_cp (by omega) hi' h' hL).mpr h)⟩
        · exact .inr ⟨b, h1, (atN_cp (by omega) hi' h' hL).mp h2⟩
      walk_at "vv"
      rw [show (a : Int) + (m : Int) + 1 = ((a + (m + 1) : Nat) : Int) by omega]
      refine v_cutS (by omega) cutS_nat ?_
      walk_at "vv"
      refine ifP (fun hsn => ?_) (fun hsn => ?_)
      · walk_at "vv"
        rw [show (a : Int) + (m : Int) = ((a + (m + 1) - 1 : Nat) : Int) by omega]
        walk_at "vv"
        refine v_ixL e0 ?_
        walk_at "vv"
        rcases go (a + (m + 1) - 1) (by exact ⟨fun _ => rfl, fun e => by omega⟩) with ⟨e, hno2⟩ | ⟨b, e, hcp⟩
        · rw [e]
          walk_at "vv"
          refine ifPT (by omega) ?_
          walk_at "vv"
          exact ⟨x, m, _, _, _, _, rfl, hm, ham, hf, fun s hs => by
            by_cases hs' : s < i
            · exact hno s hs'
            · obtain rfl : s = i := by omega
              exact hno2⟩
        · rw [e]
          walk_at "vv"
          refine ifPF (by omega) ?_
          walk_at "vv"
          refine v_ixL e0 ?_
          walk_at "vv"
          rw [show (m : Int) + 1 = ((m + 1 : Nat) : Int) by omega]
          refine grown_ok (by omega) (by omega) hcp.2.2.2.2.1 hcp.2.2.2.1 hcp.2.2.2.2.2 fun m' g1 g2 g3 g4 => ?_
          walk_at "vv"
          have hcp' : CpOk ts n a i b m' := ⟨by omega, hcp.2.1, hcp.2.2.1, g3, g2, g4⟩
          refine ⟨_, ?_, _, m', _, _, _, rfl, by omega, g3, .inr ⟨by omega, i, b, by rw [Int.zero_add], hcp'⟩, fun s hs b hb => hno s hs b (hb.pre (by omega) (by omega)), rfl⟩
          omega
      · walk_at "vv"
        refine v_ixL e0 ?_
        walk_at "vv"
        refine v_lenS (by omega) ?_
        walk_at "vv"
        refine v_ixL e0 ?_
        walk_at "vv"
        rcases go ((gt ts i).length) (by exact ⟨fun e => by omega, fun _ => rfl⟩) with ⟨e, hno2⟩ | ⟨b, e, hcp⟩
        · rw [e]
          walk_at "vv"
          refine ifPT (by omega) ?_
          walk_at "vv"
          exact ⟨x, m, _, _, _, _, rfl, hm, ham, hf, fun s hs => by
            by_cases hs' : s < i
            · exact hno s hs'
            · obtain rfl : s = i := by omega
              exact hno2⟩
        · rw [e]
          walk_at "vv"
          refine ifPF (by omega) ?_
          walk_at "vv"
          refine v_ixL e0 ?_
          walk_at "vv"
          rw [show (m : Int) + 1 = ((m + 1 : Nat) : Int) by omega]
          refine grown_ok (by omega) (by omega) hcp.2.2.2.2.1 hcp.2.2.2.1 hcp.2.2.2.2.2 fun m' g1 g2 g3 g4 => ?_
          walk_at "vv"
          have hcp' : CpOk ts n a i b m' := ⟨by omega, hcp.2.1, hcp.2.2.1, g3, g2, g4⟩
          refine ⟨_, ?_, _, m', _, _, _, rfl, by omega, g3, .inr ⟨by omega, i, b, by rw [Int.zero_add], hcp'⟩, fun s hs b hb => hno s hs b (hb.pre (by omega) (by omega)), rfl⟩
          omega
    · walk_at "vv"
      refine ⟨x, m, _, _, _, _, rfl, hm, ham, hf, fun s hs b hb => ?_⟩
      have := hb.2.2.2.1
      omega
  · rintro env ⟨x, m, o6, o7, o8, o9, rfl, hm, ham, hf, hno⟩
    walk_at "vv"
    exact k m x hf fun s b hb => hno s (by have := hb.2.1; omega) b hb
def phV : Ph → Vl
  | .lt c => .tup [.str "letter", .str (S [c])]
  | .cp s b m => .tup [.str "copy", .int (s : Int), .int (b : Int), .int (m : Int)]
def rowV (ps : List Ph) : Vl := .tup (ps.map phV)
def cutV (rows : List (List Ph)) : Vl := .tup (rows.map rowV)
abbrev RT := List Ru × List Tx
def rtV (p : RT) : Vl := txtV p.1 p.2
def rtW (xs : List RT) : List Tx := xs.map fun p => whole p.2
/-- the greedy rows -/
def GRow (ts : List Tx) (n : Nat) (ps : List Ph) : Prop := Pth (GOk ts n) 0 ps (gt ts n).length
abbrev V_shortest_cut : WF := v_shortest_cut V_unfolded V_longest_copy V_first_place
theorem gt_le_sum : ∀ (ts : List Tx) (i : Nat), (gt ts i).length ≤ (ts.map List.length).sum
  | [], i => by simp [gt]
  | t :: ts, 0 => by simp [gt]
  | t :: ts, i + 1 => by
    have := gt_le_sum ts i
    simp only [gt, List.getD_cons_succ, List.map_cons, List.sum_cons] at this ⊢
    omega
theorem sum_cast : ∀ {ts : List Tx}, (ts.map fun t => (t.length : Int)).sum = (((ts.map List.length).sum : Nat) : Int)
  | [] => rfl
  | t :: ts => by
    have := sum_cast (ts := ts)
    simp only [List.map_cons, List.sum_cons, this]
    omega
instance (priority := 800) {n : Nat} {o : Bool} {env env' : Ev} {xs : List Vl} {P : Vl → Ev → Prop} [l : LkE env n (.lst o xs)] [f : FzAc xs] [e : SsE env n (some (.lst false xs)) env'] : St1 (eFrz n env P) (P (.lst false xs) env') := ⟨fun h => ⟨_, l.h, by
  rw [show (Vl.lst o xs).frz = .lst false xs by cases o; rfl; (rw [show (Vl.lst true xs).frz = .lst false (Vl.frzA xs) from rfl, frz_fzA f.h]), e.h]; exact h⟩⟩
instance {ps : List Ph} : FzAc (ps.map phV) := ⟨fzA_map fun p => by cases p <;> rfl⟩
instance {p : Ph} : Fzc (phV p) := ⟨by cases p <;> rfl⟩
instance {ps : List Ph} : Fzc (rowV ps) := ⟨by unfold rowV; rw [Vl.fz]; exact (inferInstance : FzAc (ps.map phV)).h⟩
instance {rows : List (List Ph)} : FzAc (rows.map rowV) := ⟨fzA_map fun ps => (inferInstance : Fzc (rowV ps)).h⟩
instance {ts : List Tx} : FzAc (ts.map txL) := ⟨fzA_map fun ps => rfl⟩
instance {xs : List RT} : FzAc (xs.map rtV) := ⟨fzA_map fun p => by unfold rtV txtV; rfl⟩
theorem shortest_cut_ok {o : Bool} {xs : List RT} {P : Vl → Ev → Prop} {PX : Xi} (hx : ∀ p ∈ xs, TxK p.1 p.2) (hs : ((rtW xs).map List.length).sum ≤ 4096) (hc : xs.length ≤ 1000)
    (k : ∀ rows : List (List Ph), rows.length = xs.length → (∀ n ps, rows[n]? = some ps → GRow (rtW xs) n ps) → P (cutV rows) [none]) : V_shortest_cut [.lst o (xs.map rtV)] P PX := by
  unfold V_shortest_cut
  rw [w_shortest_cut]
  unfold s_shortest_cut
  have hlx : (xs.map rtV).length = xs.length := List.length_map ..
  have hlen : (rtW xs).length = xs.length := List.length_map ..
  have hle : ∀ i, (gt (rtW xs) i).length ≤ 4096 := fun i => Nat.le_trans (gt_le_sum (rtW xs) i) hs
  have hat : ∀ {i : Nat} {y : Vl}, (xs.map rtV)[i]? = some y → ∃ p : RT, y = txtV p.1 p.2 ∧ TxK p.1 p.2 ∧ (rtW xs)[i]? = some (whole p.2) ∧ (whole p.2).length ≤ 4096 := fun {i y} h => by
    rw [List.getElem?_map] at h
    obtain ⟨p, hp, rfl⟩ := Option.map_eq_some_iff.mp h
    have hw : (rtW xs)[i]? = some (whole p.2) := by unfold rtW; rw [List.getElem?_map, hp]; rfl
    refine ⟨p, rfl, hx p (List.mem_of_getElem? hp), hw, ?_⟩
    rw [← gt_at hw]; exact hle i
  walk_at "vv"
  refine ⟨by omega, fun i acc env => acc = ((rtW xs).take i).map (fun t => Vl.int (t.length : Int)) ∧ ∃ o9, env = [some (.lst false (xs.map rtV)), none, none, none, none, none, none, none, none, o9], ⟨rfl, _, rfl⟩, ?_, ?_⟩
  · rintro i y acc env hi hy ha ⟨rfl, o9, rfl⟩
    obtain ⟨p, rfl, hk, hw, _⟩ := hat hy
    unfold txtV
    walk_at "vv"
    exact ⟨by rw [take_one hw, List.map_append]; rfl, _, rfl⟩
  rintro acc env ha ⟨rfl, o9, rfl⟩
  rw [hlx, ← hlen, List.take_of_length_le (Nat.le_refl _)]
  simp only [restE, wipeE, List.set_cons_succ, List.set_cons_zero, List.getElem?_cons_succ, List.getElem?_cons_zero, Option.getD_some]
  walk_at "vv"
  refine ⟨_, (rtW xs).map (fun t => (t.length : Int)), by rw [List.map_map]; rfl, ?_⟩
  rw [sum_cast]
  walk_at "vv"
  refine ifPF (by omega) ?_
  walk_at "vv"
  refine ⟨by omega, fun i acc env => acc = ((rtW xs).take i).map txL ∧ ∃ o9, env = [some (.lst false (xs.map rtV)), none, none, none, none, none, none, none, none, o9], ⟨rfl, _, rfl⟩, ?_, ?_⟩
  · rintro i y acc env hi hy ha ⟨rfl, o9, rfl⟩
    obtain ⟨p, rfl, hk, hw, hle1⟩ := hat hy
    walk_at "vv"
    refine unfolded_ok hk (by omega) ?_
    walk_at "vv"
    exact ⟨by rw [take_one hw, List.map_append]; rfl, _, rfl⟩
  rintro acc env ha ⟨rfl, o9, rfl⟩
  rw [hlx, ← hlen, List.take_of_length_le (Nat.le_refl _)]
  simp only [restE, wipeE, List.set_cons_succ, List.set_cons_zero, List.getElem?_cons_succ, List.getElem?_cons_zero, Option.getD_some]
  walk_at "vv"
  rw [hlx]
  refine ⟨fun i env => ∃ (o : Bool) (rows : List (List Ph)) (o3 o4 o5 o6 o7 o8 o9 : Option Vl), env = [some (.lst false (xs.map rtV)), some (.lst o ((rtW xs).map txL)), some (.lst true (rows.map rowV)), o3, o4, o5, o6, o7, o8, o9] ∧ rows.length = i ∧ ∀ n ps, rows[n]? = some ps → GRow (rtW xs) n ps, ⟨true, [], _, _, _, _, _, _, _, rfl, rfl, fun n ps h => by cases h⟩, ?_, ?_⟩
  · rintro i y env hi rfl ⟨o, rows, o3, o4, o5, o6, o7, o8, o9, rfl, hrl, hrows⟩
    have hli := hle i
    have hin : i < (rtW xs).length := by omega
    have e0 : atI ((rtW xs).map txL) (0 + (i : Int)) = some (.str (S (gt (rtW xs) i))) := by rw [Int.zero_add]; exact txL_at hin
    walk_at "vv"
    refine ⟨fun j env => ∃ (o : Bool) (ps : List Ph) (a : Nat) (o6 o7 o8 o9 : Option Vl), env = [some (.lst false (xs.map rtV)), some (.lst o ((rtW xs).map txL)), some (.lst true (rows.map rowV)), some (.int (0 + (i : Int))), some (.lst true (ps.map phV)), some (.int (a : Int)), o6, o7, o8, o9] ∧ Pth (GOk (rtW xs) i) 0 ps a ∧ ps.length ≤ a ∧ a ≤ (gt (rtW xs) i).length ∧ j = (gt (rtW xs) i).length - a, ⟨_, o, [], 0, _, _, _, _, rfl, .nil 0, Nat.le_refl _, Nat.zero_le _, rfl⟩, ?_⟩
    rintro j env ⟨o, ps, a, o6, o7, o8, o9, rfl, hp, hpl, ha, rfl⟩
    walk_at "vv"
    refine v_ixL e0 ?_
    walk_at "vv"
    refine v_lenS (by omega) ?_
    walk_at "vv"
    refine ifP (fun h => ?_) (fun h => ?_)
    · walk_at "vv"
      rw [Int.zero_add]
      refine longest_copy_ok hin (fun i => by have := hle i; omega) (by omega) (by omega) fun m x hf hno => ?_
      rcases hf with ⟨rfl, rfl⟩ | ⟨hm, s, b, rfl, hcp⟩
      · walk_at "vv"
        refine v_ixL (txL_at hin) ?_
        walk_at "vv"
        have hal : a < (gt (rtW xs) i).length := by omega
        refine v_ixS (by omega) (atI_nat (List.getElem?_eq_getElem hal)) ?_
        walk_at "vv"
        refine v_app (by rw [List.length_map]; omega) ?_
        walk_at "vv"
        refine ⟨_, ?_, _, ps ++ [Ph.lt (gt (rtW xs) i)[a]], a + 1, _, _, _, _, by rw [List.map_append]; rfl, hp.snoc ⟨List.getElem?_eq_getElem hal, hno⟩, by simp; omega, by omega, rfl⟩
        omega
      · have hm1 := hcp.1
        have hm2 := hcp.2.2.2.1
        walk_at "vv"
        refine first_place_ok hin (fun i => by have := hle i; omega) (by omega) ⟨s, b, hcp⟩ fun s' b' hcp' => ?_
        walk_at "vv"
        refine v_app (by rw [List.length_map]; omega) ?_
        walk_at "vv"
        refine ⟨_, ?_, _, ps ++ [Ph.cp s' b' m], a + m, _, _, _, _, by rw [List.map_append]; rfl, hp.snoc ⟨hcp', hno⟩, by simp; omega, by omega, rfl⟩
        omega
    · obtain rfl : a = (gt (rtW xs) i).length := by omega
      walk_at "vv"
      refine v_app (by rw [List.length_map]; omega) ?_
      refine ⟨o, rows ++ [ps], _, _, _, _, _, _, _, by rw [List.map_append]; rfl, by simp [hrl], fun n qs h => ?_⟩
      by_cases hn : n < rows.length
      · exact hrows n qs (by rw [List.getElem?_append_left hn] at h; exact h)
      · rw [List.getElem?_append_right (by omega)] at h
        have h0 : n - rows.length = 0 := by
          have := (List.getElem?_eq_some_iff.mp h).1
          simp at this; omega
        rw [h0] at h
        obtain rfl : ps = qs := Option.some.inj h
        obtain rfl : n = i := by omega
        exact hp
  · rintro env ⟨o, rows, o3, o4, o5, o6, o7, o8, o9, rfl, hrl, hrows⟩
    walk_at "vv"
    exact k rows (by omega) hrows
end Tr
end Sh


set_option Elab.async false
set_option linter.all false
set_option maxRecDepth 100000
set_option maxHeartbeats 4000000
namespace Sh
open PySem PySem.Spec PyProof.Rows L2
open SX (S)
namespace Tr
set_option synthInstance.maxSize 4096
set_option synthInstance.maxHeartbeats 400000
local macro_rules | `(tactic| walk_at "vv1") => `(tactic| first
  | refine go ?_
  | (with_reducible refine v_mulL (by omega) (by omega) ?_) | (with_reducible refine v_mulR (by omega) (by omega) ?_) | (with_reducible refine v_divI (by omega) (by omega) ?_) | (with_reducible refine v_modI (by omega) ?_)
  | (with_reducible refine v_r1 (by omega) (by omega) ?_) | (with_reducible refine v_r2 (by omega) (by omega) (by omega) (by omega) ?_))
local macro_rules | `(tactic| walk_at "vv") => `(tactic| repeat (walk_at "vv1"))
def N_law_some : List Str := ["_law_pool_here", "_law_many", "_law_most", "_law_found", "_law_k", "_law_kind", "_law_old", "_law_start", "_law_stop"]
theorem st_law_some {v0 v1 v2 : V} : start N_law_some [v0, v1, v2] = [some v0, some v1, some v2, none, none, none, none, none, none] := rfl
def t_law_some (K : PySem.W.Frag) (sp_law_take : Sp) (sp_law_drawn : Sp) (sp_law_letters : Sp) : TS := (tSeq (tAsg (tLst tNil) (gName 3)) (tSeq (tFor (iRng1 (tCons (tVar 1) tNil)) (gName 4) (tSeq (tAsg (tCall sp_law_take [] E0 (tCons (tVar 0) (tCons (tC (.int 4)) tNil))) (gName 5)) (tIfS (tOr (tTest (tOp rEq (tVar 5) (tC (.int 0)))) (tNot (tTru K (tVar 3)))) (tDrop (tBM K "list" rAppend (tVar 3) (tCons (tOp (rIx K) (tDGet (tCall sp_law_drawn [] E0 (tCons (tVar 0) (tCons (tVar 2) tNil))) (tC (.str "texts"))) (tUn rNegI (tC (.int 1)))) tNil))) (tSeq (tAsg (tOp (rIx K) (tVar 3) (tCall sp_law_take [] E0 (tCons (tVar 0) (tCons (tCB (rLn K) (tCons (tVar 3) tNil)) tNil)))) (gName 6)) (tSeq (tAsg (tCall sp_law_take [] E0 (tCons (tVar 0) (tCons (tOp rAddI (tCB (rLn K) (tCons (tVar 6) tNil)) (tC (.int 1))) tNil))) (gName 7)) (tSeq (tAsg (tOp rAddI (tVar 7) (tCall sp_law_take [] E0 (tCons (tVar 0) (tCons (tOp rAddI (tOp rSubI (tCB (rLn K) (tCons (tVar 6) tNil)) (tVar 7)) (tC (.int 1))) tNil)))) (gName 8)) (tDrop (tBM K "list" rAppend (tVar 3) (tCons (tOp rAddS (tOp rAddS (tSl rSlS (tVar 6) (tPart (tVar 7)) (tPart (tVar 8))) (tCall sp_law_letters [] E0 (tCons (tVar 0) (tCons (tC (.int 3)) tNil)))) (tSl rSlS (tSl rSlS (tVar 6) tNoPart (tPart (tVar 7))) tNoPart (tPart (tCall sp_law_take [] E0 (tCons (tVar 0) (tCons (tC (.int 20)) tNil)))))) tNil))))))))) (tRet (tVar 3))))
def s_law_some (φ_law_take : WF) (φ_law_drawn : WF) (φ_law_letters : WF) (ξ : Xi) : WS := (sSeq (sAsg (eLst aNil) (gNm 3)) (sSeq (sFor (iR1 (aCons (eFrz 1) aNil)) (gNm 4) (sSeq (sAsg (eCall φ_law_take [some 0, none] xNo (aIo 0 (aCons (eB (bC (.int 4))) aNil))) (gNm 5)) (sIf (tB0 (bOr (bTest (bOp (wEqB false) (bVar 5) (bC (.int 0)))) (bNot (bTru (bVar 3))))) (sDrop (eMs 3 mApp (aCons (eOp wIx (eDGet (eCall φ_law_drawn [some 0, none] xNo (aIo 0 (aCons (eFrz 2) aNil))) (eB (bC (.str "texts")))) (eB (bUn wNegI (bC (.int 1))))) aNil))) (sSeq (sAsg (eOpL wIx 3 (eCall φ_law_take [some 0, none] xNo (aIo 0 (aCons (eB (bCB wLen (bCons (bVar 3) bNil))) aNil)))) (gNm 6)) (sSeq (sAsg (eCall φ_law_take [some 0, none] xNo (aIo 0 (aCons (eB (bOp wAddI (bCB wLen (bCons (bVar 6) bNil)) (bC (.int 1)))) aNil))) (gNm 7)) (sSeq (sAsg (eOp wAddI (eFrz 7) (eCall φ_law_take [some 0, none] xNo (aIo 0 (aCons (eB (bOp wAddI (bOp wSubI (bCB wLen (bCons (bVar 6) bNil)) (bVar 7)) (bC (.int 1)))) aNil)))) (gNm 8)) (sDrop (eMs 3 mApp (aCons (eOp wAddS (eOp wAddS (eB (bSlS (bVar 6) (oAt (bVar 7)) (oAt (bVar 8)))) (eCall φ_law_letters [some 0, none] xNo (aIo 0 (aCons (eB (bC (.int 3))) aNil)))) (eSlS (eB (bSlS (bVar 6) oNo (oAt (bVar 7)))) eoNo (eoAt (eCall φ_law_take [some 0, none] xNo (aIo 0 (aCons (eB (bC (.int 20))) aNil)))))) aNil))))))))) (sRet (eMov 3))))
theorem snd_law_some {K : PySem.W.Frag} (φ_law_take : WF) (φ_law_drawn : WF) (φ_law_letters : WF) (v0 v1 v2 : V) (E : XK) (ξ : Xi) : SS K [some v0, none, none] (fun _ => E) ξ (t_law_some K (spOf K 2 φ_law_take) (spOf K 2 φ_law_drawn) (spOf K 2 φ_law_letters)) (s_law_some φ_law_take φ_law_drawn φ_law_letters ξ) := by
  unfold t_law_some s_law_some
  exact (ss_seq (ss_asg (se_lst sa_nil) (sg_name (.inr rfl))) (ss_seq (ss_for (si_rng1 (sa_cons se_frz sa_nil)) (sg_name (.inr rfl)) (ss_seq (ss_asg (se_call rfl (sk_io (sk_ex (se_b sb_int) sk_nil))) (sg_name (.inr rfl))) (ss_if (st_b (sb_or (sb_test (sb_op sr_eq sb_var sb_int)) (sb_not (sb_tru sb_var)))) (ss_drop (se_ms sm_append (sa_cons (se_op sr_ix (se_dGet (se_call rfl (sk_io (sk_ex se_frz sk_nil))) (se_b sb_str)) (se_b (sb_un sr_negI sb_int))) sa_nil))) (ss_seq (ss_asg (se_opL sr_ix (se_call rfl (sk_io (sk_ex (se_b (sb_cb sr_len (sb_cons sb_var sb_nil))) sk_nil)))) (sg_name (.inr rfl))) (ss_seq (ss_asg (se_call rfl (sk_io (sk_ex (se_b (sb_op sr_addI (sb_cb sr_len (sb_cons sb_var sb_nil)) sb_int)) sk_nil))) (sg_name (.inr rfl))) (ss_seq (ss_asg (se_op sr_addI se_frz (se_call rfl (sk_io (sk_ex (se_b (sb_op sr_addI (sb_op sr_subI (sb_cb sr_len (sb_cons sb_var sb_nil)) sb_var) sb_int)) sk_nil)))) (sg_name (.inr rfl))) (ss_drop (se_ms sm_append (sa_cons (se_op sr_addS (se_op sr_addS (se_b (sb_slS sb_var (so_at sb_var) (so_at sb_var))) (se_call rfl (sk_io (sk_ex (se_b sb_int) sk_nil)))) (se_slS (se_b (sb_slS sb_var so_no (so_at sb_var))) seo_no (seo_at (se_call rfl (sk_io (sk_ex (se_b sb_int) sk_nil)))))) sa_nil))))))))) (ss_ret se_mov)))
def v_law_some (φ_law_take : WF) (φ_law_drawn : WF) (φ_law_letters : WF) : WF := wf (s_law_some φ_law_take φ_law_drawn φ_law_letters) [true, false, false] 9
theorem w_law_some (φ_law_take : WF) (φ_law_drawn : WF) (φ_law_letters : WF) (x0 x1 x2 : Vl) (P : Vl → Ev → Prop) (PX : Xi) : v_law_some φ_law_take φ_law_drawn φ_law_letters [x0, x1, x2] P PX = s_law_some φ_law_take φ_law_drawn φ_law_letters (fun C fs env => nOut [true, false, false] env (PX C fs)) (VE.mk (fun env => nOut [true, false, false] env (P .non)) (fun x env => nOut [true, false, false] env (P x)) (fun _ => False) (fun _ => False)) [some x0, some x1, some x2, none, none, none, none, none, none] := rfl
theorem pure_law_some {K : PySem.W.Frag} (φ_law_take : WF) (φ_law_drawn : WF) (φ_law_letters : WF) (vs : List V) (H : Hp) (Q : VK) (E : XK) (h : spOf K 3 (v_law_some φ_law_take φ_law_drawn φ_law_letters) vs H Q E) : t_law_some K (spOf K 2 φ_law_take) (spOf K 2 φ_law_drawn) (spOf K 2 φ_law_letters) { nx := fun _ H' => Q .non H', rt := Q } (start N_law_some vs) H :=
  body_ok (N := N_law_some) (pn := [true, false, false]) (t := fun E => t_law_some K (spOf K 2 φ_law_take) (spOf K 2 φ_law_drawn) (spOf K 2 φ_law_letters)) (fun vs hl E ξ => match vs, hl with | [v0, v1, v2], _ => snd_law_some φ_law_take φ_law_drawn φ_law_letters v0 v1 v2 E ξ) h
def N_law_texts : List Str := ["_law_pool_here", "_law_letters_here", "_law_one"]
theorem st_law_texts {v0 v1 : V} : start N_law_texts [v0, v1] = [some v0, some v1, none] := rfl
def t_law_texts (K : PySem.W.Frag) (sp_Text_init : Sp) (sp_law_other : Sp) : TS := (tRet (tLc (iList K (tVar 1)) (gName 2) tYes (tMake (He.ga K "Text") sp_Text_init [] E0 (tCons (tDGet (tCall sp_law_other [] E0 (tCons (tVar 0) (tCons (tVar 2) tNil))) (tC (.str "rules"))) tNil)) [2]))
def s_law_texts (φ_Text_init : WF) (φ_law_other : WF) (ξ : Xi) : WS := (sRet (eLc (iL (eFrz 1)) (gNm 2) tYs (eFz (eMake .Text φ_Text_init [none] xNo (aCons (eDGet (eCall φ_law_other [some 0, none] xNo (aIo 0 (aCons (eFrz 2) aNil))) (eB (bC (.str "rules")))) aNil))) [2]))
theorem snd_law_texts {K : PySem.W.Frag} (φ_Text_init : WF) (φ_law_other : WF) (v0 v1 : V) (E : XK) (ξ : Xi) : SS K [some v0, none] (fun _ => E) ξ (t_law_texts K (spOf K 2 φ_Text_init) (spOf K 2 φ_law_other)) (s_law_texts φ_Text_init φ_law_other ξ) := by
  unfold t_law_texts s_law_texts
  exact (ss_ret (se_lc (si_list se_frz) (sg_name (.inr rfl)) st_yes (se_fz (se_make (cn := .Text) rfl (sk_ex (se_dGet (se_call rfl (sk_io (sk_ex se_frz sk_nil))) (se_b sb_str)) sk_nil))) (by decide) (by rfl)))
def v_law_texts (φ_Text_init : WF) (φ_law_other : WF) : WF := wf (s_law_texts φ_Text_init φ_law_other) [true, false] 3
theorem w_law_texts (φ_Text_init : WF) (φ_law_other : WF) (x0 x1 : Vl) (P : Vl → Ev → Prop) (PX : Xi) : v_law_texts φ_Text_init φ_law_other [x0, x1] P PX = s_law_texts φ_Text_init φ_law_other (fun C fs env => nOut [true, false] env (PX C fs)) (VE.mk (fun env => nOut [true, false] env (P .non)) (fun x env => nOut [true, false] env (P x)) (fun _ => False) (fun _ => False)) [some x0, some x1, none] := rfl
theorem pure_law_texts {K : PySem.W.Frag} (φ_Text_init : WF) (φ_law_other : WF) (vs : List V) (H : Hp) (Q : VK) (E : XK) (h : spOf K 2 (v_law_texts φ_Text_init φ_law_other) vs H Q E) : t_law_texts K (spOf K 2 φ_Text_init) (spOf K 2 φ_law_other) { nx := fun _ H' => Q .non H', rt := Q } (start N_law_texts vs) H :=
  body_ok (N := N_law_texts) (pn := [true, false]) (t := fun E => t_law_texts K (spOf K 2 φ_Text_init) (spOf K 2 φ_law_other)) (fun vs hl E ξ => match vs, hl with | [v0, v1], _ => snd_law_texts φ_Text_init φ_law_other v0 v1 E ξ) h
def N_law_longest : List Str := ["_law_letters_here", "_law_number", "_law_at", "_law_text", "_law_best", "_law_source", "_law_last", "_law_start", "_law_many"]
theorem st_law_longest {v0 v1 v2 : V} : start N_law_longest [v0, v1, v2] = [some v0, some v1, some v2, none, none, none, none, none, none] := rfl
def t_law_longest (K : PySem.W.Frag) : TS := (tSeq (tAsg (tOp (rIx K) (tVar 0) (tVar 1)) (gName 3)) (tSeq (tAsg (tC .non) (gName 4)) (tSeq (tFor (iRng1 (tCons (tOp rAddI (tVar 1) (tC (.int 1))) tNil)) (gName 5) (Evl.tCut (tAsg (tIf (tTest (tOp rEq (tVar 5) (tVar 1))) (tVar 2) (tCB (rLn K) (tCons (tOp (rIx K) (tVar 0) (tVar 5)) tNil))) (gName 6)) (tFor (iRng1 (tCons (tVar 6) tNil)) (gName 7) (tSeq (tAsg (tC (.int 0)) (gName 8)) (Evl.tCut (tWhile (tAnd (tTest (tOp rLtI (tOp rAddI (tVar 2) (tVar 8)) (tCB (rLn K) (tCons (tVar 3) tNil)))) (tAnd (tTest (tOp rLtI (tOp rAddI (tVar 7) (tVar 8)) (tCB (rLn K) (tCons (tOp (rIx K) (tVar 0) (tVar 5)) tNil)))) (tTest (tOp rEq (tOp (rIx K) (tOp (rIx K) (tVar 0) (tVar 5)) (tOp rAddI (tVar 7) (tVar 8))) (tOp (rIx K) (tVar 3) (tOp rAddI (tVar 2) (tVar 8))))))) (tAsg (tOp rAddI (tVar 8) (tC (.int 1))) (gName 8))) (tIfS (tAnd (tTest (tOp rGtI (tVar 8) (tC (.int 1)))) (tOr (tTest (tOp rIsNone (tVar 4) (tC .non))) (tTest (tOp rGtI (tVar 8) (tOp (rIx K) (tVar 4) (tC (.int 3))))))) (tAsg (tTup (tCons (tC (.str "copy")) (tCons (tVar 5) (tCons (tVar 7) (tCons (tVar 8) tNil))))) (gName 4)) tNext)))))) (tRet (tVar 4)))))
def s_law_longest (ξ : Xi) : WS := (sSeq (sAsg (eB (bOp wIx (bVar 0) (bVar 1))) (gNm 3)) (sSeq (sAsg (eB (bC .non)) (gNm 4)) (sSeq (sFor (iR1 (aCons (eB (bOp wAddI (bVar 1) (bC (.int 1)))) aNil)) (gNm 5) (sCut (sAsg (eIf (tB0 (bTest (bOp (wEqB false) (bVar 5) (bVar 1)))) (eFrz 2) (eB (bCB wLen (bCons (bOp wIx (bVar 0) (bVar 5)) bNil)))) (gNm 6)) (sFor (iR1 (aCons (eFrz 6) aNil)) (gNm 7) (sSeq (sAsg (eB (bC (.int 0))) (gNm 8)) (sCut (sWhile (tB0 (bAnd (bTest (bOp wLtI (bOp wAddI (bVar 2) (bVar 8)) (bCB wLen (bCons (bVar 3) bNil)))) (bAnd (bTest (bOp wLtI (bOp wAddI (bVar 7) (bVar 8)) (bCB wLen (bCons (bOp wIx (bVar 0) (bVar 5)) bNil)))) (bTest (bOp (wEqB false) (bOp wIx (bOp wIx (bVar 0) (bVar 5)) (bOp wAddI (bVar 7) (bVar 8))) (bOp wIx (bVar 3) (bOp wAddI (bVar 2) (bVar 8)))))))) (sAsg (eB (bOp wAddI (bVar 8) (bC (.int 1)))) (gNm 8))) (sIf (tB0 (bAnd (bTest (bOp wGtI (bVar 8) (bC (.int 1)))) (bOr (bTest (bOp (wIsN false) (bVar 4) (bC .non))) (bTest (bOp wGtI (bVar 8) (bOp wIx (bVar 4) (bC (.int 3)))))))) (sAsg (eTup (aCons (eB (bC (.str "copy"))) (aCons (eFrz 5) (aCons (eFrz 7) (aCons (eFrz 8) aNil))))) (gNm 4)) sNext)))))) (sRet (eMov 4)))))
theorem snd_law_longest {K : PySem.W.Frag} (v0 v1 v2 : V) (E : XK) (ξ : Xi) : SS K [none, none, none] (fun _ => E) ξ (t_law_longest K) (s_law_longest ξ) := by
  unfold t_law_longest s_law_longest
  exact (ss_seq (ss_asg (se_b (sb_op sr_ix sb_var sb_var)) (sg_name (.inr rfl))) (ss_seq (ss_asg (se_b sb_non) (sg_name (.inr rfl))) (ss_seq (ss_for (si_rng1 (sa_cons (se_b (sb_op sr_addI sb_var sb_int)) sa_nil)) (sg_name (.inr rfl)) (ss_cut (ss_asg (se_if (st_b (sb_test (sb_op sr_eq sb_var sb_var))) se_frz (se_b (sb_cb sr_len (sb_cons (sb_op sr_ix sb_var sb_var) sb_nil)))) (sg_name (.inr rfl))) (ss_for (si_rng1 (sa_cons se_frz sa_nil)) (sg_name (.inr rfl)) (ss_seq (ss_asg (se_b sb_int) (sg_name (.inr rfl))) (ss_cut (ss_while (st_b (sb_and (sb_test (sb_op sr_ltI (sb_op sr_addI sb_var sb_var) (sb_cb sr_len (sb_cons sb_var sb_nil)))) (sb_and (sb_test (sb_op sr_ltI (sb_op sr_addI sb_var sb_var) (sb_cb sr_len (sb_cons (sb_op sr_ix sb_var sb_var) sb_nil)))) (sb_test (sb_op sr_eq (sb_op sr_ix (sb_op sr_ix sb_var sb_var) (sb_op sr_addI sb_var sb_var)) (sb_op sr_ix sb_var (sb_op sr_addI sb_var sb_var))))))) (ss_asg (se_b (sb_op sr_addI sb_var sb_int)) (sg_name (.inr rfl)))) (ss_if (st_b (sb_and (sb_test (sb_op sr_gtI sb_var sb_int)) (sb_or (sb_test (sb_op sr_isN sb_var sb_non)) (sb_test (sb_op sr_gtI sb_var (sb_op sr_ix sb_var sb_int)))))) (ss_asg (se_tup (sa_cons (se_b sb_str) (sa_cons se_frz (sa_cons se_frz (sa_cons se_frz sa_nil))))) (sg_name (.inr rfl))) ss_next)))))) (ss_ret se_mov))))
def v_law_longest : WF := wf (s_law_longest) [false, false, false] 9
theorem w_law_longest (x0 x1 x2 : Vl) (P : Vl → Ev → Prop) (PX : Xi) : v_law_longest [x0, x1, x2] P PX = s_law_longest (fun C fs env => nOut [false, false, false] env (PX C fs)) (VE.mk (fun env => nOut [false, false, false] env (P .non)) (fun x env => nOut [false, false, false] env (P x)) (fun _ => False) (fun _ => False)) [some x0, some x1, some x2, none, none, none, none, none, none] := rfl
theorem pure_law_longest {K : PySem.W.Frag} (vs : List V) (H : Hp) (Q : VK) (E : XK) (h : spOf K 3 (v_law_longest) vs H Q E) : t_law_longest K { nx := fun _ H' => Q .non H', rt := Q } (start N_law_longest vs) H :=
  body_ok (N := N_law_longest) (pn := [false, false, false]) (t := fun E => t_law_longest K) (fun vs hl E ξ => match vs, hl with | [v0, v1, v2], _ => snd_law_longest v0 v1 v2 E ξ) h
def N_law_spells : List Str := ["_law_letters_here", "_law_number", "_law_row", "_law_found", "_law_phrase", "_law_source", "_law_k"]
theorem st_law_spells {v0 v1 v2 : V} : start N_law_spells [v0, v1, v2] = [some v0, some v1, some v2, none, none, none, none] := rfl
def t_law_spells (K : PySem.W.Frag) : TS := (tSeq (tAsg (tC (.str "")) (gName 3)) (tSeq (tFor (iTup K (tVar 2)) (gName 4) (tSeq (tIfS (tTest (tOp rEq (tOp (rIx K) (tVar 4) (tC (.int 0))) (tC (.str "letter")))) (tSeq (tAsg (tOp rAddS (tVar 3) (tOp (rIx K) (tVar 4) (tC (.int 1)))) (gName 3)) tCont) tNext) (tSeq (tAsg (tOp (rIx K) (tVar 4) (tC (.int 1))) (gName 5)) (tSeq (tIfS (tOr (tTest (tOp rLtI (tVar 5) (tC (.int 0)))) (tOr (tTest (tOp rGtI (tVar 5) (tVar 1))) (tOr (tTest (tOp rLtI (tOp (rIx K) (tVar 4) (tC (.int 2))) (tC (.int 0)))) (tTest (tOp rLtI (tOp (rIx K) (tVar 4) (tC (.int 3))) (tC (.int 1))))))) (tRet (tC .non)) tNext) (tSeq (tIfS (tTest (tOp rLtI (tVar 5) (tVar 1))) (tSeq (tIfS (tTest (tOp rGtI (tOp rAddI (tOp (rIx K) (tVar 4) (tC (.int 2))) (tOp (rIx K) (tVar 4) (tC (.int 3)))) (tCB (rLn K) (tCons (tOp (rIx K) (tVar 0) (tVar 5)) tNil)))) (tRet (tC .non)) tNext) (tSeq (tAsg (tOp rAddS (tVar 3) (tSl rSlS (tOp (rIx K) (tVar 0) (tVar 5)) (tPart (tOp (rIx K) (tVar 4) (tC (.int 2)))) (tPart (tOp rAddI (tOp (rIx K) (tVar 4) (tC (.int 2))) (tOp (rIx K) (tVar 4) (tC (.int 3))))))) (gName 3)) tCont)) tNext) (tSeq (tIfS (tOr (tTest (tOp rGeI (tOp (rIx K) (tVar 4) (tC (.int 2))) (tCB (rLn K) (tCons (tVar 3) tNil)))) (tTest (tOp rGtI (tOp rAddI (tCB (rLn K) (tCons (tVar 3) tNil)) (tOp (rIx K) (tVar 4) (tC (.int 3)))) (tCB (rLn K) (tCons (tOp (rIx K) (tVar 0) (tVar 1)) tNil))))) (tRet (tC .non)) tNext) (tFor (iRng1 (tCons (tOp (rIx K) (tVar 4) (tC (.int 3))) tNil)) (gName 6) (tAsg (tOp rAddS (tVar 3) (tOp (rIx K) (tVar 3) (tOp rAddI (tOp (rIx K) (tVar 4) (tC (.int 2))) (tVar 6)))) (gName 3))))))))) (tRet (tVar 3))))
def s_law_spells (ξ : Xi) : WS := (sSeq (sAsg (eB (bC (.str ""))) (gNm 3)) (sSeq (sFor (iT (eFrz 2)) (gNm 4) (sSeq (sIf (tB0 (bTest (bOp (wEqB false) (bOp wIx (bVar 4) (bC (.int 0))) (bC (.str "letter"))))) (sSeq (sAsg (eB (bOp wAddS (bVar 3) (bOp wIx (bVar 4) (bC (.int 1))))) (gNm 3)) sCont) sNext) (sSeq (sAsg (eB (bOp wIx (bVar 4) (bC (.int 1)))) (gNm 5)) (sSeq (sIf (tB0 (bOr (bTest (bOp wLtI (bVar 5) (bC (.int 0)))) (bOr (bTest (bOp wGtI (bVar 5) (bVar 1))) (bOr (bTest (bOp wLtI (bOp wIx (bVar 4) (bC (.int 2))) (bC (.int 0)))) (bTest (bOp wLtI (bOp wIx (bVar 4) (bC (.int 3))) (bC (.int 1)))))))) (sRet (eB (bC .non))) sNext) (sSeq (sIf (tB0 (bTest (bOp wLtI (bVar 5) (bVar 1)))) (sSeq (sIf (tB0 (bTest (bOp wGtI (bOp wAddI (bOp wIx (bVar 4) (bC (.int 2))) (bOp wIx (bVar 4) (bC (.int 3)))) (bCB wLen (bCons (bOp wIx (bVar 0) (bVar 5)) bNil))))) (sRet (eB (bC .non))) sNext) (sSeq (sAsg (eB (bOp wAddS (bVar 3) (bSlS (bOp wIx (bVar 0) (bVar 5)) (oAt (bOp wIx (bVar 4) (bC (.int 2)))) (oAt (bOp wAddI (bOp wIx (bVar 4) (bC (.int 2))) (bOp wIx (bVar 4) (bC (.int 3)))))))) (gNm 3)) sCont)) sNext) (sSeq (sIf (tB0 (bOr (bTest (bOp wGeI (bOp wIx (bVar 4) (bC (.int 2))) (bCB wLen (bCons (bVar 3) bNil)))) (bTest (bOp wGtI (bOp wAddI (bCB wLen (bCons (bVar 3) bNil)) (bOp wIx (bVar 4) (bC (.int 3)))) (bCB wLen (bCons (bOp wIx (bVar 0) (bVar 1)) bNil)))))) (sRet (eB (bC .non))) sNext) (sFor (iR1 (aCons (eB (bOp wIx (bVar 4) (bC (.int 3)))) aNil)) (gNm 6) (sAsg (eB (bOp wAddS (bVar 3) (bOp wIx (bVar 3) (bOp wAddI (bOp wIx (bVar 4) (bC (.int 2))) (bVar 6))))) (gNm 3))))))))) (sRet (eMov 3))))
theorem snd_law_spells {K : PySem.W.Frag} (v0 v1 v2 : V) (E : XK) (ξ : Xi) : SS K [none, none, none] (fun _ => E) ξ (t_law_spells K) (s_law_spells ξ) := by
  unfold t_law_spells s_law_spells
  exact (ss_seq (ss_asg (se_b sb_str) (sg_name (.inr rfl))) (ss_seq (ss_for (si_tup se_frz) (sg_name (.inr rfl)) (ss_seq (ss_if (st_b (sb_test (sb_op sr_eq (sb_op sr_ix sb_var sb_int) sb_str))) (ss_seq (ss_asg (se_b (sb_op sr_addS sb_var (sb_op sr_ix sb_var sb_int))) (sg_name (.inr rfl))) ss_cont) ss_next) (ss_seq (ss_asg (se_b (sb_op sr_ix sb_var sb_int)) (sg_name (.inr rfl))) (ss_seq (ss_if (st_b (sb_or (sb_test (sb_op sr_ltI sb_var sb_int)) (sb_or (sb_test (sb_op sr_gtI sb_var sb_var)) (sb_or (sb_test (sb_op sr_ltI (sb_op sr_ix sb_var sb_int) sb_int)) (sb_test (sb_op sr_ltI (sb_op sr_ix sb_var sb_int) sb_int)))))) (ss_ret (se_b sb_non)) ss_next) (ss_seq (ss_if (st_b (sb_test (sb_op sr_ltI sb_var sb_var))) (ss_seq (ss_if (st_b (sb_test (sb_op sr_gtI (sb_op sr_addI (sb_op sr_ix sb_var sb_int) (sb_op sr_ix sb_var sb_int)) (sb_cb sr_len (sb_cons (sb_op sr_ix sb_var sb_var) sb_nil))))) (ss_ret (se_b sb_non)) ss_next) (ss_seq (ss_asg (se_b (sb_op sr_addS sb_var (sb_slS (sb_op sr_ix sb_var sb_var) (so_at (sb_op sr_ix sb_var sb_int)) (so_at (sb_op sr_addI (sb_op sr_ix sb_var sb_int) (sb_op sr_ix sb_var sb_int)))))) (sg_name (.inr rfl))) ss_cont)) ss_next) (ss_seq (ss_if (st_b (sb_or (sb_test (sb_op sr_geI (sb_op sr_ix sb_var sb_int) (sb_cb sr_len (sb_cons sb_var sb_nil)))) (sb_test (sb_op sr_gtI (sb_op sr_addI (sb_cb sr_len (sb_cons sb_var sb_nil)) (sb_op sr_ix sb_var sb_int)) (sb_cb sr_len (sb_cons (sb_op sr_ix sb_var sb_var) sb_nil)))))) (ss_ret (se_b sb_non)) ss_next) (ss_for (si_rng1 (sa_cons (se_b (sb_op sr_ix sb_var sb_int)) sa_nil)) (sg_name (.inr rfl)) (ss_asg (se_b (sb_op sr_addS sb_var (sb_op sr_ix sb_var (sb_op sr_addI (sb_op sr_ix sb_var sb_int) sb_var)))) (sg_name (.inr rfl)))))))))) (ss_ret se_mov)))
def v_law_spells : WF := wf (s_law_spells) [false, false, false] 7
theorem w_law_spells (x0 x1 x2 : Vl) (P : Vl → Ev → Prop) (PX : Xi) : v_law_spells [x0, x1, x2] P PX = s_law_spells (fun C fs env => nOut [false, false, false] env (PX C fs)) (VE.mk (fun env => nOut [false, false, false] env (P .non)) (fun x env => nOut [false, false, false] env (P x)) (fun _ => False) (fun _ => False)) [some x0, some x1, some x2, none, none, none, none] := rfl
theorem pure_law_spells {K : PySem.W.Frag} (vs : List V) (H : Hp) (Q : VK) (E : XK) (h : spOf K 3 (v_law_spells) vs H Q E) : t_law_spells K { nx := fun _ H' => Q .non H', rt := Q } (start N_law_spells vs) H :=
  body_ok (N := N_law_spells) (pn := [false, false, false]) (t := fun E => t_law_spells K) (fun vs hl E ξ => match vs, hl with | [v0, v1, v2], _ => snd_law_spells v0 v1 v2 E ξ) h
def N_law_is_cut : List Str := ["_law_letters_here", "_law_cut", "_law_k"]
theorem st_law_is_cut {v0 v1 : V} : start N_law_is_cut [v0, v1] = [some v0, some v1, none] := rfl
def t_law_is_cut (K : PySem.W.Frag) (sp_law_spells : Sp) : TS := (tSeq (tIfS (tTest (tOp rNe (tCB (rLn K) (tCons (tVar 1) tNil)) (tCB (rLn K) (tCons (tVar 0) tNil)))) (tRet (tC (.bl false))) tNext) (tRet (tCB (rAll K) (tCons (tLc (iRng1 (tCons (tCB (rLn K) (tCons (tVar 0) tNil)) tNil)) (gName 2) tYes (tOp rEq (tCall sp_law_spells [] E0 (tCons (tVar 0) (tCons (tVar 2) (tCons (tOp (rIx K) (tVar 1) (tVar 2)) tNil)))) (tOp (rIx K) (tVar 0) (tVar 2))) [2]) tNil))))
def s_law_is_cut (φ_law_spells : WF) (ξ : Xi) : WS := (sSeq (sIf (tB0 (bTest (bOp (wEqB true) (bCB wLen (bCons (bVar 1) bNil)) (bCB wLen (bCons (bVar 0) bNil))))) (sRet (eB (bC (.bl false)))) sNext) (sRet (eCB wAll (aCons (eLc (iR1 (aCons (eB (bCB wLen (bCons (bVar 0) bNil))) aNil)) (gNm 2) tYs (eOp (wEqB false) (eCall φ_law_spells [none, none, none] xNo (aCons (eFrz 0) (aCons (eFrz 2) (aCons (eB (bOp wIx (bVar 1) (bVar 2))) aNil)))) (eB (bOp wIx (bVar 0) (bVar 2)))) [2]) aNil))))
theorem snd_law_is_cut {K : PySem.W.Frag} (φ_law_spells : WF) (v0 v1 : V) (E : XK) (ξ : Xi) : SS K [none, none] (fun _ => E) ξ (t_law_is_cut K (spOf K 3 φ_law_spells)) (s_law_is_cut φ_law_spells ξ) := by
  unfold t_law_is_cut s_law_is_cut
  exact (ss_seq (ss_if (st_b (sb_test (sb_op sr_ne (sb_cb sr_len (sb_cons sb_var sb_nil)) (sb_cb sr_len (sb_cons sb_var sb_nil))))) (ss_ret (se_b sb_bl)) ss_next) (ss_ret (se_cb sr_all (sa_cons (se_lc (si_rng1 (sa_cons (se_b (sb_cb sr_len (sb_cons sb_var sb_nil))) sa_nil)) (sg_name (.inr rfl)) st_yes (se_op sr_eq (se_call rfl (sk_ex se_frz (sk_ex se_frz (sk_ex (se_b (sb_op sr_ix sb_var sb_var)) sk_nil)))) (se_b (sb_op sr_ix sb_var sb_var))) (by decide) (by rfl)) sa_nil))))
def v_law_is_cut (φ_law_spells : WF) : WF := wf (s_law_is_cut φ_law_spells) [false, false] 3
theorem w_law_is_cut (φ_law_spells : WF) (x0 x1 : Vl) (P : Vl → Ev → Prop) (PX : Xi) : v_law_is_cut φ_law_spells [x0, x1] P PX = s_law_is_cut φ_law_spells (fun C fs env => nOut [false, false] env (PX C fs)) (VE.mk (fun env => nOut [false, false] env (P .non)) (fun x env => nOut [false, false] env (P x)) (fun _ => False) (fun _ => False)) [some x0, some x1, none] := rfl
theorem pure_law_is_cut {K : PySem.W.Frag} (φ_law_spells : WF) (vs : List V) (H : Hp) (Q : VK) (E : XK) (h : spOf K 2 (v_law_is_cut φ_law_spells) vs H Q E) : t_law_is_cut K (spOf K 3 φ_law_spells) { nx := fun _ H' => Q .non H', rt := Q } (start N_law_is_cut vs) H :=
  body_ok (N := N_law_is_cut) (pn := [false, false]) (t := fun E => t_law_is_cut K (spOf K 3 φ_law_spells)) (fun vs hl E ξ => match vs, hl with | [v0, v1], _ => snd_law_is_cut φ_law_spells v0 v1 E ξ) h
def N_law_drawn_cut : List Str := ["_law_pool_here", "_law_letters_here", "_law_rows", "_law_number", "_law_row", "_law_at", "_law_turn", "_law_best", "_law_many"]
theorem st_law_drawn_cut {v0 v1 : V} : start N_law_drawn_cut [v0, v1] = [some v0, some v1, none, none, none, none, none, none, none] := rfl
def t_law_drawn_cut (K : PySem.W.Frag) (sp_law_longest : Sp) (sp_law_take : Sp) : TS := (tSeq (tAsg (tLst tNil) (gName 2)) (tSeq (tFor (iRng1 (tCons (tCB (rLn K) (tCons (tVar 1) tNil)) tNil)) (gName 3) (tSeq (tAsg (tLst tNil) (gName 4)) (tSeq (tAsg (tC (.int 0)) (gName 5)) (tSeq (tFor (iRng1 (tCons (tCB (rLn K) (tCons (tOp (rIx K) (tVar 1) (tVar 3)) tNil)) tNil)) (gName 6) (tIfS (tTest (tOp rLtI (tVar 5) (tCB (rLn K) (tCons (tOp (rIx K) (tVar 1) (tVar 3)) tNil)))) (tSeq (tAsg (tCall sp_law_longest [] E0 (tCons (tVar 1) (tCons (tVar 3) (tCons (tVar 5) tNil)))) (gName 7)) (tIfS (tOr (tTest (tOp rIsNone (tVar 7) (tC .non))) (tTest (tOp rEq (tCall sp_law_take [] E0 (tCons (tVar 0) (tCons (tC (.int 3)) tNil))) (tC (.int 0))))) (tSeq (tDrop (tBM K "list" rAppend (tVar 4) (tCons (tTup (tCons (tC (.str "letter")) (tCons (tOp (rIx K) (tOp (rIx K) (tVar 1) (tVar 3)) (tVar 5)) tNil))) tNil))) (tAsg (tOp rAddI (tVar 5) (tC (.int 1))) (gName 5))) (tSeq (tAsg (tOp rSubI (tOp (rIx K) (tVar 7) (tC (.int 3))) (tOp rMulI (tCall sp_law_take [] E0 (tCons (tVar 0) (tCons (tC (.int 2)) tNil))) (tCall sp_law_take [] E0 (tCons (tVar 0) (tCons (tOp (rIx K) (tVar 7) (tC (.int 3))) tNil))))) (gName 8)) (tSeq (tDrop (tBM K "list" rAppend (tVar 4) (tCons (tTup (tCons (tC (.str "copy")) (tCons (tOp (rIx K) (tVar 7) (tC (.int 1))) (tCons (tOp (rIx K) (tVar 7) (tC (.int 2))) (tCons (tVar 8) tNil))))) tNil))) (tAsg (tOp rAddI (tVar 5) (tVar 8)) (gName 5)))))) tNext)) (tDrop (tBM K "list" rAppend (tVar 2) (tCons (tCB (rTupleOf K) (tCons (tVar 4) tNil)) tNil))))))) (tRet (tCB (rTupleOf K) (tCons (tVar 2) tNil)))))
def s_law_drawn_cut (φ_law_longest : WF) (φ_law_take : WF) (ξ : Xi) : WS := (sSeq (sAsg (eLst aNil) (gNm 2)) (sSeq (sFor (iR1 (aCons (eB (bCB wLen (bCons (bVar 1) bNil))) aNil)) (gNm 3) (sSeq (sAsg (eLst aNil) (gNm 4)) (sSeq (sAsg (eB (bC (.int 0))) (gNm 5)) (sSeq (sFor (iR1 (aCons (eB (bCB wLen (bCons (bOp wIx (bVar 1) (bVar 3)) bNil))) aNil)) (gNm 6) (sIf (tB0 (bTest (bOp wLtI (bVar 5) (bCB wLen (bCons (bOp wIx (bVar 1) (bVar 3)) bNil))))) (sSeq (sAsg (eCall φ_law_longest [none, none, none] xNo (aCons (eFrz 1) (aCons (eFrz 3) (aCons (eFrz 5) aNil)))) (gNm 7)) (sIf (tOrr (tB0 (bTest (bOp (wIsN false) (bVar 7) (bC .non)))) (tTst (eOp (wEqB false) (eCall φ_law_take [some 0, none] xNo (aIo 0 (aCons (eB (bC (.int 3))) aNil))) (eB (bC (.int 0)))))) (sSeq (sDrop (eMs 4 mApp (aCons (eTup (aCons (eB (bC (.str "letter"))) (aCons (eB (bOp wIx (bOp wIx (bVar 1) (bVar 3)) (bVar 5))) aNil))) aNil))) (sAsg (eB (bOp wAddI (bVar 5) (bC (.int 1)))) (gNm 5))) (sSeq (sAsg (eOp wSubI (eB (bOp wIx (bVar 7) (bC (.int 3)))) (eOp wMulI (eCall φ_law_take [some 0, none] xNo (aIo 0 (aCons (eB (bC (.int 2))) aNil))) (eCall φ_law_take [some 0, none] xNo (aIo 0 (aCons (eB (bOp wIx (bVar 7) (bC (.int 3)))) aNil))))) (gNm 8)) (sSeq (sDrop (eMs 4 mApp (aCons (eTup (aCons (eB (bC (.str "copy"))) (aCons (eB (bOp wIx (bVar 7) (bC (.int 1)))) (aCons (eB (bOp wIx (bVar 7) (bC (.int 2)))) (aCons (eFrz 8) aNil))))) aNil))) (sAsg (eB (bOp wAddI (bVar 5) (bVar 8))) (gNm 5)))))) sNext)) (sDrop (eMs 2 mApp (aCons (eB (bCB wTupOf (bCons (bVar 4) bNil))) aNil))))))) (sRet (eB (bCB wTupOf (bCons (bVar 2) bNil))))))
theorem snd_law_drawn_cut {K : PySem.W.Frag} (φ_law_longest : WF) (φ_law_take : WF) (v0 v1 : V) (E : XK) (ξ : Xi) : SS K [some v0, none] (fun _ => E) ξ (t_law_drawn_cut K (spOf K 3 φ_law_longest) (spOf K 2 φ_law_take)) (s_law_drawn_cut φ_law_longest φ_law_take ξ) := by
  unfold t_law_drawn_cut s_law_drawn_cut
  exact (ss_seq (ss_asg (se_lst sa_nil) (sg_name (.inr rfl))) (ss_seq (ss_for (si_rng1 (sa_cons (se_b (sb_cb sr_len (sb_cons sb_var sb_nil))) sa_nil)) (sg_name (.inr rfl)) (ss_seq (ss_asg (se_lst sa_nil) (sg_name (.inr rfl))) (ss_seq (ss_asg (se_b sb_int) (sg_name (.inr rfl))) (ss_seq (ss_for (si_rng1 (sa_cons (se_b (sb_cb sr_len (sb_cons (sb_op sr_ix sb_var sb_var) sb_nil))) sa_nil)) (sg_name (.inr rfl)) (ss_if (st_b (sb_test (sb_op sr_ltI sb_var (sb_cb sr_len (sb_cons (sb_op sr_ix sb_var sb_var) sb_nil))))) (ss_seq (ss_asg (se_call rfl (sk_ex se_frz (sk_ex se_frz (sk_ex se_frz sk_nil)))) (sg_name (.inr rfl))) (ss_if (st_or (st_b (sb_test (sb_op sr_isN sb_var sb_non))) (st_test (se_op sr_eq (se_call rfl (sk_io (sk_ex (se_b sb_int) sk_nil))) (se_b sb_int)))) (ss_seq (ss_drop (se_ms sm_append (sa_cons (se_tup (sa_cons (se_b sb_str) (sa_cons (se_b (sb_op sr_ix (sb_op sr_ix sb_var sb_var) sb_var)) sa_nil))) sa_nil))) (ss_asg (se_b (sb_op sr_addI sb_var sb_int)) (sg_name (.inr rfl)))) (ss_seq (ss_asg (se_op sr_subI (se_b (sb_op sr_ix sb_var sb_int)) (se_op sr_mulI (se_call rfl (sk_io (sk_ex (se_b sb_int) sk_nil))) (se_call rfl (sk_io (sk_ex (se_b (sb_op sr_ix sb_var sb_int)) sk_nil))))) (sg_name (.inr rfl))) (ss_seq (ss_drop (se_ms sm_append (sa_cons (se_tup (sa_cons (se_b sb_str) (sa_cons (se_b (sb_op sr_ix sb_var sb_int)) (sa_cons (se_b (sb_op sr_ix sb_var sb_int)) (sa_cons se_frz sa_nil))))) sa_nil))) (ss_asg (se_b (sb_op sr_addI sb_var sb_var)) (sg_name (.inr rfl))))))) ss_next)) (ss_drop (se_ms sm_append (sa_cons (se_b (sb_cb sr_tupOf (sb_cons sb_var sb_nil))) sa_nil))))))) (ss_ret (se_b (sb_cb sr_tupOf (sb_cons sb_var sb_nil))))))
def v_law_drawn_cut (φ_law_longest : WF) (φ_law_take : WF) : WF := wf (s_law_drawn_cut φ_law_longest φ_law_take) [true, false] 9
theorem w_law_drawn_cut (φ_law_longest : WF) (φ_law_take : WF) (x0 x1 : Vl) (P : Vl → Ev → Prop) (PX : Xi) : v_law_drawn_cut φ_law_longest φ_law_take [x0, x1] P PX = s_law_drawn_cut φ_law_longest φ_law_take (fun C fs env => nOut [true, false] env (PX C fs)) (VE.mk (fun env => nOut [true, false] env (P .non)) (fun x env => nOut [true, false] env (P x)) (fun _ => False) (fun _ => False)) [some x0, some x1, none, none, none, none, none, none, none] := rfl
theorem pure_law_drawn_cut {K : PySem.W.Frag} (φ_law_longest : WF) (φ_law_take : WF) (vs : List V) (H : Hp) (Q : VK) (E : XK) (h : spOf K 2 (v_law_drawn_cut φ_law_longest φ_law_take) vs H Q E) : t_law_drawn_cut K (spOf K 3 φ_law_longest) (spOf K 2 φ_law_take) { nx := fun _ H' => Q .non H', rt := Q } (start N_law_drawn_cut vs) H :=
  body_ok (N := N_law_drawn_cut) (pn := [true, false]) (t := fun E => t_law_drawn_cut K (spOf K 3 φ_law_longest) (spOf K 2 φ_law_take)) (fun vs hl E ξ => match vs, hl with | [v0, v1], _ => snd_law_drawn_cut φ_law_longest φ_law_take v0 v1 E ξ) h
/-! ### the law's own cuts -/
def WsOk (m : Nat) (ws : List Tx) : Prop := ∀ w ∈ ws, w.length ≤ m ∧ ∀ c ∈ w, c ∈ signs
theorem WsOk.mono {m m' : Nat} {ws : List Tx} (h : WsOk m ws) (hm : m ≤ m') : WsOk m' ws := fun w hw => ⟨Nat.le_trans (h w hw).1 hm, (h w hw).2⟩
theorem WsOk.snoc {m : Nat} {ws : List Tx} {w : Tx} (h : WsOk m ws) (h1 : w.length ≤ m) (h2 : ∀ c ∈ w, c ∈ signs) : WsOk m (ws ++ [w]) := fun x hx => by
  rcases List.mem_append.mp hx with hx | hx
  · exact h x hx
  · rw [List.mem_singleton.mp hx]; exact ⟨h1, h2⟩
abbrev V_some : WF := v_law_some V_take V_drawn V_letters
theorem some_ok {z : Vl} [hP : PoolV z] {n : Nat} {P : Vl → Ev → Prop} {PX : Xi} (hn : n ≤ 15)
    (k : ∀ (ws : List Tx) z', ws.length = n → WsOk (60 + 22 * n) ws → PoolV z' → P (.lst true (ws.map txL)) [some z', none, none]) : V_some [z, .int (n : Int), .int 60] P PX := by
  unfold V_some
  rw [w_law_some]
  unfold s_law_some
  walk_at "vv"
  refine ⟨fun i env => ∃ (ws : List Tx) (z' : Vl) (o4 o5 o6 o7 o8 : Option Vl), env = [some z', some (.int (n : Int)), some (.int 60), some (.lst true (ws.map txL)), o4, o5, o6, o7, o8] ∧ ws.length = i ∧ WsOk (60 + 22 * i) ws ∧ PoolV z', ⟨[], z, _, _, _, _, _, rfl, rfl, (fun w h => by cases h), hP⟩, ?_, ?_⟩
  · rintro i y env hi rfl ⟨ws, z1, o4, o5, o6, o7, o8, rfl, hl, hw, hP1⟩
    walk_at "vv"
    refine take_ok (by decide) (by decide) fun kd z2 g0 g1 hP2 => ?_
    walk_at "vv"
    refine ifP (fun h => ?_) (fun h => ?_)
    · walk_at "vv"
      refine drawn_ok (m := 60) (by decide) (by decide) (by decide) fun rs ts z3 hP3 hT h1 h20 => ?_
      walk_at "vv"
      refine v_ixL (txs_last' (by have := hT.tab.ln; omega)) ?_
      walk_at "vv"
      refine v_app (by rw [List.length_map]; omega) ?_
      refine ⟨ws ++ [whole ts], _, _, _, _, _, _, by rw [List.map_append]; rfl, by simp [hl], WsOk.snoc (hw.mono (by omega)) (Nat.le_trans (hT.le _) (by omega)) (hT.signs _), hP3⟩
    · walk_at "vv"
      cases hws : ws with
      | nil =>
        subst hws
        refine (if_pos (show (List.map txL ([] : List Tx)).isEmpty = true from rfl)).mpr ?_
        walk_at "vv"
        refine drawn_ok (m := 60) (by decide) (by decide) (by decide) fun rs ts z3 hP3 hT h1 h20 => ?_
        walk_at "vv"
        refine v_ixL (txs_last' (by have := hT.tab.ln; omega)) ?_
        walk_at "vv"
        refine v_app (by decide) ?_
        refine ⟨[] ++ [whole ts], _, _, _, _, _, _, by rw [List.map_append]; rfl, by simp [hl], WsOk.snoc (hw.mono (by omega)) (Nat.le_trans (hT.le _) (by omega)) (hT.signs _), hP3⟩
      | cons w0 ws0 =>
        rw [← hws]
        rw [if_neg (by rw [hws]; simp)]
        have hn0 : 1 ≤ ws.length := by rw [hws]; simp
        walk_at "vv"
        rw [List.length_map]
        refine take_ok (by omega) (by omega) fun f z3 f0 f1 hP3 => ?_
        obtain ⟨f, rfl⟩ : ∃ n : Nat, f = (n : Int) := ⟨f.toNat, by omega⟩
        have hf : f < ws.length := by omega
        obtain ⟨hol, hos⟩ := hw _ (List.mem_of_getElem? (at_gt hf))
        walk_at "vv"
        refine v_ixL (txL_at hf) ?_
        walk_at "vv"
        refine v_lenS (by omega) ?_
        walk_at "vv"
        refine take_ok (by omega) (by omega) fun p z4 p0 p1 hP4 => ?_
        obtain ⟨p, rfl⟩ : ∃ n : Nat, p = (n : Int) := ⟨p.toNat, by omega⟩
        walk_at "vv"
        refine v_lenS (by omega) ?_
        walk_at "vv"
        refine take_ok (by omega) (by omega) fun q z5 q0 q1 hP5 => ?_
        obtain ⟨q, rfl⟩ : ∃ n : Nat, q = (n : Int) := ⟨q.toNat, by omega⟩
        walk_at "vv"
        rw [show (p : Int) + (q : Int) = ((p + q : Nat) : Int) by omega]
        refine v_cutS (by omega) cutS_nat ?_
        walk_at "vv"
        refine bletters_ok (most := 3) (by decide) fun w3 z6 hw3 hs3 hP6 => ?_
        walk_at "vv"
        refine v_addS (by rw [cut_len (by omega)]; omega) ?_
        walk_at "vv"
        refine v_cutS (by omega) cutS_to ?_
        walk_at "vv"
        refine take_ok (by decide) (by decide) fun r z7 r0 r1 hP7 => ?_
        obtain ⟨r, rfl⟩ : ∃ n : Nat, r = (n : Int) := ⟨r.toNat, by omega⟩
        walk_at "vv"
        refine v_cutS (by rw [List.length_take]; omega) cutS_to ?_
        walk_at "vv"
        have hl1 : ((List.drop p (List.take (p + q) (gt ws f))) ++ w3).length ≤ 60 + 22 * i + 3 := by rw [List.length_append, cut_len (by omega)]; omega
        have hl2 : (List.take r (List.take p (gt ws f))).length ≤ 19 := by rw [List.length_take]; omega
        refine v_addS (by omega) ?_
        walk_at "vv"
        refine v_app (by rw [List.length_map]; omega) ?_
        refine ⟨ws ++ [_], _, _, _, _, _, _, by rw [List.map_append]; rfl, by simp [hl], WsOk.snoc (hw.mono (by omega)) (by rw [List.length_append]; omega) ?_, hP7⟩
        intro c hc
        rcases List.mem_append.mp hc with hc | hc
        · rcases List.mem_append.mp hc with hc | hc
          · exact hos c (List.mem_of_mem_take (List.mem_of_mem_drop hc))
          · exact hs3 c hc
        · exact hos c (List.mem_of_mem_take (List.mem_of_mem_take hc))
  · rintro env ⟨ws, z1, o4, o5, o6, o7, o8, rfl, hl, hw, hP1⟩
    walk_at "vv"
    exact k ws z1 (by omega) (by rw [show n = ((n : Int) ).toNat by omega]; exact hw) hP1
abbrev V_texts : WF := v_law_texts V_Text_init V_other
theorem texts_ok {z : Vl} [hP : PoolV z] {ws : List Tx} {P : Vl → Ev → Prop} {PX : Xi} (hc : ws.length ≤ 1000) (hw : WsOk 400 ws)
    (k : ∀ (xs : List RT) z', rtW xs = ws → (∀ p ∈ xs, TxK p.1 p.2) → PoolV z' → P (.lst true (xs.map rtV)) [some z', none]) : V_texts [z, .lst false (ws.map txL)] P PX := by
  unfold V_texts
  rw [w_law_texts]
  unfold s_law_texts
  walk_at "vv"
  refine ⟨by rw [List.length_map]; omega, fun i acc env => ∃ (xs : List RT) (z' : Vl) (o2 : Option Vl), acc = xs.map rtV ∧ env = [some z', some (.lst false (ws.map txL)), o2] ∧ rtW xs = ws.take i ∧ (∀ p ∈ xs, TxK p.1 p.2) ∧ PoolV z', ⟨[], z, _, rfl, rfl, rfl, (fun p h => by cases h), hP⟩, ?_, ?_⟩
  · rintro i y acc env hi hy ha ⟨xs, z1, o2, rfl, rfl, hx, hk, hP1⟩
    rw [List.getElem?_map] at hy
    obtain ⟨w, hwi, rfl⟩ := Option.map_eq_some_iff.mp hy
    obtain ⟨hwl, hws⟩ := hw w (List.mem_of_getElem? hwi)
    show gNm 2 (.str (S w)) _ _
    walk_at "vv"
    refine other_ok (m := 400) (by decide) (by decide) hwl hwl hws fun rs ts z2 hP2 hT hwh h1 h60 => ?_
    have kt : TxK rs ts := ⟨hT.tab, h1, by omega⟩
    walk_at "vv"
    refine Text_init_ok (b := true) kt (by omega) ?_
    walk_at "vv"
    refine ⟨xs ++ [(rs, ts)], z2, none, ?_, ?_, ?_, ?_, hP2⟩
    · rw [List.map_append]; rfl
    · rfl
    · unfold rtW at hx ⊢
      rw [List.map_append, hx, take_one hwi, ← hwh]; rfl
    · intro p hp
      rcases List.mem_append.mp hp with hp | hp
      · exact hk p hp
      · rw [List.mem_singleton.mp hp]; exact kt
  · rintro acc env ha ⟨xs, z1, o2, rfl, rfl, hx, hk, hP1⟩
    simp only [restE, wipeE, List.set_cons_succ, List.set_cons_zero, List.getElem?_cons_succ, List.getElem?_cons_zero, Option.getD_some]
    walk_at "vv"
    exact k xs z1 (by rw [hx, List.length_map, List.take_of_length_le (Nat.le_refl _)]) hk hP1

abbrev V_longest : WF := v_law_longest
def LngOk (ts : List Tx) (n a : Nat) (x : Vl) : Prop := x = .non ∨ ∃ s b m : Nat, 2 ≤ m ∧ x = .tup [.str "copy", .int (s : Int), .int (b : Int), .int (m : Int)] ∧ CpOk ts n a s b m
theorem longest_ok {ts : List Tx} {n a : Nat} {P : Vl → Ev → Prop} {PX : Xi} (hn : n < ts.length) (hl : ∀ i, (gt ts i).length ≤ 5000) (hc : ts.length ≤ 1000) (ha : a < (gt ts n).length)
    (k : ∀ x, LngOk ts n a x → P x [none, none, none]) : V_longest [.lst false (ts.map txL), .int (n : Int), .int (a : Int)] P PX := by
  have hln := hl n
  unfold V_longest
  rw [w_law_longest]
  unfold s_law_longest
  walk_at "vv"
  refine v_ixL (txL_at hn) ?_
  walk_at "vv"
  refine ⟨fun i env => ∃ (x : Vl) (o5 o6 o7 o8 : Option Vl), env = [some (.lst false (ts.map txL)), some (.int (n : Int)), some (.int (a : Int)), some (.str (S (gt ts n))), some x, o5, o6, o7, o8] ∧ LngOk ts n a x, ⟨_, _, _, _, _, rfl, .inl rfl⟩, ?_, ?_⟩
  · rintro i y env hi rfl ⟨x, o5, o6, o7, o8, rfl, hx⟩
    have hi' : i ≤ n := by omega
    have hli := hl i
    have e0 : atI (ts.map txL) (0 + (i : Int)) = some (.str (S (gt ts i))) := by rw [Int.zero_add]; exact txL_at (by omega)
    walk_at "vv"
    refine ⟨fun env => ∃ L : Nat, env = [some (.lst false (ts.map txL)), some (.int (n : Int)), some (.int (a : Int)), some (.str (S (gt ts n))), some x, some (.int (0 + (i : Int))), some (.int (L : Int)), o7, o8] ∧ L ≤ 5000 ∧ (i = n → L ≤ a), ?_, ?_⟩
    · walk_at "vv"
      refine ifP (fun h => ?_) (fun h => ?_)
      · walk_at "vv"
        exact ⟨a, rfl, by omega, fun _ => Nat.le_refl _⟩
      · walk_at "vv"
        refine v_ixL e0 ?_
        walk_at "vv"
        refine v_lenS (by omega) ?_
        walk_at "vv"
        exact ⟨_, rfl, hli, fun e => by omega⟩
    rintro env ⟨L, rfl, hL, hLn⟩
    walk_at "vv"
    refine ⟨fun j env => ∃ (x : Vl) (o7 o8 : Option Vl), env = [some (.lst false (ts.map txL)), some (.int (n : Int)), some (.int (a : Int)), some (.str (S (gt ts n))), some x, some (.int (0 + (i : Int))), some (.int (L : Int)), o7, o8] ∧ LngOk ts n a x, ⟨x, _, _, rfl, hx⟩, ?_, ?_⟩
    · rintro b y env hb rfl ⟨x, o7, o8, rfl, hx⟩
      have hbL : b < L := by omega
      walk_at "vv"
      refine ⟨fun env => ∃ m : Nat, env = [some (.lst false (ts.map txL)), some (.int (n : Int)), some (.int (a : Int)), some (.str (S (gt ts n))), some x, some (.int (0 + (i : Int))), some (.int (L : Int)), some (.int (0 + (b : Int))), some (.int (m : Int))] ∧ a + m ≤ (gt ts n).length ∧ (b + m ≤ (gt ts i).length ∨ m = 0) ∧ (∀ k, k < m → (gt ts i)[b + k]? = (gt ts n)[a + k]?), ?_, ?_⟩
      · walk_at "vv"
        refine ⟨fun j env => ∃ m : Nat, env = [some (.lst false (ts.map txL)), some (.int (n : Int)), some (.int (a : Int)), some (.str (S (gt ts n))), some x, some (.int (0 + (i : Int))), some (.int (L : Int)), some (.int (0 + (b : Int))), some (.int (m : Int))] ∧ a + m ≤ (gt ts n).length ∧ (b + m ≤ (gt ts i).length ∨ m = 0) ∧ (∀ k, k < m → (gt ts i)[b + k]? = (gt ts n)[a + k]?) ∧ j = (gt ts n).length - m, ⟨_, 0, rfl, by omega, .inr rfl, (fun k hk => by omega), rfl⟩, ?_⟩
        rintro j env ⟨m, rfl, m1, m2, m3, rfl⟩
        walk_at "vv"
        refine v_lenS (by omega) ?_
        walk_at "vv"
        refine ifP (fun h => ?_) (fun h => by walk_at "vv"; exact ⟨m, rfl, m1, m2, m3⟩)
        walk_at "vv"
        refine v_ixL e0 ?_
        walk_at "vv"
        refine v_lenS (by omega) ?_
        walk_at "vv"
        refine ifP (fun h2 => ?_) (fun h2 => by walk_at "vv"; exact ⟨m, rfl, m1, m2, m3⟩)
        have hb' : b + m < (gt ts i).length := by omega
        have ha' : a + m < (gt ts n).length := by omega
        walk_at "vv"
        refine v_ixL e0 ?_
        walk_at "vv"
        rw [show (0 + (b : Int)) + (m : Int) = ((b + m : Nat) : Int) by omega]
        refine v_ixS (by omega) (atI_nat (List.getElem?_eq_getElem hb')) ?_
        walk_at "vv"
        rw [show (a : Int) + (m : Int) = ((a + m : Nat) : Int) by omega]
        refine v_ixS (by omega) (atI_nat (List.getElem?_eq_getElem ha')) ?_
        walk_at "vv"
        refine ifP (fun e => ?_) (fun e => by walk_at "vv"; exact ⟨m, rfl, m1, m2, m3⟩)
        walk_at "vv"
        refine ⟨_, ?_, m + 1, rfl, by omega, .inl (by omega), fun k hk => ?_, rfl⟩
        · omega
        · by_cases hk' : k < m
          · exact m3 k hk'
          · obtain rfl : k = m := by omega
            rw [List.getElem?_eq_getElem hb', List.getElem?_eq_getElem ha']
            have := SX.S_inj e
            rw [List.cons.injEq] at this
            rw [this.1]
      rintro env ⟨m, rfl, m1, m2, m3⟩
      have put : 1 < m → LngOk ts n a (.tup [.str "copy", .int (0 + (i : Int)), .int (0 + (b : Int)), .int (m : Int)]) := fun h => .inr ⟨i, b, m, by omega, by rw [Int.zero_add, Int.zero_add], by omega, hi', fun e => by have := hLn e; omega, m1, by omega, m3⟩
      walk_at "vv"
      refine ifP (fun h => ?_) (fun h => ?_)
      · rcases hx with rfl | ⟨s', b', m', h2, rfl, hcp⟩
        · walk_at "vv"
          exact ⟨_, _, _, rfl, put (by omega)⟩
        · walk_at "vv"
          refine ifP (fun h3 => ?_) (fun h3 => ?_)
          · walk_at "vv"
            exact ⟨_, _, _, rfl, put (by omega)⟩
          · walk_at "vv"
            exact ⟨_, _, _, rfl, .inr ⟨s', b', m', h2, rfl, hcp⟩⟩
      · walk_at "vv"
        exact ⟨x, _, _, rfl, hx⟩
    · rintro env ⟨x, o7, o8, rfl, hx⟩
      walk_at "vv"
      exact ⟨x, _, _, _, _, rfl, hx⟩
  · rintro env ⟨x, o5, o6, o7, o8, rfl, hx⟩
    walk_at "vv"
    exact k x hx

theorem str_cl : ¬ (("copy" : Str) = "letter") := by decide +kernel
theorem drop_one {A : Type} {l : List A} {i : Nat} {p : A} (h : l[i]? = some p) : l.drop i = p :: l.drop (i + 1) := by
  obtain ⟨hl, rfl⟩ := List.getElem?_eq_some_iff.mp h
  exact (List.drop_eq_getElem_cons hl)
theorem take_cp {ts : List Tx} {n a s b m : Nat} (h : CpOk ts n a s b m) : (gt ts n).take a ++ ((gt ts s).take (b + m)).drop b = (gt ts n).take (a + m) := by
  rw [show ((gt ts s).take (b + m)).drop b = ((gt ts s).drop b).take m by rw [List.drop_take, Nat.add_sub_cancel_left], take_eq.mpr h.2.2.2.2.2, List.take_add]
abbrev V_spells : WF := v_law_spells
theorem spells_ok {ts : List Tx} {n : Nat} {ps : List Ph} {P : Vl → Ev → Prop} {PX : Xi} (hn : n < ts.length) (hl : ∀ i, (gt ts i).length ≤ 5000) (hc : ts.length ≤ 1000) (hp : Pth (PhOk ts n) 0 ps (gt ts n).length)
    (k : P (.str (S (gt ts n))) [none, none, none]) : V_spells [.lst false (ts.map txL), .int (n : Int), rowV ps] P PX := by
  have hln := hl n
  unfold V_spells
  rw [w_law_spells]
  unfold s_law_spells
  unfold rowV
  walk_at "vv"
  rw [empty_eq1]
  refine ⟨fun i env => ∃ (a : Nat) (o4 o5 o6 : Option Vl), env = [some (.lst false (ts.map txL)), some (.int (n : Int)), some (.tup (ps.map phV)), some (.str (S ((gt ts n).take a))), o4, o5, o6] ∧ Pth (PhOk ts n) a (ps.drop i) (gt ts n).length, ⟨0, _, _, _, rfl, hp⟩, ?_, ?_⟩
  · rintro i y env hi hy ⟨a, o4, o5, o6, rfl, hpt⟩
    rw [List.getElem?_map] at hy
    obtain ⟨p, hpi, rfl⟩ := Option.map_eq_some_iff.mp hy
    rw [drop_one hpi] at hpt
    obtain ⟨h1, h2⟩ : PhOk ts n a p ∧ Pth (PhOk ts n) (a + p.sz) (ps.drop (i + 1)) (gt ts n).length := by cases hpt with | cons h1 h2 => exact ⟨h1, h2⟩
    have hae := h1.end
    cases p with
    | lt c =>
      have h1' : (gt ts n)[a]? = some c := h1
      rw [show phV (.lt c) = .tup [.str "letter", .str (S [c])] from rfl]
      walk_at "vv"
      refine ifPT rfl ?_
      walk_at "vv"
      refine v_addS (by rw [List.length_take]; simp; omega) ?_
      walk_at "vv"
      exact ⟨a + 1, _, _, _, by rw [take_one h1'], h2⟩
    | cp s b m =>
      have h1' : CpOk ts n a s b m := h1
      have hm1 := h1'.1
      have hsn := h1'.2.1
      have hlb := h1'.2.2.2.2.1
      have hls := hl s
      have hsz : (Ph.cp s b m).sz = m := rfl
      have e0 : atI (ts.map txL) (s : Int) = some (.str (S (gt ts s))) := txL_at (by omega)
      rw [show phV (.cp s b m) = .tup [.str "copy", .int (s : Int), .int (b : Int), .int (m : Int)] from rfl]
      walk_at "vv"
      refine ifPF str_cl ?_
      walk_at "vv"
      refine ifPF (by omega) ?_
      walk_at "vv"
      refine ifPF (by omega) ?_
      walk_at "vv"
      refine ifPF (by omega) ?_
      walk_at "vv"
      refine ifPF (by omega) ?_
      walk_at "vv"
      refine ifP (fun hs => ?_) (fun hs => ?_)
      · walk_at "vv"
        refine v_ixL e0 ?_
        walk_at "vv"
        refine v_lenS (by omega) ?_
        walk_at "vv"
        refine ifPF (by omega) ?_
        walk_at "vv"
        refine v_ixL e0 ?_
        walk_at "vv"
        rw [show (b : Int) + (m : Int) = ((b + m : Nat) : Int) by omega]
        refine v_cutS (by omega) cutS_nat ?_
        walk_at "vv"
        refine v_addS (by rw [List.length_take, cut_len hlb]; omega) ?_
        walk_at "vv"
        exact ⟨a + m, _, _, _, by rw [take_cp h1'], h2⟩
      · obtain rfl : s = n := by omega
        have hba := h1'.2.2.1 rfl
        have htl : ((gt ts s).take a).length = a := by rw [List.length_take]; omega
        walk_at "vv"
        refine v_lenS (by omega) ?_
        rw [htl]
        walk_at "vv"
        refine ifPF (by omega) ?_
        walk_at "vv"
        refine v_lenS (by omega) ?_
        rw [htl]
        walk_at "vv"
        refine v_ixL e0 ?_
        walk_at "vv"
        refine v_lenS (by omega) ?_
        walk_at "vv"
        refine ifPF (by omega) ?_
        walk_at "vv"
        rw [show ((m : Int)).toNat = m by omega]
        refine ⟨fun j env => ∃ o6, env = [some (.lst false (ts.map txL)), some (.int (s : Int)), some (.tup (ps.map phV)), some (.str (S ((gt ts s).take (a + j)))), some (.tup [.str "copy", .int (s : Int), .int (b : Int), .int (m : Int)]), some (.int (s : Int)), o6], ⟨_, rfl⟩, ?_, ?_⟩
        · rintro j y env hj rfl ⟨o6, rfl⟩
          have htj : ((gt ts s).take (a + j)).length = a + j := by rw [List.length_take]; omega
          have hbj : b + j < ((gt ts s).take (a + j)).length := by omega
          have haj : a + j < (gt ts s).length := by omega
          have hbl : b + j < (gt ts s).length := by omega
          walk_at "vv"
          rw [show (b : Int) + (0 + (j : Int)) = ((b + j : Nat) : Int) by omega]
          refine v_ixS (by omega) (atI_nat (List.getElem?_eq_getElem hbj)) ?_
          walk_at "vv"
          refine v_addS (by simp; omega) ?_
          walk_at "vv"
          refine ⟨some (.int (0 + (j : Int))), ?_⟩
          have e := h1'.2.2.2.2.2 j hj
          rw [List.getElem?_eq_getElem hbl] at e
          rw [show a + (j + 1) = (a + j) + 1 by omega, take_one e.symm, List.getElem_take]
        · rintro env ⟨o6, rfl⟩
          walk_at "vv"
          exact ⟨a + m, _, _, _, rfl, h2⟩
  · rintro env ⟨a, o4, o5, o6, rfl, hpt⟩
    rw [List.length_map, List.drop_of_length_le (Nat.le_refl _)] at hpt
    cases hpt
    rw [List.take_of_length_le (Nat.le_refl _)]
    walk_at "vv"
    exact k

/-- rows that spell the texts -/
def RowsOk (ts : List Tx) (rows : List (List Ph)) : Prop := rows.length = ts.length ∧ ∀ n ps, rows[n]? = some ps → Pth (PhOk ts n) 0 ps (gt ts n).length
abbrev V_is_cut : WF := v_law_is_cut V_spells
theorem is_cut_ok {ts : List Tx} {rows : List (List Ph)} {P : Vl → Ev → Prop} {PX : Xi} (hl : ∀ i, (gt ts i).length ≤ 5000) (hc : ts.length ≤ 1000) (hr : RowsOk ts rows)
    (k : P (.bl true) [none, none]) : V_is_cut [.lst false (ts.map txL), cutV rows] P PX := by
  have hrl := hr.1
  unfold V_is_cut
  rw [w_law_is_cut]
  unfold s_law_is_cut
  unfold cutV
  walk_at "vv"
  refine ifNF (by rw [List.length_map, List.length_map]; omega) ?_
  walk_at "vv"
  rw [List.length_map]
  refine v_r1 (by omega) (by omega) ?_
  rw [show ((ts.length : Nat) : Int).toNat = ts.length by omega]
  refine ⟨by omega, fun i acc env => ∃ o2, acc = (List.replicate i true).map Vl.bl ∧ env = [some (.lst false (ts.map txL)), some (.tup (rows.map rowV)), o2], ⟨_, rfl, rfl⟩, ?_, ?_⟩
  · rintro i y acc env hi rfl ha ⟨o2, rfl, rfl⟩
    have hir : i < rows.length := by omega
    have e0 : atI (ts.map txL) (0 + (i : Int)) = some (.str (S (gt ts i))) := by rw [Int.zero_add]; exact txL_at (by omega)
    have e1 : atI (rows.map rowV) (0 + (i : Int)) = some (rowV rows[i]) := by rw [Int.zero_add]; exact atI_nat (by rw [List.getElem?_map, List.getElem?_eq_getElem hir]; rfl)
    walk_at "vv"
    refine v_ixT e1 ?_
    walk_at "vv"
    rw [Int.zero_add]
    refine spells_ok (by omega) hl hc (hr.2 i _ (List.getElem?_eq_getElem hir)) ?_
    walk_at "vv"
    refine v_ixL (txL_at (by omega)) ?_
    walk_at "vv"
    refine ⟨none, ?_, rfl⟩
    rw [List.replicate_succ', List.map_append]
    simp
  · rintro acc env ha ⟨o2, rfl, rfl⟩
    simp only [restE, wipeE, List.set_cons_succ, List.set_cons_zero, List.getElem?_cons_succ, List.getElem?_cons_zero, Option.getD_some]
    walk_at "vv"
    refine ⟨_, List.replicate ts.length true, rfl, ?_⟩
    rw [show (List.replicate ts.length true).all id = true by simp]
    walk_at "vv"
    exact k
abbrev V_drawn_cut : WF := v_law_drawn_cut V_longest V_take
theorem drawn_cut_ok {z : Vl} [hP : PoolV z] {ts : List Tx} {P : Vl → Ev → Prop} {PX : Xi} (hl : ∀ i, (gt ts i).length ≤ 5000) (hc : ts.length ≤ 1000)
    (k : ∀ rows z', RowsOk ts rows → PoolV z' → P (cutV rows) [some z', none]) : V_drawn_cut [z, .lst false (ts.map txL)] P PX := by
  unfold V_drawn_cut
  rw [w_law_drawn_cut]
  unfold s_law_drawn_cut
  walk_at "vv"
  rw [List.length_map]
  refine v_r1 (by omega) (by omega) ?_
  rw [show ((ts.length : Nat) : Int).toNat = ts.length by omega]
  refine ⟨fun i env => ∃ (rows : List (List Ph)) (z' : Vl) (o3 o4 o5 o6 o7 o8 : Option Vl), env = [some z', some (.lst false (ts.map txL)), some (.lst true (rows.map rowV)), o3, o4, o5, o6, o7, o8] ∧ rows.length = i ∧ (∀ n ps, rows[n]? = some ps → Pth (PhOk ts n) 0 ps (gt ts n).length) ∧ PoolV z', ⟨[], z, _, _, _, _, _, _, rfl, rfl, (fun n ps h => by cases h), hP⟩, ?_, ?_⟩
  · rintro i y env hi rfl ⟨rows, z1, o3, o4, o5, o6, o7, o8, rfl, hrl, hrows, hP1⟩
    have hli := hl i
    have e0 : atI (ts.map txL) (0 + (i : Int)) = some (.str (S (gt ts i))) := by rw [Int.zero_add]; exact txL_at hi
    walk_at "vv"
    refine v_ixL e0 ?_
    walk_at "vv"
    refine v_lenS (by omega) ?_
    walk_at "vv"
    refine ⟨fun t env => ∃ (ps : List Ph) (a : Nat) (z' : Vl) (o6 o7 o8 : Option Vl), env = [some z', some (.lst false (ts.map txL)), some (.lst true (rows.map rowV)), some (.int (0 + (i : Int))), some (.lst true (ps.map phV)), some (.int (a : Int)), o6, o7, o8] ∧ Pth (PhOk ts i) 0 ps a ∧ ps.length ≤ a ∧ a ≤ (gt ts i).length ∧ (t ≤ a) ∧ PoolV z', ⟨[], 0, z1, _, _, _, rfl, .nil 0, Nat.le_refl _, Nat.zero_le _, Nat.le_refl _, hP1⟩, ?_, ?_⟩
    · rintro t y env ht rfl ⟨ps, a, z2, o6, o7, o8, rfl, hp, hpl, ha, hta, hP2⟩
      walk_at "vv"
      refine v_ixL e0 ?_
      walk_at "vv"
      refine v_lenS (by omega) ?_
      walk_at "vv"
      refine ifP (fun h => ?_) (fun h => ?_)
      · have hal : a < (gt ts i).length := by omega
        walk_at "vv"
        rw [Int.zero_add]
        refine longest_ok hi hl hc hal fun x hx => ?_
        rcases hx with rfl | ⟨s, b, m, hm2, rfl, hcp⟩
        · walk_at "vv"
          refine v_ixL (txL_at hi) ?_
          walk_at "vv"
          refine v_ixS (by omega) (atI_nat (List.getElem?_eq_getElem hal)) ?_
          walk_at "vv"
          refine v_app (by rw [List.length_map]; omega) ?_
          walk_at "vv"
          exact ⟨ps ++ [Ph.lt (gt ts i)[a]], a + 1, _, _, _, _, by rw [List.map_append]; rfl, hp.snoc (List.getElem?_eq_getElem hal), by simp; omega, by omega, by omega, hP2⟩
        · have hm1 := hcp.2.2.2.1
          walk_at "vv"
          refine take_ok (by decide) (by decide) fun c z3 c0 c1 hP3 => ?_
          walk_at "vv"
          refine ifP (fun h3 => ?_) (fun h3 => ?_)
          · walk_at "vv"
            refine v_ixL (txL_at hi) ?_
            walk_at "vv"
            refine v_ixS (by omega) (atI_nat (List.getElem?_eq_getElem hal)) ?_
            walk_at "vv"
            refine v_app (by rw [List.length_map]; omega) ?_
            walk_at "vv"
            exact ⟨ps ++ [Ph.lt (gt ts i)[a]], a + 1, _, _, _, _, by rw [List.map_append]; rfl, hp.snoc (List.getElem?_eq_getElem hal), by simp; omega, by omega, by omega, hP3⟩
          · walk_at "vv"
            refine take_ok (by decide) (by decide) fun u z4 u0 u1 hP4 => ?_
            obtain ⟨u, rfl⟩ : ∃ n : Nat, u = (n : Int) := ⟨u.toNat, by omega⟩
            walk_at "vv"
            refine take_ok (by omega) (by omega) fun v z5 v0 v1 hP5 => ?_
            obtain ⟨v, rfl⟩ : ∃ n : Nat, v = (n : Int) := ⟨v.toNat, by omega⟩
            walk_at "vv"
            walk_at "vv"
            have huv : u * v ≤ v := by
              have : u = 0 ∨ u = 1 := by omega
              rcases this with rfl | rfl
              · omega
              · omega
            walk_at "vv"
            rw [show (m : Int) - (u : Int) * (v : Int) = ((m - u * v : Nat) : Int) by rw [← Int.natCast_mul]; omega]
            refine v_app (by rw [List.length_map]; omega) ?_
            walk_at "vv"
            exact ⟨ps ++ [Ph.cp s b (m - u * v)], a + (m - u * v), _, _, _, _, by rw [List.map_append]; rfl, hp.snoc (p := Ph.cp s b (m - u * v)) (hcp.pre (by omega) (by omega)), by simp; omega, by omega, by omega, hP5⟩
      · walk_at "vv"
        exact ⟨ps, a, z2, _, _, _, rfl, hp, hpl, ha, by omega, hP2⟩
    · rintro env ⟨ps, a, z2, o6, o7, o8, rfl, hp, hpl, ha, hta, hP2⟩
      obtain rfl : a = (gt ts i).length := by omega
      walk_at "vv"
      refine v_app (by rw [List.length_map]; omega) ?_
      refine ⟨rows ++ [ps], z2, _, _, _, _, _, _, by rw [List.map_append]; rfl, by simp [hrl], fun n qs h => ?_, hP2⟩
      by_cases hn : n < rows.length
      · exact hrows n qs (by rw [List.getElem?_append_left hn] at h; exact h)
      · rw [List.getElem?_append_right (by omega)] at h
        have h0 : n - rows.length = 0 := by
          have := (List.getElem?_eq_some_iff.mp h).1
          simp at this; omega
        rw [h0] at h
        obtain rfl : ps = qs := Option.some.inj h
        obtain rfl : n = i := by omega
        exact hp
  · rintro env ⟨rows, z1, o3, o4, o5, o6, o7, o8, rfl, hrl, hrows, hP1⟩
    walk_at "vv"
    exact k rows z1 ⟨hrl, hrows⟩ hP1
end Tr
end Sh


set_option Elab.async false
set_option linter.all false
set_option maxRecDepth 100000
set_option maxHeartbeats 4000000
/-! # The law's end: a script of numbers -/
namespace Sh
open PySem PySem.Spec PyProof.Rows L2
open SX (S)
namespace Tr
section
variable {K : PySem.W.Frag}
theorem spNo {n : Nat} {vs : List V} {H : Hp} {Q : VK} {E : XK} (h : spOf K n noF vs H Q E) : False := by
  obtain ⟨_, _, _, _, _, _, _, _, h, _⟩ := h
  exact h
def sp_script (K : PySem.W.Frag) : Sp := fun vs H Q _ => ∃ (a : Addr) (ns : List Int), vs = [.ref a] ∧ SqL K H a (ns.map V.int) ∧ ns.length ≤ 63 ∧ ∀ H', Q (.bl true) H'
theorem br_script {φ : WF} (hn : hasP K = false) (hφ : ∀ ns : List Int, ns.length ≤ 63 → φ [.scr ns] (fun x _ => x = .bl true) (fun _ _ _ => False)) (vs : List V) (H : Hp) (Q : VK) (E : XK) (h : sp_script K vs H Q E) : spOf K 1 φ vs H Q E := by
  obtain ⟨a, ns, rfl, hS, hl, k⟩ := h
  refine ⟨H, [], [.scr ns], fun x _ => x = .bl true, fun _ _ _ => False, rfl, (fun e => absurd e (by rw [hn]; exact Bool.false_ne_true) : TabIn K []), ⟨H, [], [], Same.refl H, PinOk.nil, RepA.one (.scr hS), .nil, Hs.start⟩, hφ ns hl, ?_, fun _ _ _ _ _ _ h => h.elim⟩
  rintro x ev v H' rfl ⟨F, N, M, e, hp, hA, he, hs⟩
  cases hA with
  | cons r _ =>
    cases r
    exact k H'
/-- .. with the table of the lambda's codes, still empty -/
def sp_scriptT (K : PySem.W.Frag) : Sp := fun vs H Q _ => ∃ (a : Addr) (ns : List Int), vs = [.ref a] ∧ SqL K H a (ns.map V.int) ∧ ns.length ≤ 63 ∧ H (tabP K) = some (.tbl #[]) ∧ ∀ H', Q (.bl true) H'
theorem br_scriptT {φ : WF} (hφ : ∀ ns : List Int, ns.length ≤ 63 → φ [.scr ns] (fun x _ => x = .bl true) (fun _ _ _ => False)) (vs : List V) (H : Hp) (Q : VK) (E : XK) (h : sp_scriptT K vs H Q E) : spOf K 1 φ vs H Q E := by
  obtain ⟨a, ns, rfl, hS, hl, hT, k⟩ := h
  generalize hP : tabP K = P at hT
  let F : Hp := fun b => if b = P then none else H b
  have eF : Same F H := fun b o e => by
    by_cases hb : b = P
    · rw [show F b = none from if_pos hb] at e; cases e
    · rw [show F b = H b from if_neg hb] at e; exact e
  have hS' : SqL K F a (ns.map V.int) := by
    have key : ∀ b o, H b = some o → o ≠ .tbl #[] → F b = some o := fun b o e hn => by
      rw [show F b = H b from if_neg fun z => by rw [z, hT] at e; exact hn (Option.some.inj e).symm]; exact e
    rcases hS with (h | ⟨o, h⟩) | h
    · exact .inl (.inl (key _ _ h (by simp)))
    · exact .inl (.inr ⟨o, key _ _ h (by simp)⟩)
    · exact .inr h
  have hs : Hs F [(P, .tbl #[])] H := by
    refine ⟨eF, fun i p o e => ?_, fun i p o e => ?_, fun i j p o o' e e' => ?_⟩
    · cases i with
      | zero =>
        simp at e; obtain ⟨rfl, rfl⟩ := e
        exact ⟨#[], hT, trivial, fun pos cv h => by simp [codeAmong] at h⟩
      | succ i => simp at e
    · cases i with
      | zero => simp at e; obtain ⟨rfl, rfl⟩ := e; exact if_pos rfl
      | succ i => simp at e
    · cases i with
      | zero => cases j with
        | zero => rfl
        | succ j => simp at e'
      | succ i => simp at e
  refine ⟨F, [(P, .tbl #[])], [.scr ns], fun x _ => x = .bl true, fun _ _ _ => False, rfl, (fun _ => ⟨#[], by rw [hP]; simp⟩ : TabIn K [(P, .tbl #[])]), ⟨F, [], [], Same.refl F, PinOk.nil, RepA.one (.scr hS'), .nil, hs⟩, hφ ns hl, ?_, fun _ _ _ _ _ _ h => h.elim⟩
  rintro x ev v H' rfl ⟨F, N, M, e, hp, hA, he, hs⟩
  cases hA with
  | cons r _ =>
    cases r
    exact k H'
end
end Tr
end Sh


set_option Elab.async false
set_option linter.all false
set_option maxRecDepth 100000
set_option maxHeartbeats 4000000
namespace Sh
open PySem PySem.Spec PyProof.Rows L2
open SX (S)
namespace Tr
set_option synthInstance.maxSize 4096
set_option synthInstance.maxHeartbeats 400000
local macro_rules | `(tactic| walk_at "vv1") => `(tactic| first
  | refine go ?_
  | (with_reducible refine v_mulL (by omega) (by omega) ?_) | (with_reducible refine v_mulR (by omega) (by omega) ?_) | (with_reducible refine v_divI (by omega) (by omega) ?_) | (with_reducible refine v_modI (by omega) ?_)
  | (with_reducible refine v_r1 (by omega) (by omega) ?_) | (with_reducible refine v_r2 (by omega) (by omega) (by omega) (by omega) ?_))
local macro_rules | `(tactic| walk_at "vv") => `(tactic| repeat (walk_at "vv1"))
def N_law : List Str := ["_law_script", "_law_pool_here", "_law_letters_here", "_law_texts_here", "_law_told", "_law_other_here", "_law_one", "_law_both", "_law_row"]
theorem st_law {v0 : V} : start N_law [v0] = [some v0, none, none, none, none, none, none, none, none] := rfl
def t_law (K : PySem.W.Frag) (sp_law_pool : Sp) (sp_law_some : Sp) (sp_law_take : Sp) (sp_law_texts : Sp) (sp_shortest_cut : Sp) (sp_law_is_cut : Sp) (sp_law_drawn_cut : Sp) (sp_Text_init : Sp) (sp_law_other : Sp) : TS := (tSeq (tAsg (tCall sp_law_pool [] E0 (tCons (tVar 0) tNil)) (gName 1)) (tSeq (tAsg (tCall sp_law_some [] E0 (tCons (tVar 1) (tCons (tOp rAddI (tC (.int 1)) (tCall sp_law_take [] E0 (tCons (tVar 1) (tCons (tC (.int 3)) tNil)))) (tCons (tC (.int 60)) tNil)))) (gName 2)) (tSeq (tAsg (tCall sp_law_texts [] E0 (tCons (tVar 1) (tCons (tVar 2) tNil))) (gName 3)) (tSeq (tAsg (tCall sp_shortest_cut [] E0 (tCons (tVar 3) tNil)) (gName 4)) (tSeq (tIfS (tOr (tNot (tB (tCB (rIsi K) (tCons (tVar 4) (tCons (tC (.ty "tuple")) tNil))))) (tNot (tTru K (tCall sp_law_is_cut [] E0 (tCons (tVar 2) (tCons (tVar 4) tNil)))))) (tRet (tC (.bl false))) tNext) (tSeq (tAsg (tCall sp_law_drawn_cut [] E0 (tCons (tVar 1) (tCons (tVar 2) tNil))) (gName 5)) (tSeq (tIfS (tTest (tOp rGtI (tCB (rSum K) (tCons (tLc (iTup K (tVar 4)) (gName 8) tYes (tCB (rLn K) (tCons (tVar 8) tNil)) [8]) tNil)) (tCB (rSum K) (tCons (tLc (iTup K (tVar 5)) (gName 8) tYes (tCB (rLn K) (tCons (tVar 8) tNil)) [8]) tNil)))) (tRet (tC (.bl false))) tNext) (tSeq (tAsg (tOp (rIx K) (tVar 2) (tCall sp_law_take [] E0 (tCons (tVar 1) (tCons (tCB (rLn K) (tCons (tVar 2) tNil)) tNil)))) (gName 6)) (tSeq (tAsg (tCall sp_shortest_cut [] E0 (tCons (tLst (tCons (tMake (He.ga K "Text") sp_Text_init [] E0 (tCons (tDGet (tCall sp_law_other [] E0 (tCons (tVar 1) (tCons (tVar 6) tNil))) (tC (.str "rules"))) tNil)) (tCons (tMake (He.ga K "Text") sp_Text_init [] E0 (tCons (tDGet (tCall sp_law_other [] E0 (tCons (tVar 1) (tCons (tVar 6) tNil))) (tC (.str "rules"))) tNil)) tNil))) tNil)) (gName 7)) (tRet (tAndV (tOp rEq (tCB (rLn K) (tCons (tVar 7) tNil)) (tC (.int 2))) (tOp rEq (tCB (rLn K) (tCons (tOp (rIx K) (tVar 7) (tC (.int 1))) tNil)) (tCB rInt1 (tCons (tOp rNe (tVar 6) (tC (.str ""))) tNil))))))))))))))
def s_law (φ_law_pool : WF) (φ_law_some : WF) (φ_law_take : WF) (φ_law_texts : WF) (φ_shortest_cut : WF) (φ_law_is_cut : WF) (φ_law_drawn_cut : WF) (φ_Text_init : WF) (φ_law_other : WF) (ξ : Xi) : WS := (sSeq (sAsg (eCall φ_law_pool [none] xNo (aCons (eFrz 0) aNil)) (gNm 1)) (sSeq (sAsg (eCall φ_law_some [some 1, none, none] xNo (aIo 1 (aCons (eOp wAddI (eB (bC (.int 1))) (eCall φ_law_take [some 1, none] xNo (aIo 1 (aCons (eB (bC (.int 3))) aNil)))) (aCons (eB (bC (.int 60))) aNil)))) (gNm 2)) (sSeq (sAsg (eCall φ_law_texts [some 1, none] xNo (aIo 1 (aCons (eFrz 2) aNil))) (gNm 3)) (sSeq (sAsg (eCall φ_shortest_cut [none] xNo (aCons (eFrz 3) aNil)) (gNm 4)) (sSeq (sIf (tOrr (tB0 (bNot (bTest (bCB wIsi (bCons (bVar 4) (bCons (bC (.raw (.ty "tuple"))) bNil)))))) (tNo (tTr (eCall φ_law_is_cut [none, none] xNo (aCons (eFrz 2) (aCons (eFrz 4) aNil)))))) (sRet (eB (bC (.bl false)))) sNext) (sSeq (sAsg (eCall φ_law_drawn_cut [some 1, none] xNo (aIo 1 (aCons (eFrz 2) aNil))) (gNm 5)) (sSeq (sIf (tTst (eOp wGtI (eCB wSum (aCons (eLc (iT (eFrz 4)) (gNm 8) tYs (eB (bCB wLen (bCons (bVar 8) bNil))) [8]) aNil)) (eCB wSum (aCons (eLc (iT (eFrz 5)) (gNm 8) tYs (eB (bCB wLen (bCons (bVar 8) bNil))) [8]) aNil)))) (sRet (eB (bC (.bl false)))) sNext) (sSeq (sAsg (eOp wIx (eFrz 2) (eCall φ_law_take [some 1, none] xNo (aIo 1 (aCons (eB (bCB wLen (bCons (bVar 2) bNil))) aNil)))) (gNm 6)) (sSeq (sAsg (eCall φ_shortest_cut [none] xNo (aCons (eLst (aCons (eFz (eMake .Text φ_Text_init [none] xNo (aCons (eDGet (eCall φ_law_other [some 1, none] xNo (aIo 1 (aCons (eFrz 6) aNil))) (eB (bC (.str "rules")))) aNil))) (aCons (eFz (eMake .Text φ_Text_init [none] xNo (aCons (eDGet (eCall φ_law_other [some 1, none] xNo (aIo 1 (aCons (eFrz 6) aNil))) (eB (bC (.str "rules")))) aNil))) aNil))) aNil)) (gNm 7)) (sRet (eB (bAndV (bOp (wEqB false) (bCB wLen (bCons (bVar 7) bNil)) (bC (.int 2))) (bOp (wEqB false) (bCB wLen (bCons (bOp wIx (bVar 7) (bC (.int 1))) bNil)) (bCB wInt1 (bCons (bOp (wEqB true) (bVar 6) (bC (.str ""))) bNil)))))))))))))))
theorem snd_law {K : PySem.W.Frag} (φ_law_pool : WF) (φ_law_some : WF) (φ_law_take : WF) (φ_law_texts : WF) (φ_shortest_cut : WF) (φ_law_is_cut : WF) (φ_law_drawn_cut : WF) (φ_Text_init : WF) (φ_law_other : WF) (v0 : V) (E : XK) (ξ : Xi) : SS K [none] (fun _ => E) ξ (t_law K (spOf K 1 φ_law_pool) (spOf K 3 φ_law_some) (spOf K 2 φ_law_take) (spOf K 2 φ_law_texts) (spOf K 1 φ_shortest_cut) (spOf K 2 φ_law_is_cut) (spOf K 2 φ_law_drawn_cut) (spOf K 2 φ_Text_init) (spOf K 2 φ_law_other)) (s_law φ_law_pool φ_law_some φ_law_take φ_law_texts φ_shortest_cut φ_law_is_cut φ_law_drawn_cut φ_Text_init φ_law_other ξ) := by
  unfold t_law s_law
  exact (ss_seq (ss_asg (se_call rfl (sk_ex se_frz sk_nil)) (sg_name (.inr rfl))) (ss_seq (ss_asg (se_call rfl (sk_io (sk_ex (se_op sr_addI (se_b sb_int) (se_call rfl (sk_io (sk_ex (se_b sb_int) sk_nil)))) (sk_ex (se_b sb_int) sk_nil)))) (sg_name (.inr rfl))) (ss_seq (ss_asg (se_call rfl (sk_io (sk_ex se_frz sk_nil))) (sg_name (.inr rfl))) (ss_seq (ss_asg (se_call rfl (sk_ex se_frz sk_nil)) (sg_name (.inr rfl))) (ss_seq (ss_if (st_or (st_b (sb_not (sb_b (sb_cb sr_isi (sb_cons sb_var (sb_cons sb_raw sb_nil)))))) (st_not (st_tru (se_call rfl (sk_ex se_frz (sk_ex se_frz sk_nil)))))) (ss_ret (se_b sb_bl)) ss_next) (ss_seq (ss_asg (se_call rfl (sk_io (sk_ex se_frz sk_nil))) (sg_name (.inr rfl))) (ss_seq (ss_if (st_test (se_op sr_gtI (se_cb sr_sum (sa_cons (se_lc (si_tup se_frz) (sg_name (.inr rfl)) st_yes (se_b (sb_cb sr_len (sb_cons sb_var sb_nil))) (by decide) (by rfl)) sa_nil)) (se_cb sr_sum (sa_cons (se_lc (si_tup se_frz) (sg_name (.inr rfl)) st_yes (se_b (sb_cb sr_len (sb_cons sb_var sb_nil))) (by decide) (by rfl)) sa_nil)))) (ss_ret (se_b sb_bl)) ss_next) (ss_seq (ss_asg (se_op sr_ix se_frz (se_call rfl (sk_io (sk_ex (se_b (sb_cb sr_len (sb_cons sb_var sb_nil))) sk_nil)))) (sg_name (.inr rfl))) (ss_seq (ss_asg (se_call rfl (sk_ex (se_lst (sa_cons (se_fz (se_make (cn := .Text) rfl (sk_ex (se_dGet (se_call rfl (sk_io (sk_ex se_frz sk_nil))) (se_b sb_str)) sk_nil))) (sa_cons (se_fz (se_make (cn := .Text) rfl (sk_ex (se_dGet (se_call rfl (sk_io (sk_ex se_frz sk_nil))) (se_b sb_str)) sk_nil))) sa_nil))) sk_nil)) (sg_name (.inr rfl))) (ss_ret (se_b (sb_andV (sb_op sr_eq (sb_cb sr_len (sb_cons sb_var sb_nil)) sb_int) (sb_op sr_eq (sb_cb sr_len (sb_cons (sb_op sr_ix sb_var sb_int) sb_nil)) (sb_cb sr_int1 (sb_cons (sb_op sr_ne sb_var sb_str) sb_nil)))))))))))))))
def v_law (φ_law_pool : WF) (φ_law_some : WF) (φ_law_take : WF) (φ_law_texts : WF) (φ_shortest_cut : WF) (φ_law_is_cut : WF) (φ_law_drawn_cut : WF) (φ_Text_init : WF) (φ_law_other : WF) : WF := wf (s_law φ_law_pool φ_law_some φ_law_take φ_law_texts φ_shortest_cut φ_law_is_cut φ_law_drawn_cut φ_Text_init φ_law_other) [false] 9
theorem w_law (φ_law_pool : WF) (φ_law_some : WF) (φ_law_take : WF) (φ_law_texts : WF) (φ_shortest_cut : WF) (φ_law_is_cut : WF) (φ_law_drawn_cut : WF) (φ_Text_init : WF) (φ_law_other : WF) (x0 : Vl) (P : Vl → Ev → Prop) (PX : Xi) : v_law φ_law_pool φ_law_some φ_law_take φ_law_texts φ_shortest_cut φ_law_is_cut φ_law_drawn_cut φ_Text_init φ_law_other [x0] P PX = s_law φ_law_pool φ_law_some φ_law_take φ_law_texts φ_shortest_cut φ_law_is_cut φ_law_drawn_cut φ_Text_init φ_law_other (fun C fs env => nOut [false] env (PX C fs)) (VE.mk (fun env => nOut [false] env (P .non)) (fun x env => nOut [false] env (P x)) (fun _ => False) (fun _ => False)) [some x0, none, none, none, none, none, none, none, none] := rfl
theorem pure_law {K : PySem.W.Frag} (φ_law_pool : WF) (φ_law_some : WF) (φ_law_take : WF) (φ_law_texts : WF) (φ_shortest_cut : WF) (φ_law_is_cut : WF) (φ_law_drawn_cut : WF) (φ_Text_init : WF) (φ_law_other : WF) (vs : List V) (H : Hp) (Q : VK) (E : XK) (h : spOf K 1 (v_law φ_law_pool φ_law_some φ_law_take φ_law_texts φ_shortest_cut φ_law_is_cut φ_law_drawn_cut φ_Text_init φ_law_other) vs H Q E) : t_law K (spOf K 1 φ_law_pool) (spOf K 3 φ_law_some) (spOf K 2 φ_law_take) (spOf K 2 φ_law_texts) (spOf K 1 φ_shortest_cut) (spOf K 2 φ_law_is_cut) (spOf K 2 φ_law_drawn_cut) (spOf K 2 φ_Text_init) (spOf K 2 φ_law_other) { nx := fun _ H' => Q .non H', rt := Q } (start N_law vs) H :=
  body_ok (N := N_law) (pn := [false]) (t := fun E => t_law K (spOf K 1 φ_law_pool) (spOf K 3 φ_law_some) (spOf K 2 φ_law_take) (spOf K 2 φ_law_texts) (spOf K 1 φ_shortest_cut) (spOf K 2 φ_law_is_cut) (spOf K 2 φ_law_drawn_cut) (spOf K 2 φ_Text_init) (spOf K 2 φ_law_other)) (fun vs hl E ξ => match vs, hl with | [v0], _ => snd_law φ_law_pool φ_law_some φ_law_take φ_law_texts φ_shortest_cut φ_law_is_cut φ_law_drawn_cut φ_Text_init φ_law_other v0 E ξ) h
/-! ### the law -/
instance {rows : List (List Ph)} : Fzc (cutV rows) := ⟨by unfold cutV; rw [Vl.fz]; exact (inferInstance : FzAc (rows.map rowV)).h⟩
theorem sum_le {f : Tx → Nat} {m : Nat} : ∀ {ts : List Tx}, (∀ t ∈ ts, f t ≤ m) → (ts.map f).sum ≤ ts.length * m
  | [], _ => by simp
  | t :: ts, h => by
    have h1 := h t (List.mem_cons_self ..)
    have h2 := sum_le (f := f) (m := m) (ts := ts) fun t ht => h t (List.mem_cons_of_mem _ ht)
    rw [List.map_cons, List.sum_cons, List.length_cons, Nat.add_mul]
    omega
def lenS (rows : List (List Ph)) : Nat := (rows.map List.length).sum
theorem lenS_cast : ∀ {rows : List (List Ph)}, (rows.map fun ps => (ps.length : Int)).sum = ((lenS rows : Nat) : Int)
  | [] => rfl
  | ps :: rows => by
    have := lenS_cast (rows := rows)
    unfold lenS at this ⊢
    simp only [List.map_cons, List.sum_cons, this]
    omega
theorem lenS_le : ∀ {r q : List (List Ph)}, r.length = q.length → (∀ (n : Nat) (ps qs : List Ph), r[n]? = some ps → q[n]? = some qs → ps.length ≤ qs.length) → lenS r ≤ lenS q
  | [], [], _, _ => Nat.le_refl _
  | ps :: r, [], h, _ => by simp at h
  | [], qs :: q, h, _ => by simp at h
  | ps :: r, qs :: q, h, hk => by
    have h1 := hk 0 ps qs rfl rfl
    have h2 := lenS_le (r := r) (q := q) (by simpa using h) fun n a b ha hb => hk (n + 1) a b ha hb
    unfold lenS at h2 ⊢
    simp only [List.map_cons, List.sum_cons]
    omega
theorem GRow.row {ts : List Tx} {n : Nat} {ps : List Ph} (h : GRow ts n ps) : Pth (PhOk ts n) 0 ps (gt ts n).length := h.mono fun _ _ h => h.1
abbrev V_law : WF := v_law v_law_pool V_some V_take V_texts V_shortest_cut V_is_cut V_drawn_cut V_Text_init V_other
theorem law_ok {ns : List Int} (hn : ns.length ≤ 63) : V_law [.scr ns] (fun x _ => x = .bl true) (fun _ _ _ => False) := by
  unfold V_law
  rw [w_law]
  unfold s_law
  walk_at "vv"
  refine pool_ok hn fun x1 hP1 => ?_
  walk_at "vv"
  refine take_ok (by decide) (by decide) fun m x2 m0 m1 hP2 => ?_
  walk_at "vv"
  obtain ⟨m, rfl⟩ : ∃ n : Nat, m = (n : Int) := ⟨m.toNat, by omega⟩
  rw [show (1 : Int) + (m : Int) = ((1 + m : Nat) : Int) by omega]
  refine some_ok (by omega) fun ws x3 hwl hws hP3 => ?_
  have hws' : WsOk 400 ws := hws.mono (by omega)
  have hle : ∀ i, (gt ws i).length ≤ 130 := fun i => by
    by_cases hi : i < ws.length
    · exact Nat.le_trans (hws _ (List.mem_of_getElem? (at_gt hi))).1 (by omega)
    · unfold gt
      rw [List.getD_eq_getElem?_getD, List.getElem?_eq_none (by omega)]
      simp
  walk_at "vv"
  refine texts_ok (by omega) hws' fun xs x4 hx hk hP4 => ?_
  walk_at "vv"
  have hxl : xs.length = ws.length := by rw [← hx]; unfold rtW; rw [List.length_map]
  refine shortest_cut_ok hk (by rw [hx]; exact Nat.le_trans (sum_le (m := 130) fun t ht => Nat.le_trans (hws t ht).1 (by omega)) (by omega)) (by omega) fun rows hrl hrows => ?_
  rw [hx] at hrows
  have hro : RowsOk ws rows := ⟨by omega, fun n ps h => (hrows n ps h).row⟩
  rw [show cutV rows = .tup (rows.map rowV) from rfl]
  walk_at "vv"
  have hle5 : ∀ i, (gt ws i).length ≤ 5000 := fun i => Nat.le_trans (hle i) (by decide)
  refine is_cut_ok hle5 (by omega) hro ?_
  walk_at "vv"
  refine drawn_cut_ok hle5 (by omega) fun qows x5 hqo hP5 => ?_
  have hqo1 := hqo.1
  rw [show cutV qows = .tup (qows.map rowV) from rfl]
  walk_at "vv"
  refine ⟨by rw [List.length_map]; omega, fun i acc env => acc = (rows.take i).map (fun ps => Vl.int (ps.length : Int)) ∧ ∃ o8, env = [some (.scr ns), some x5, some (.lst false (ws.map txL)), some (.lst false (xs.map rtV)), some (.tup (rows.map rowV)), some (.tup (qows.map rowV)), none, none, o8], ⟨rfl, _, rfl⟩, ?_, ?_⟩
  · rintro i y acc env hi hy ha ⟨rfl, o8, rfl⟩
    rw [List.getElem?_map] at hy
    obtain ⟨ps, hps, rfl⟩ := Option.map_eq_some_iff.mp hy
    rw [show rowV ps = .tup (ps.map phV) from rfl]
    walk_at "vv"
    refine ⟨?_, _, rfl⟩
    rw [take_one hps, List.map_append, List.length_map]; rfl
  rintro acc env ha ⟨rfl, o8, rfl⟩
  rw [List.length_map, List.take_of_length_le (Nat.le_refl _)]
  simp only [restE, wipeE, List.set_cons_succ, List.set_cons_zero, List.getElem?_cons_succ, List.getElem?_cons_zero, Option.getD_some]
  walk_at "vv"
  refine ⟨_, rows.map (fun ps => (ps.length : Int)), by rw [List.map_map]; rfl, ?_⟩
  rw [lenS_cast]
  walk_at "vv"
  refine ⟨by rw [List.length_map]; omega, fun i acc env => acc = (qows.take i).map (fun ps => Vl.int (ps.length : Int)) ∧ ∃ o8, env = [some (.scr ns), some x5, some (.lst false (ws.map txL)), some (.lst false (xs.map rtV)), some (.tup (rows.map rowV)), some (.tup (qows.map rowV)), none, none, o8], ⟨rfl, _, rfl⟩, ?_, ?_⟩
  · rintro i y acc env hi hy ha ⟨rfl, o8, rfl⟩
    rw [List.getElem?_map] at hy
    obtain ⟨ps, hps, rfl⟩ := Option.map_eq_some_iff.mp hy
    rw [show rowV ps = .tup (ps.map phV) from rfl]
    walk_at "vv"
    refine ⟨?_, _, rfl⟩
    rw [take_one hps, List.map_append, List.length_map]; rfl
  rintro acc env ha ⟨rfl, o8, rfl⟩
  rw [List.length_map, List.take_of_length_le (Nat.le_refl _)]
  simp only [restE, wipeE, List.set_cons_succ, List.set_cons_zero, List.getElem?_cons_succ, List.getElem?_cons_zero, Option.getD_some]
  walk_at "vv"
  refine ⟨_, qows.map (fun ps => (ps.length : Int)), by rw [List.map_map]; rfl, ?_⟩
  rw [lenS_cast]
  walk_at "vv"
  have hq : lenS rows ≤ lenS qows := lenS_le (by have := hqo.1; omega) fun n ps qs h1 h2 => greedy_le (hqo.2 n qs h2) (hrows n ps h1) (Nat.le_refl _)
  refine ifPF (by omega) ?_
  walk_at "vv"
  rw [List.length_map]
  refine take_ok (by omega) (by omega) fun f x6 f0 f1 hP6 => ?_
  obtain ⟨f, rfl⟩ : ∃ n : Nat, f = (n : Int) := ⟨f.toNat, by omega⟩
  have hf : f < ws.length := by omega
  obtain ⟨hwl1, hws1⟩ := hws' _ (List.mem_of_getElem? (at_gt hf))
  have hle1 := hle f
  walk_at "vv"
  refine v_ixL (txL_at hf) ?_
  walk_at "vv"
  generalize gt ws f = w at hwl1 hws1 hle1 ⊢
  refine other_ok (m := 400) (by decide) (by decide) hwl1 hwl1 hws1 fun rs ts x7 hP7 hT hwh h1 h60 => ?_
  have kt : TxK rs ts := ⟨hT.tab, h1, by omega⟩
  walk_at "vv"
  refine Text_init_ok (b := true) kt (by omega) ?_
  walk_at "vv"
  refine other_ok (m := 400) (by decide) (by decide) hwl1 hwl1 hws1 fun us vs x8 hP8 hU hwh2 u1 u60 => ?_
  have ku : TxK us vs := ⟨hU.tab, u1, by omega⟩
  walk_at "vv"
  refine Text_init_ok (b := true) ku (by omega) ?_
  walk_at "vv"
  rw [← show rtV (rs, ts) = .obj false .Text [.tup (rs.map ruL), .tup (lenL ts), .int ((whole ts).length : Int)] from rfl, ← show rtV (us, vs) = .obj false .Text [.tup (us.map ruL), .tup (lenL vs), .int ((whole vs).length : Int)] from rfl]
  have hW : rtW [(rs, ts), (us, vs)] = [w, w] := by unfold rtW; rw [List.map_cons, List.map_cons, hwh, hwh2]; rfl
  refine shortest_cut_ok (o := true) (xs := [(rs, ts), (us, vs)]) (fun p hp => ?_) (by rw [hW]; simp; omega) (by simp) fun bows hbl hbows => ?_
  · rcases List.mem_cons.mp hp with rfl | hp
    · exact kt
    · rw [List.mem_singleton.mp hp]; exact ku
  rw [hW] at hbows
  match bows, hbl with
  | [r0, r1], _ =>
  have g1 := hbows 1 r1 rfl
  rw [show cutV [r0, r1] = .tup [.tup (r0.map phV), .tup (r1.map phV)] from rfl]
  have hr1 : r1.length = if w = [] then 0 else 1 := by
    have e1 : gt [w, w] 1 = w := rfl
    have e0 : gt [w, w] 0 = w := rfl
    unfold GRow at g1
    rw [e1] at g1
    by_cases hw0 : w = []
    · rw [if_pos hw0]
      have := greedy_le (qs := []) (b := 0) (.nil 0) (show Pth (GOk [w, w] 1) 0 r1 0 by rw [hw0] at g1 ⊢; exact g1) (Nat.le_refl _)
      simpa using this
    · rw [if_neg hw0]
      have hpos : 0 < w.length := by cases hh : w with | nil => exact absurd hh hw0 | cons a l => simp
      have c : CpOk [w, w] 1 0 0 0 w.length := ⟨hpos, by omega, fun e => by omega, by rw [e1]; omega, by rw [e0]; omega, fun k hk => rfl⟩
      have h2 := greedy_le (qs := [Ph.cp 0 0 w.length]) (b := 0) (.cons c (by rw [show (0 + (Ph.cp 0 0 w.length).sz) = w.length by show 0 + w.length = _; omega]; exact .nil _)) g1 (Nat.le_refl _)
      have h3 : r1 ≠ [] := fun h => by
        subst h
        have : ∀ {a b : Nat}, Pth (GOk [w, w] 1) a [] b → a = b := fun h => by cases h; rfl
        have := this g1
        omega
      have h4 : 0 < r1.length := by cases hh : r1 with | nil => exact absurd hh h3 | cons a l => simp
      simp only [List.length_cons, List.length_nil] at h2
      omega
  walk_at "vv"
  refine ifPT rfl ?_
  walk_at "vv"
  rw [List.length_map, hr1]
  congr 1
  rw [decide_eq_true_iff]
  have hse : (S w = ("" : Str)) ↔ w = [] := by rw [empty_eq1]; exact ⟨fun h => SX.S_inj h, fun h => by rw [h]⟩
  by_cases hw0 : w = []
  · have h1 : S w = ("" : Str) := hse.mpr hw0
    rw [if_pos hw0, if_neg (by rw [decide_eq_true h1]; simp)]
    rfl
  · have h1 : ¬ S w = ("" : Str) := fun h => hw0 (hse.mp h)
    rw [if_neg hw0, if_pos (by rw [decide_eq_false h1]; rfl)]
    rfl
end Tr
end Sh


set_option Elab.async false
set_option linter.all false
set_option maxRecDepth 100000
set_option maxHeartbeats 4000000
namespace Sh
open PySem PySem.Spec PyProof.Rows L2
def sizesL : List (Str × He.Dv) := [("letters", .int 2), ("join", .int 3), ("power", .int 3), ("part", .int 4), ("back", .int 2)]
theorem takes_none5 {X : Cx} : Takes X (fun _ _ _ _ => False) := fun u s x => by
  obtain ⟨_, _, _, _, _, _, _, _, _, _, _, _, _, _, _, _, w⟩ := x
  exact w.elim
/-! ### the row: places, scopes -/
def topS (i : Nat) : Stmt := PySem.Challenge.pw_shortheld_k39_whole_fewest_phrases.main.body.getD i (.Pass ⟨0, 0, 0, 0⟩)
abbrev s_rule_length : Stmt := topS 14
abbrev s_earlier : Stmt := topS 15
abbrev s_fault : Stmt := topS 16
abbrev s_lengths_of : Stmt := topS 17
abbrev s_check_rules : Stmt := topS 18
abbrev s_inner_place : Stmt := topS 19
abbrev s_inner_parts : Stmt := topS 20
abbrev s_NoPlace_init : Stmt := inClass (topS 4) 0
abbrev s_NoPart_init : Stmt := inClass (topS 5) 0
abbrev s_Text_init : Stmt := inClass (topS 21) 0
abbrev s_Text_letter : Stmt := inClass (topS 21) 3
abbrev s_Text_check_part : Stmt := inClass (topS 21) 4
abbrev s_Text_letters : Stmt := inClass (topS 21) 5
abbrev s_unfolded : Stmt := topS 25
abbrev s_grown : Stmt := topS 27
abbrev s_first_place : Stmt := topS 28
abbrev s_longest_copy : Stmt := topS 26
abbrev s_shortest_cut : Stmt := topS 29
abbrev s_law_pool : Stmt := topS 31
abbrev s_law_take : Stmt := topS 32
abbrev s_law_letters : Stmt := topS 33
abbrev s_law_add : Stmt := topS 34
abbrev s_law_box : Stmt := topS 35
abbrev s_law_power_rule : Stmt := topS 36
abbrev s_law_next_rule : Stmt := topS 37
abbrev s_law_turned_letter : Stmt := topS 38
abbrev s_law_drawn : Stmt := topS 39
abbrev s_law_period : Stmt := topS 40
abbrev s_law_way : Stmt := topS 41
abbrev s_law_other : Stmt := topS 42
abbrev s_law_some : Stmt := topS 43
abbrev s_law_texts : Stmt := topS 44
abbrev s_law_longest : Stmt := topS 45
abbrev s_law_spells : Stmt := topS 46
abbrev s_law_is_cut : Stmt := topS 47
abbrev s_law_drawn_cut : Stmt := topS 48
abbrev s_law : Stmt := topS 49
theorem sc_rule_length : FnScope N_rule_length ["rule", "lengths"] (defScope s_rule_length) := ⟨rfl, rfl, rfl, by decide +kernel, rfl, by decide +kernel, by decide +kernel⟩
theorem sc_earlier : FnScope N_earlier ["rule"] (defScope s_earlier) := ⟨rfl, rfl, rfl, by decide +kernel, rfl, by decide +kernel, by decide +kernel⟩
theorem sc_fault : FnScope N_fault ["rule", "lengths"] (defScope s_fault) := ⟨rfl, rfl, rfl, by decide +kernel, rfl, by decide +kernel, by decide +kernel⟩
theorem sc_rule_length' : FnScope Tr.N_rule_length ["rule", "lengths"] (defScope s_rule_length) := ⟨rfl, rfl, rfl, by decide +kernel, rfl, by decide +kernel, by decide +kernel⟩
theorem sc_lengths_of : FnScope Tr.N_lengths_of ["rules"] (defScope s_lengths_of) := ⟨rfl, rfl, rfl, by decide +kernel, rfl, by decide +kernel, by decide +kernel⟩
theorem sc_check_rules : FnScope Tr.N_check_rules ["rules"] (defScope s_check_rules) := ⟨rfl, rfl, rfl, by decide +kernel, rfl, by decide +kernel, by decide +kernel⟩
theorem sc_inner_place : FnScope N_inner_place ["rule", "lengths", "place"] (defScope s_inner_place) := ⟨rfl, rfl, rfl, by decide +kernel, rfl, by decide +kernel, by decide +kernel⟩
theorem sc_inner_parts : FnScope N_inner_parts ["rule", "lengths", "start", "stop"] (defScope s_inner_parts) := ⟨rfl, rfl, rfl, by decide +kernel, rfl, by decide +kernel, by decide +kernel⟩
theorem sc_NoPlace_init : FnScope N_NoPlace_init ["self", "place"] (defScope s_NoPlace_init) := ⟨rfl, rfl, rfl, by decide +kernel, rfl, by decide +kernel, by decide +kernel⟩
theorem sc_NoPart_init : FnScope N_NoPart_init ["self", "start", "stop"] (defScope s_NoPart_init) := ⟨rfl, rfl, rfl, by decide +kernel, rfl, by decide +kernel, by decide +kernel⟩
theorem sc_Text_init : FnScope Tr.N_Text_init ["self", "rules"] (defScope s_Text_init) := ⟨rfl, rfl, rfl, by decide +kernel, rfl, by decide +kernel, by decide +kernel⟩
theorem sc_Text_letter : FnScope N_Text_letter ["self", "place"] (defScope s_Text_letter) := ⟨rfl, rfl, rfl, by decide +kernel, rfl, by decide +kernel, by decide +kernel⟩
theorem sc_Text_check_part : FnScope N_Text_check_part ["self", "start", "stop"] (defScope s_Text_check_part) := ⟨rfl, rfl, rfl, by decide +kernel, rfl, by decide +kernel, by decide +kernel⟩
theorem sc_Text_letters : FnScope N_Text_letters ["self", "start", "stop"] (defScope s_Text_letters) := ⟨rfl, rfl, rfl, by decide +kernel, rfl, by decide +kernel, by decide +kernel⟩
theorem sc_unfolded : FnScope Tr.N_unfolded ["text"] (defScope s_unfolded) := ⟨rfl, rfl, rfl, by decide +kernel, rfl, by decide +kernel, by decide +kernel⟩
theorem sc_grown : FnScope Tr.N_grown ["source", "start", "text", "at", "many"] (defScope s_grown) := ⟨rfl, rfl, rfl, by decide +kernel, rfl, by decide +kernel, by decide +kernel⟩
theorem sc_first_place : FnScope Tr.N_first_place ["unpacked", "number", "at", "many"] (defScope s_first_place) := ⟨rfl, rfl, rfl, by decide +kernel, rfl, by decide +kernel, by decide +kernel⟩
theorem sc_longest_copy : FnScope Tr.N_longest_copy ["unpacked", "number", "at"] (defScope s_longest_copy) := ⟨rfl, rfl, rfl, by decide +kernel, rfl, by decide +kernel, by decide +kernel⟩
theorem sc_shortest_cut : FnScope Tr.N_shortest_cut ["texts"] (defScope s_shortest_cut) := ⟨rfl, rfl, rfl, by decide +kernel, rfl, by decide +kernel, by decide +kernel⟩
theorem sc_law_pool : FnScope Tr.N_law_pool ["_law_script"] (defScope s_law_pool) := ⟨rfl, rfl, rfl, by decide +kernel, rfl, by decide +kernel, by decide +kernel⟩
theorem sc_law_take : FnScope Tr.N_law_take ["_law_pool_here", "_law_many"] (defScope s_law_take) := ⟨rfl, rfl, rfl, by decide +kernel, rfl, by decide +kernel, by decide +kernel⟩
theorem sc_law_letters : FnScope Tr.N_law_letters ["_law_pool_here", "_law_most"] (defScope s_law_letters) := ⟨rfl, rfl, rfl, by decide +kernel, rfl, by decide +kernel, by decide +kernel⟩
theorem sc_law_add : FnScope Tr.N_law_add ["_law_box_here", "_law_rule", "_law_text"] (defScope s_law_add) := ⟨rfl, rfl, rfl, by decide +kernel, rfl, by decide +kernel, by decide +kernel⟩
theorem sc_law_box : FnScope Tr.N_law_box [] (defScope s_law_box) := ⟨rfl, rfl, rfl, by decide +kernel, rfl, by decide +kernel, by decide +kernel⟩
theorem sc_law_power_rule : FnScope Tr.N_law_power_rule ["_law_pool_here", "_law_box_here", "_law_most"] (defScope s_law_power_rule) := ⟨rfl, rfl, rfl, by decide +kernel, rfl, by decide +kernel, by decide +kernel⟩
theorem sc_law_next_rule : FnScope Tr.N_law_next_rule ["_law_pool_here", "_law_box_here", "_law_most"] (defScope s_law_next_rule) := ⟨rfl, rfl, rfl, by decide +kernel, rfl, by decide +kernel, by decide +kernel⟩
theorem sc_law_turned_letter : FnScope Tr.N_law_turned_letter ["_law_pool_here", "_law_box_here", "_law_most"] (defScope s_law_turned_letter) := ⟨rfl, rfl, rfl, by decide +kernel, rfl, by decide +kernel, by decide +kernel⟩
theorem sc_law_drawn : FnScope Tr.N_law_drawn ["_law_pool_here", "_law_most"] (defScope s_law_drawn) := ⟨rfl, rfl, rfl, by decide +kernel, rfl, by decide +kernel, by decide +kernel⟩
theorem sc_law_period : FnScope Tr.N_law_period ["_law_letters_here"] (defScope s_law_period) := ⟨rfl, rfl, rfl, by decide +kernel, rfl, by decide +kernel, by decide +kernel⟩
theorem sc_law_way : FnScope Tr.N_law_way ["_law_pool_here", "_law_box_here", "_law_letters_here", "_law_deep"] (defScope s_law_way) := ⟨rfl, rfl, rfl, by decide +kernel, rfl, by decide +kernel, by decide +kernel⟩
theorem sc_law_other : FnScope Tr.N_law_other ["_law_pool_here", "_law_letters_here"] (defScope s_law_other) := ⟨rfl, rfl, rfl, by decide +kernel, rfl, by decide +kernel, by decide +kernel⟩
theorem sc_law_some : FnScope Tr.N_law_some ["_law_pool_here", "_law_many", "_law_most"] (defScope s_law_some) := ⟨rfl, rfl, rfl, by decide +kernel, rfl, by decide +kernel, by decide +kernel⟩
theorem sc_law_texts : FnScope Tr.N_law_texts ["_law_pool_here", "_law_letters_here"] (defScope s_law_texts) := ⟨rfl, rfl, rfl, by decide +kernel, rfl, by decide +kernel, by decide +kernel⟩
theorem sc_law_longest : FnScope Tr.N_law_longest ["_law_letters_here", "_law_number", "_law_at"] (defScope s_law_longest) := ⟨rfl, rfl, rfl, by decide +kernel, rfl, by decide +kernel, by decide +kernel⟩
theorem sc_law_spells : FnScope Tr.N_law_spells ["_law_letters_here", "_law_number", "_law_row"] (defScope s_law_spells) := ⟨rfl, rfl, rfl, by decide +kernel, rfl, by decide +kernel, by decide +kernel⟩
theorem sc_law_is_cut : FnScope Tr.N_law_is_cut ["_law_letters_here", "_law_cut"] (defScope s_law_is_cut) := ⟨rfl, rfl, rfl, by decide +kernel, rfl, by decide +kernel, by decide +kernel⟩
theorem sc_law_drawn_cut : FnScope Tr.N_law_drawn_cut ["_law_pool_here", "_law_letters_here"] (defScope s_law_drawn_cut) := ⟨rfl, rfl, rfl, by decide +kernel, rfl, by decide +kernel, by decide +kernel⟩
theorem sc_law : FnScope Tr.N_law ["_law_script"] (defScope s_law) := ⟨rfl, rfl, rfl, by decide +kernel, rfl, by decide +kernel, by decide +kernel⟩
structure Tp (w : World) (K : PySem.W.Frag) (mg : Str → Option Value) : Prop where
  f_all : mg "all" = none
  f_enumerate : mg "enumerate" = none
  f_int : mg "int" = none
  f_isinstance : mg "isinstance" = none
  f_len : mg "len" = none
  f_max : mg "max" = none
  f_min : mg "min" = none
  f_range : mg "range" = none
  f_sum : mg "sum" = none
  f_tuple : mg "tuple" = none
  g_LETTERS : ∃ t, mg "LETTERS" = some (.str " !\"#$&'()*+,-./0123456789:;<=>?@ABCDEFGHIJKLMNOPQRSTUVWXYZ[\\]^_`abcdefghijklmnopqrstuvwxyz{|}~" t)
  g_MOST_LETTERS_cuts : ∃ t, mg "MOST_LETTERS_cuts" = some (.int 4096 t)
  g_MOST_LETTERS_text : ∃ t, mg "MOST_LETTERS_text" = some (.int 1000000000000 t)
  g_MOST_RULES : ∃ t, mg "MOST_RULES" = some (.int 60 t)
  g_MOST_TOLD : ∃ t, mg "MOST_TOLD" = some (.int 1000 t)
  g_MOST_WRITTEN : ∃ t, mg "MOST_WRITTEN" = some (.int 64 t)
  g_SIZES : mg "SIZES" = some (.ref (He.ga K "SIZES"))
  c_Text : ClsF K (He.ga K "Text") ns_Text
  d_SIZES : ∃ es n, KDict K w (He.ga K "SIZES") es n
  s_SIZES : SzT K
  k_NoPlace : Exk K "NoPlace" ["place"]
  k_NoPart : Exk K "NoPart" ["start", "stop"]
  o_TooLong : Exo K mg "TooLong"
  hNp : hasP K = false
section
variable {P : Program} {w : World} {K : PySem.W.Frag} {mg : Str → Option Value} {base : Heap}
theorem ok_rule_length {f : Addr} {fd : FuncData} (T : Tp w K mg) (F : FunD K "rule_length" "rule_length" (defArgs s_rule_length) (defBody s_rule_length) (defScope s_rule_length) [] [] f fd) : FnOk P w K mg base CX0 1 f fd ["rule", "lengths"] (sp_rule_length K) := by
  have := T.c_Text
  have := T.s_SIZES
  refine FunD.ok F sc_rule_length (fun vs H Q E h => ?_) (fun cdv A outer s H vs Q E hr h => ⟨t_rule_length K, PSs.nox ?_, pure_rule_length vs H Q E h⟩)
  · (repeat obtain ⟨_, h⟩ := h)
    subst_vars
    rfl
  · exact (pss_cons (ps_set (i := 2) sc_rule_length.nd rfl (Or.inl rfl) (pe_ix ix_seq (pv 0) pe_int (fun _ _ => rfl))) (pss_cons (ps_if (pt_cmpR op_eq (pv 2) pe_str (nomark _)) (pss_one (ps_ret (pe_callB call_len (by rfl) T.f_len (by decide +kernel) (pa_cons (pe_ix ix_seq (pv 0) pe_int (fun _ _ => rfl)) pa_nil)))) pss_nil) (pss_cons (ps_if (pt_cmpR op_eq (pv 2) pe_str (nomark _)) (pss_one (ps_ret (pe_op op_add (pe_ix ix_seq (pv 1) (pe_ix ix_seq (pv 0) pe_int (fun _ _ => rfl)) (fun _ _ => rfl)) (pe_ix ix_seq (pv 1) (pe_ix ix_seq (pv 0) pe_int (fun _ _ => rfl)) (fun _ _ => rfl))))) pss_nil) (pss_cons (ps_if (pt_cmpR op_eq (pv 2) pe_str (nomark _)) (pss_one (ps_ret (pe_op op_mul (pe_ix ix_seq (pv 1) (pe_ix ix_seq (pv 0) pe_int (fun _ _ => rfl)) (fun _ _ => rfl)) (pe_ix ix_seq (pv 0) pe_int (fun _ _ => rfl))))) pss_nil) (pss_cons (ps_if (pt_cmpR op_eq (pv 2) pe_str (nomark _)) (pss_one (ps_ret (pe_op op_sub (pe_ix ix_seq (pv 0) pe_int (fun _ _ => rfl)) (pe_ix ix_seq (pv 0) pe_int (fun _ _ => rfl))))) pss_nil) (pss_one (ps_ret (pe_ix ix_seq (pv 1) (pe_ix ix_seq (pv 0) pe_int (fun _ _ => rfl)) (fun _ _ => rfl)))))))))
theorem ok_earlier {f : Addr} {fd : FuncData} (T : Tp w K mg) (F : FunD K "earlier" "earlier" (defArgs s_earlier) (defBody s_earlier) (defScope s_earlier) [] [] f fd) : FnOk P w K mg base CX0 1 f fd ["rule"] (sp_earlier K) := by
  have := T.c_Text
  have := T.s_SIZES
  refine FunD.ok F sc_earlier (fun vs H Q E h => ?_) (fun cdv A outer s H vs Q E hr h => ⟨t_earlier K, PSs.nox ?_, pure_earlier vs H Q E h⟩)
  · (repeat obtain ⟨_, h⟩ := h)
    subst_vars
    rfl
  · exact (pss_cons (ps_if (pt_cmpR op_eq (pe_ix ix_seq (pv 0) pe_int (fun _ _ => rfl)) pe_str (nomark _)) (pss_one (ps_ret (pe_tup pa_nil))) pss_nil) (pss_one (ps_ret (pe_ifExp (pt_cmpR op_eq (pe_ix ix_seq (pv 0) pe_int (fun _ _ => rfl)) pe_str (nomark _)) (pe_slice sl_lt (pv 0) (po_some pe_int) (po_some pe_int)) (pe_slice sl_lt (pv 0) (po_some pe_int) (po_some pe_int))))))
theorem ok_fault {f : Addr} {fd : FuncData} (T : Tp w K mg) (F : FunD K "fault" "fault" (defArgs s_fault) (defBody s_fault) (defScope s_fault) [] [] f fd) (G_earlier : Fn P w K mg base CX0 "earlier" 1 ["rule"] [] (sp_earlier K)) (G_rule_length : Fn P w K mg base CX0 "rule_length" 1 ["rule", "lengths"] [] (sp_rule_length K)) : FnOk P w K mg base CX0 2 f fd ["rule", "lengths"] (spOf K 2 Tr.F_fault) := by
  have := T.c_Text
  have := T.s_SIZES
  refine FunD.ok F sc_fault (fun vs H Q E h => ?_) (fun cdv A outer s H vs Q E hr h => ⟨t_fault K (sp_earlier K) (sp_rule_length K), PSs.nox ?_, (fun vs H Q E h => pure_fault vs H Q E (Tr.br_fault vs H Q E h)) vs H Q E h⟩)
  · obtain ⟨_, _, _, _, _, hl, _⟩ := h
    exact hl
  · exact (pss_cons (ps_set (i := 2) sc_fault.nd rfl (Or.inl rfl) (pe_ifExp (pt_truth (pv 0) (by intro _; rfl)) (pe_ix ix_seq (pv 0) pe_int (fun _ _ => rfl)) pe_str)) (pss_cons (ps_if (pt_cmpR (op_notInK T.d_SIZES) (pv 2) (pe_glob rfl T.g_SIZES rfl) rfl) (pss_one (ps_ret pe_str)) pss_nil) (pss_cons (ps_if (pt_cmpR op_ne (pe_callB call_len (by rfl) T.f_len (by decide +kernel) (pa_cons (pv 0) pa_nil)) (pe_ix (ix_K T.d_SIZES) (pe_glob rfl T.g_SIZES rfl) (pv 2) (fun _ _ => rfl)) (nomark _)) (pss_one (ps_ret pe_str)) pss_nil) (pss_cons (ps_if (pt_cmpR op_eq (pv 2) pe_str (nomark _)) (pss_cons (ps_set (i := 3) sc_fault.nd rfl (Or.inl rfl) (pe_and (pe_cmpR op_le (pe_callB call_len (by rfl) T.f_len (by decide +kernel) (pa_cons (pe_ix ix_seq (pv 0) pe_int (fun _ _ => rfl)) pa_nil)) (pe_gI T.g_MOST_WRITTEN) (nomark _)) (pe_one (pe_callB (cr_all rfl) (by rfl) T.f_all (by decide +kernel) (pa_cons (pe_lc (own := [("letter", 4)]) (g := (gName 4)) (tt := tYes) (by rfl) sc_fault.nd (pi_str (pe_ix ix_seq (pv 0) pe_int (fun _ _ => rfl))) (blkOk_by (own := [("letter", 4)]) (N := N_fault) (sc := defScope s_fault) (by decide +kernel)) (fun _ _ _ _ _ => (pg_name (i := 4) sc_fault.nd rfl (Or.inl rfl))) (fun _ _ _ _ _ => pts_nil) (fun _ _ _ _ _ => (pe_cmpR op_in_sign (pv 4) (pe_gS T.g_LETTERS) rfl))) pa_nil))))) (pss_one (ps_ret (pe_ifExp (pt_truth (pv 3) (by intro _; rfl)) pe_non pe_str)))) pss_nil) (pss_cons (ps_if (pt_not (pt_val (pe_callB (cr_all rfl) (by rfl) T.f_all (by decide +kernel) (pa_cons (pe_lc (own := [("number", 5)]) (g := (gName 5)) (tt := tYes) (by rfl) sc_fault.nd (pi_lt (pe_fn G_earlier (hr.mono (by decide)) pass0 (pa_cons (pv 0) pa_nil))) (blkOk_by (own := [("number", 5)]) (N := N_fault) (sc := defScope s_fault) (by decide +kernel)) (fun _ _ _ _ _ => (pg_name (i := 5) sc_fault.nd rfl (Or.inl rfl))) (fun _ _ _ _ _ => pts_nil) (fun _ _ _ _ _ => (pe_chain op_le op_lt pe_int (pv 5) (pe_callB call_len (by rfl) T.f_len (by decide +kernel) (pa_cons (pv 1) pa_nil))))) pa_nil)))) (pss_one (ps_ret pe_str)) pss_nil) (pss_cons (ps_if (PW.pt (pw_and (pt_cmpR op_eq (pv 2) pe_str (nomark _)) (pw_and1 (pt_not (pt_chain op_le op_le pe_int (pe_ix ix_seq (pv 0) pe_int (fun _ _ => rfl)) (pe_gI T.g_MOST_LETTERS_text)))))) (pss_one (ps_ret pe_str)) pss_nil) (pss_cons (ps_if (PW.pt (pw_and (pt_cmpR op_eq (pv 2) pe_str (nomark _)) (pw_and1 (pt_not (pt_chain3 op_le op_le op_le pe_int (pe_ix ix_seq (pv 0) pe_int (fun _ _ => rfl)) (pe_ix ix_seq (pv 0) pe_int (fun _ _ => rfl)) (pe_ix ix_seq (pv 1) (pe_ix ix_seq (pv 0) pe_int (fun _ _ => rfl)) (fun _ _ => rfl))))))) (pss_one (ps_ret pe_str)) pss_nil) (pss_one (ps_ret (pe_ifExp (pt_cmpR op_gt (pe_fn G_rule_length (hr.mono (by decide)) pass0 (pa_cons (pv 0) (pa_cons (pv 1) pa_nil))) (pe_gI T.g_MOST_LETTERS_text) (nomark _)) pe_str pe_non))))))))))
theorem ok_rule_length' {f : Addr} {fd : FuncData} (T : Tp w K mg) (F : FunD K "rule_length" "rule_length" (defArgs s_rule_length) (defBody s_rule_length) (defScope s_rule_length) [] [] f fd) : FnOk P w K mg base CX0 1 f fd ["rule", "lengths"] (spOf K 2 Tr.V_rule_length) := by
  have := T.c_Text
  have := T.s_SIZES
  refine FunD.ok F sc_rule_length' (fun vs H Q E h => ?_) (fun cdv A outer s H vs Q E hr h => ⟨Tr.t_rule_length K, PSs.nox ?_, (Tr.pure_rule_length ) vs H Q E h⟩)
  · obtain ⟨_, _, _, _, _, hl, _⟩ := h
    exact hl
  · exact (pss_cons (ps_set (i := 2) sc_rule_length.nd rfl (Or.inl rfl) (pe_ix ix_seq (pv 0) pe_int (fun _ _ => rfl))) (pss_cons (ps_if (pt_cmpR op_eq (pv 2) pe_str (nomark _)) (pss_one (ps_ret (pe_callB call_len (by rfl) T.f_len (by decide +kernel) (pa_cons (pe_ix ix_seq (pv 0) pe_int (fun _ _ => rfl)) pa_nil)))) pss_nil) (pss_cons (ps_if (pt_cmpR op_eq (pv 2) pe_str (nomark _)) (pss_one (ps_ret (pe_op op_add (pe_ix ix_seq (pv 1) (pe_ix ix_seq (pv 0) pe_int (fun _ _ => rfl)) (fun _ _ => rfl)) (pe_ix ix_seq (pv 1) (pe_ix ix_seq (pv 0) pe_int (fun _ _ => rfl)) (fun _ _ => rfl))))) pss_nil) (pss_cons (ps_if (pt_cmpR op_eq (pv 2) pe_str (nomark _)) (pss_one (ps_ret (pe_op op_mul (pe_ix ix_seq (pv 1) (pe_ix ix_seq (pv 0) pe_int (fun _ _ => rfl)) (fun _ _ => rfl)) (pe_ix ix_seq (pv 0) pe_int (fun _ _ => rfl))))) pss_nil) (pss_cons (ps_if (pt_cmpR op_eq (pv 2) pe_str (nomark _)) (pss_one (ps_ret (pe_op op_sub (pe_ix ix_seq (pv 0) pe_int (fun _ _ => rfl)) (pe_ix ix_seq (pv 0) pe_int (fun _ _ => rfl))))) pss_nil) (pss_one (ps_ret (pe_ix ix_seq (pv 1) (pe_ix ix_seq (pv 0) pe_int (fun _ _ => rfl)) (fun _ _ => rfl)))))))))
theorem ok_lengths_of {f : Addr} {fd : FuncData} (T : Tp w K mg) (F : FunD K "lengths_of" "lengths_of" (defArgs s_lengths_of) (defBody s_lengths_of) (defScope s_lengths_of) [] [] f fd) (G_rule_length : Fn P w K mg base CX0 "rule_length" 1 ["rule", "lengths"] [] (spOf K 2 Tr.V_rule_length)) : FnOk P w K mg base CX0 2 f fd ["rules"] (spOf K 1 Tr.V_lengths_of) := by
  have := T.c_Text
  have := T.s_SIZES
  refine FunD.ok F sc_lengths_of (fun vs H Q E h => ?_) (fun cdv A outer s H vs Q E hr h => ⟨Tr.t_lengths_of K (spOf K 2 Tr.V_rule_length), PSs.nox ?_, (Tr.pure_lengths_of _) vs H Q E h⟩)
  · obtain ⟨_, _, _, _, _, hl, _⟩ := h
    exact hl
  · exact (pss_cons (ps_set (i := 1) sc_lengths_of.nd rfl (Or.inl rfl) (pe_lst pa_nil)) (pss_cons (ps_for PassesOwn.never rfl (pi_tup (pv 0)) (pg_name (i := 2) sc_lengths_of.nd rfl (Or.inl rfl)) (pss_one (ps_expr (pe_bm PySem.F.plainAttrs_list PySem.F.slot_list_append PySem.F.type_list_append mt_append (pv 1) (pa_cons (pe_fn G_rule_length (hr.mono (by decide)) pass0 (pa_cons (pv 2) (pa_cons (pv 1) pa_nil))) pa_nil))))) (pss_one (ps_ret (pe_callTy call_tuple_of (by rfl) T.f_tuple (by decide +kernel) (pa_cons (pv 1) pa_nil))))))
theorem ok_check_rules {f : Addr} {fd : FuncData} (T : Tp w K mg) (F : FunD K "check_rules" "check_rules" (defArgs s_check_rules) (defBody s_check_rules) (defScope s_check_rules) [] [] f fd) (G_fault : Fn P w K mg base CX0 "fault" 2 ["rule", "lengths"] [] (spOf K 2 Tr.F_fault)) (G_rule_length : Fn P w K mg base CX0 "rule_length" 1 ["rule", "lengths"] [] (spOf K 2 Tr.V_rule_length)) : FnOk P w K mg base CX0 3 f fd ["rules"] (spOf K 1 Tr.V_check_rules) := by
  have := T.c_Text
  have := T.s_SIZES
  refine FunD.ok F sc_check_rules (fun vs H Q E h => ?_) (fun cdv A outer s H vs Q E hr h => ⟨Tr.t_check_rules K (spOf K 2 Tr.F_fault) (spOf K 2 Tr.V_rule_length), PSs.nox ?_, (Tr.pure_check_rules _ _) vs H Q E h⟩)
  · obtain ⟨_, _, _, _, _, hl, _⟩ := h
    exact hl
  · exact (pss_cons (ps_if (pt_not (pt_chain op_le op_le pe_int (pe_callB call_len (by rfl) T.f_len (by decide +kernel) (pa_cons (pv 0) pa_nil)) (pe_gI T.g_MOST_RULES))) (pss_one ps_dead) pss_nil) (pss_cons (ps_set (i := 1) sc_check_rules.nd rfl (Or.inl rfl) (pe_lst pa_nil)) (pss_one (ps_for PassesOwn.never rfl (pi_enumLT (by rfl) T.f_enumerate (pa_cons (pv 0) pa_nil)) (pg_tup rfl (pgs_cons (pg_name (i := 2) sc_check_rules.nd rfl (Or.inl rfl)) (pgs_cons (pg_name (i := 3) sc_check_rules.nd rfl (Or.inl rfl)) pgs_nil))) (pss_cons (ps_set (i := 4) sc_check_rules.nd rfl (Or.inl rfl) (pe_fn G_fault (hr.mono (by decide)) pass0 (pa_cons (pv 3) (pa_cons (pv 1) pa_nil)))) (pss_cons (ps_if (pt_cmpR op_notN (pv 4) pe_non (nomark _)) (pss_one ps_dead) pss_nil) (pss_one (ps_expr (pe_bm PySem.F.plainAttrs_list PySem.F.slot_list_append PySem.F.type_list_append mt_append (pv 1) (pa_cons (pe_fn G_rule_length (hr.mono (by decide)) pass0 (pa_cons (pv 3) (pa_cons (pv 1) pa_nil))) pa_nil))))))))))
theorem ok_inner_place {f : Addr} {fd : FuncData} (T : Tp w K mg) (F : FunD K "inner_place" "inner_place" (defArgs s_inner_place) (defBody s_inner_place) (defScope s_inner_place) [] [] f fd) : FnOk P w K mg base CX0 1 f fd ["rule", "lengths", "place"] (sp_inner_place K) := by
  have := T.c_Text
  have := T.s_SIZES
  refine FunD.ok F sc_inner_place (fun vs H Q E h => ?_) (fun cdv A outer s H vs Q E hr h => ⟨t_inner_place K, PSs.nox ?_, pure_inner_place vs H Q E h⟩)
  · (repeat obtain ⟨_, h⟩ := h)
    subst_vars
    rfl
  · exact (pss_cons (ps_set (i := 3) sc_inner_place.nd rfl (Or.inl rfl) (pe_ix ix_seq (pv 0) pe_int (fun _ _ => rfl))) (pss_cons (ps_if (pt_cmpR op_eq (pv 3) pe_str (nomark _)) (pss_cons (ps_set (i := 4) sc_inner_place.nd rfl (Or.inl rfl) (pe_ix ix_seq (pv 1) (pe_ix ix_seq (pv 0) pe_int (fun _ _ => rfl)) (fun _ _ => rfl))) (pss_one (ps_ret (pe_ifExp (pt_cmpR op_lt (pv 2) (pv 4) (nomark _)) (pe_tup (pa_cons (pe_ix ix_seq (pv 0) pe_int (fun _ _ => rfl)) (pa_cons (pv 2) pa_nil))) (pe_tup (pa_cons (pe_ix ix_seq (pv 0) pe_int (fun _ _ => rfl)) (pa_cons (pe_op op_sub (pv 2) (pv 4)) pa_nil))))))) pss_nil) (pss_cons (ps_if (pt_cmpR op_eq (pv 3) pe_str (nomark _)) (pss_cons (ps_set (i := 5) sc_inner_place.nd rfl (Or.inl rfl) (pe_ix ix_seq (pv 1) (pe_ix ix_seq (pv 0) pe_int (fun _ _ => rfl)) (fun _ _ => rfl))) (pss_one (ps_ret (pe_tup (pa_cons (pe_ix ix_seq (pv 0) pe_int (fun _ _ => rfl)) (pa_cons (pe_op op_sub (pv 2) (pe_op op_mul (pv 5) (pe_op op_fdivW (pv 2) (pv 5)))) pa_nil)))))) pss_nil) (pss_cons (ps_if (pt_cmpR op_eq (pv 3) pe_str (nomark _)) (pss_one (ps_ret (pe_tup (pa_cons (pe_ix ix_seq (pv 0) pe_int (fun _ _ => rfl)) (pa_cons (pe_op op_add (pv 2) (pe_ix ix_seq (pv 0) pe_int (fun _ _ => rfl))) pa_nil))))) pss_nil) (pss_one (ps_ret (pe_tup (pa_cons (pe_ix ix_seq (pv 0) pe_int (fun _ _ => rfl)) (pa_cons (pe_op op_sub (pe_op op_sub (pe_ix ix_seq (pv 1) (pe_ix ix_seq (pv 0) pe_int (fun _ _ => rfl)) (fun _ _ => rfl)) pe_int) (pv 2)) pa_nil)))))))))
theorem ok_inner_parts {f : Addr} {fd : FuncData} (T : Tp w K mg) (F : FunD K "inner_parts" "inner_parts" (defArgs s_inner_parts) (defBody s_inner_parts) (defScope s_inner_parts) [] [] f fd) : FnOk P w K mg base CX0 1 f fd ["rule", "lengths", "start", "stop"] (sp_inner_parts K) := by
  have := T.c_Text
  have := T.s_SIZES
  refine FunD.ok F sc_inner_parts (fun vs H Q E h => ?_) (fun cdv A outer s H vs Q E hr h => ⟨t_inner_parts K, PSs.nox ?_, pure_inner_parts vs H Q E h⟩)
  · (repeat obtain ⟨_, h⟩ := h)
    subst_vars
    rfl
  · exact (pss_cons (ps_set (i := 4) sc_inner_parts.nd rfl (Or.inl rfl) (pe_ix ix_seq (pv 0) pe_int (fun _ _ => rfl))) (pss_cons (ps_set (i := 5) sc_inner_parts.nd rfl (Or.inl rfl) (pe_ix ix_seq (pv 0) pe_int (fun _ _ => rfl))) (pss_cons (ps_set (i := 6) sc_inner_parts.nd rfl (Or.inl rfl) (pe_ix ix_seq (pv 1) (pv 5) (fun _ _ => rfl))) (pss_cons (ps_if (pt_cmpR op_eq (pv 4) pe_str (nomark _)) (pss_one (ps_ret (pe_lst (pa_cons (pe_tup (pa_cons (pv 5) (pa_cons (pe_op op_add (pv 2) (pe_ix ix_seq (pv 0) pe_int (fun _ _ => rfl))) (pa_cons (pe_op op_add (pv 3) (pe_ix ix_seq (pv 0) pe_int (fun _ _ => rfl))) (pa_cons pe_bl pa_nil))))) pa_nil)))) pss_nil) (pss_cons (ps_if (pt_cmpR op_eq (pv 4) pe_str (nomark _)) (pss_one (ps_ret (pe_lst (pa_cons (pe_tup (pa_cons (pv 5) (pa_cons (pe_op op_sub (pv 6) (pv 3)) (pa_cons (pe_op op_sub (pv 6) (pv 2)) (pa_cons pe_bl pa_nil))))) pa_nil)))) pss_nil) (pss_cons (ps_if (pt_cmpR op_eq (pv 4) pe_str (nomark _)) (pss_cons (ps_set (i := 7) sc_inner_parts.nd rfl (Or.inl rfl) (pe_lst pa_nil)) (pss_cons (ps_for PassesOwn.never rfl (pi_range2 (by rfl) T.f_range (pa_cons (pe_op op_fdivW (pv 2) (pv 6)) (pa_cons (pe_op op_add (pe_op op_fdivW (pe_op op_sub (pv 3) pe_int) (pv 6)) pe_int) pa_nil))) (pg_name (i := 8) sc_inner_parts.nd rfl (Or.inl rfl)) (pss_cons (ps_set (i := 9) sc_inner_parts.nd rfl (Or.inl rfl) (pe_op op_mul (pv 8) (pv 6))) (pss_one (ps_expr (pe_bm PySem.F.plainAttrs_list PySem.F.slot_list_append PySem.F.type_list_append mt_append (pv 7) (pa_cons (pe_tup (pa_cons (pv 5) (pa_cons (pe_callB (call_max2 rfl) (by rfl) T.f_max (by decide +kernel) (pa_cons (pe_op op_sub (pv 2) (pv 9)) (pa_cons pe_int pa_nil))) (pa_cons (pe_callB (call_min2 rfl) (by rfl) T.f_min (by decide +kernel) (pa_cons (pe_op op_sub (pv 3) (pv 9)) (pa_cons (pv 6) pa_nil))) (pa_cons pe_bl pa_nil))))) pa_nil)))))) (pss_one (ps_ret (pv 7))))) pss_nil) (pss_cons (ps_set (i := 7) sc_inner_parts.nd rfl (Or.inl rfl) (pe_lst pa_nil)) (pss_cons (ps_if (pt_cmpR op_lt (pv 2) (pv 6) (nomark _)) (pss_one (ps_expr (pe_bm PySem.F.plainAttrs_list PySem.F.slot_list_append PySem.F.type_list_append mt_append (pv 7) (pa_cons (pe_tup (pa_cons (pv 5) (pa_cons (pv 2) (pa_cons (pe_callB (call_min2 rfl) (by rfl) T.f_min (by decide +kernel) (pa_cons (pv 3) (pa_cons (pv 6) pa_nil))) (pa_cons pe_bl pa_nil))))) pa_nil)))) pss_nil) (pss_cons (ps_if (pt_cmpR op_gt (pv 3) (pv 6) (nomark _)) (pss_one (ps_expr (pe_bm PySem.F.plainAttrs_list PySem.F.slot_list_append PySem.F.type_list_append mt_append (pv 7) (pa_cons (pe_tup (pa_cons (pe_ix ix_seq (pv 0) pe_int (fun _ _ => rfl)) (pa_cons (pe_callB (call_max2 rfl) (by rfl) T.f_max (by decide +kernel) (pa_cons (pe_op op_sub (pv 2) (pv 6)) (pa_cons pe_int pa_nil))) (pa_cons (pe_op op_sub (pv 3) (pv 6)) (pa_cons pe_bl pa_nil))))) pa_nil)))) pss_nil) (pss_one (ps_ret (pv 7))))))))))))
theorem ok_NoPlace_init {f : Addr} {fd : FuncData} (T : Tp w K mg) (F : FunD K "__init__" "NoPlace.__init__" (defArgs s_NoPlace_init) (defBody s_NoPlace_init) (defScope s_NoPlace_init) [] [] f fd) : FnOk P w K mg base CX0 1 f fd ["self", "place"] (sp_NoPlace_init K) := by
  have := T.c_Text
  have := T.s_SIZES
  refine FunD.ok F sc_NoPlace_init (fun vs H Q E h => ?_) (fun cdv A outer s H vs Q E hr h => ⟨t_NoPlace_init K, PSs.nox ?_, pure_NoPlace_init vs H Q E h⟩)
  · (repeat obtain ⟨_, h⟩ := h)
    subst_vars
    rfl
  · exact (pss_one (ps_ost (pv 0) (pv 1)))
theorem ok_NoPart_init {f : Addr} {fd : FuncData} (T : Tp w K mg) (F : FunD K "__init__" "NoPart.__init__" (defArgs s_NoPart_init) (defBody s_NoPart_init) (defScope s_NoPart_init) [] [] f fd) : FnOk P w K mg base CX0 1 f fd ["self", "start", "stop"] (sp_NoPart_init K) := by
  have := T.c_Text
  have := T.s_SIZES
  refine FunD.ok F sc_NoPart_init (fun vs H Q E h => ?_) (fun cdv A outer s H vs Q E hr h => ⟨t_NoPart_init K, PSs.nox ?_, pure_NoPart_init vs H Q E h⟩)
  · (repeat obtain ⟨_, h⟩ := h)
    subst_vars
    rfl
  · exact (pss_cons (ps_ost (pv 0) (pv 1)) (pss_one (ps_ost (pv 0) (pv 2))))
theorem ok_Text_init {f : Addr} {fd : FuncData} (T : Tp w K mg) (F : FunD K "__init__" "Text.__init__" (defArgs s_Text_init) (defBody s_Text_init) (defScope s_Text_init) [] [] f fd) (G_check_rules : Fn P w K mg base CX0 "check_rules" 3 ["rules"] [] (spOf K 1 Tr.V_check_rules)) (G_lengths_of : Fn P w K mg base CX0 "lengths_of" 2 ["rules"] [] (spOf K 1 Tr.V_lengths_of)) : FnOk P w K mg base CX0 5 f fd ["self", "rules"] (spOf K 2 Tr.V_Text_init) := by
  have := T.c_Text
  have := T.s_SIZES
  refine FunD.ok F sc_Text_init (fun vs H Q E h => ?_) (fun cdv A outer s H vs Q E hr h => ⟨Tr.t_Text_init K (spOf K 1 Tr.V_check_rules) (spOf K 1 Tr.V_lengths_of), PSs.nox ?_, (Tr.pure_Text_init _ _ T.c_Text) vs H Q E h⟩)
  · obtain ⟨_, _, _, _, _, hl, _⟩ := h
    exact hl
  · exact (pss_cons (ps_expr (pe_fn G_check_rules (hr.mono (by decide)) pass0 (pa_cons (pv 1) pa_nil))) (pss_cons (ps_fld (pv 0) (pe_callTy call_tuple_of (by rfl) T.f_tuple (by decide +kernel) (pa_cons (pe_lc (own := [("rule", 2)]) (g := (gName 2)) (tt := tYes) (by rfl) sc_Text_init.nd (pi_lt (pv 1)) (blkOk_by (own := [("rule", 2)]) (N := Tr.N_Text_init) (sc := defScope s_Text_init) (by decide +kernel)) (fun _ _ _ _ _ => (pg_name (i := 2) sc_Text_init.nd rfl (Or.inl rfl))) (fun _ _ _ _ _ => pts_nil) (fun _ _ _ _ _ => (pe_callTy call_tuple_of (by rfl) T.f_tuple (by decide +kernel) (pa_cons (pv 2) pa_nil)))) pa_nil)) rfl) (pss_cons (ps_fld (pv 0) (pe_fn G_lengths_of (hr.mono (by decide)) pass0 (pa_cons (pe_fld (pv 0) rfl) pa_nil)) rfl) (pss_one (ps_fld (pv 0) (pe_ix ix_seq (pe_fld (pv 0) rfl) (pe_un un_neg pe_int) (fun _ _ => rfl)) rfl)))))
theorem ok_Text_letter {f : Addr} {fd : FuncData} (T : Tp w K mg) (F : FunD K "letter" "Text.letter" (defArgs s_Text_letter) (defBody s_Text_letter) (defScope s_Text_letter) [] [] f fd) (G_NoPlace_init : Exi P w K mg base CX0 "NoPlace" 1 ["self", "place"] [] (sp_NoPlace_init K)) (G_inner_place : Fn P w K mg base CX0 "inner_place" 1 ["rule", "lengths", "place"] [] (sp_inner_place K)) : FnOk P w K mg base (L2.CX P w) 3 f fd ["self", "place"] (spOf K 2 Tr.F_letter) := by
  have := T.c_Text
  have := T.s_SIZES
  refine FunD.ok F sc_Text_letter (fun vs H Q E h => ?_) (fun cdv A outer s H vs Q E hr h => ⟨t_Text_letter K (sp_NoPlace_init K) (sp_inner_place K) E, ?_, (fun vs H Q E h => pure_Text_letter T.k_NoPlace vs H Q E (Tr.br_letter vs H Q E h)) vs H Q E h⟩)
  · obtain ⟨_, _, _, _, _, hl, _⟩ := h
    exact hl
  · exact (pss_cons (ps_if (pt_not (pt_chain op_le op_lt pe_int (pv 1) (pe_fld (pv 0) rfl))) (pss_one (ps_raiseO G_NoPlace_init (hr.mono (by decide)) (takes_of rfl rfl rfl rfl) (pa_cons (pv 1) pa_nil))) pss_nil) (pss_cons (ps_set (i := 2) sc_Text_letter.nd rfl (Or.inl rfl) (pe_ix ix_seq (pe_fld (pv 0) rfl) (pe_un un_neg pe_int) (fun _ _ => rfl))) (pss_cons (ps_while (passes_of rfl) (pt_cmpR op_ne (pe_ix ix_seq (pv 2) pe_int (fun _ _ => rfl)) pe_str (nomark _)) (pss_cons (ps_asg (pe_fn G_inner_place (hr.mono (by decide)) pass0 (pa_cons (pv 2) (pa_cons (pe_fld (pv 0) rfl) (pa_cons (pv 1) pa_nil)))) (pg_tup rfl (pgs_cons (pg_name (i := 3) sc_Text_letter.nd rfl (Or.inl rfl)) (pgs_cons (pg_name (i := 1) sc_Text_letter.nd rfl (Or.inl rfl)) pgs_nil)))) (pss_one (ps_set (i := 2) sc_Text_letter.nd rfl (Or.inl rfl) (pe_ix ix_seq (pe_fld (pv 0) rfl) (pv 3) (fun _ _ => rfl)))))) (pss_one (ps_ret (pe_ix ix_seq (pe_ix ix_seq (pv 2) pe_int (fun _ _ => rfl)) (pv 1) (fun _ _ => rfl)))))))
theorem ok_Text_check_part {f : Addr} {fd : FuncData} (T : Tp w K mg) (F : FunD K "check_part" "Text.check_part" (defArgs s_Text_check_part) (defBody s_Text_check_part) (defScope s_Text_check_part) [] [] f fd) (G_NoPart_init : Exi P w K mg base CX0 "NoPart" 1 ["self", "start", "stop"] [] (sp_NoPart_init K)) : FnOk P w K mg base (L2.CX P w) 3 f fd ["self", "start", "stop"] (sp_Text_check_part K) := by
  have := T.c_Text
  have := T.s_SIZES
  refine FunD.ok F sc_Text_check_part (fun vs H Q E h => ?_) (fun cdv A outer s H vs Q E hr h => ⟨t_Text_check_part K (sp_NoPart_init K) E, ?_, pure_Text_check_part T.k_NoPart vs H Q E h⟩)
  · (repeat obtain ⟨_, h⟩ := h)
    subst_vars
    rfl
  · exact (pss_one (ps_if (pt_not (pt_chain3 op_le op_le op_le pe_int (pv 1) (pv 2) (pe_fld (pv 0) rfl))) (pss_one (ps_raiseO G_NoPart_init (hr.mono (by decide)) (takes_of rfl rfl rfl rfl) (pa_cons (pv 1) (pa_cons (pv 2) pa_nil)))) pss_nil))
theorem ok_Text_letters {f : Addr} {fd : FuncData} (T : Tp w K mg) (F : FunD K "letters" "Text.letters" (defArgs s_Text_letters) (defBody s_Text_letters) (defScope s_Text_letters) [] [] f fd) (G_Text_check_part : Me P w K mg base (L2.CX P w) "Text" "check_part" 3 ["self", "start", "stop"] [] (sp_Text_check_part K)) (G_inner_parts : Fn P w K mg base CX0 "inner_parts" 1 ["rule", "lengths", "start", "stop"] [] (sp_inner_parts K)) : FnOk P w K mg base (L2.CX P w) 5 f fd ["self", "start", "stop"] (spOf K 3 Tr.F_letters) := by
  have := T.c_Text
  have := T.s_SIZES
  refine FunD.ok F sc_Text_letters (fun vs H Q E h => ?_) (fun cdv A outer s H vs Q E hr h => ⟨t_Text_letters K (sp_Text_check_part K) (sp_inner_parts K) E, ?_, (fun vs H Q E h => pure_Text_letters vs H Q E (Tr.br_letters vs H Q E h)) vs H Q E h⟩)
  · obtain ⟨_, _, _, _, _, hl, _⟩ := h
    exact hl
  · exact (pss_cons (ps_expr (pe_meE G_Text_check_part (pv 0) (hr.mono (by decide)) (fun σ => passAt (takes_of rfl rfl rfl rfl) σ) (pa_cons (pv 1) (pa_cons (pv 2) pa_nil)))) (pss_cons (ps_if (pt_cmpR op_gt (pe_op op_sub (pv 2) (pv 1)) (pe_gI T.g_MOST_TOLD) (nomark _)) (pss_one (ps_raiseC T.o_TooLong (takes_of rfl rfl rfl rfl))) pss_nil) (pss_cons (ps_set (i := 3) sc_Text_letters.nd rfl (Or.inl rfl) (pe_lst pa_nil)) (pss_cons (ps_set (i := 4) sc_Text_letters.nd rfl (Or.inl rfl) (pe_lst (pa_cons (pe_tup (pa_cons (pe_op op_sub (pe_callB call_len (by rfl) T.f_len (by decide +kernel) (pa_cons (pe_fld (pv 0) rfl) pa_nil)) pe_int) (pa_cons (pv 1) (pa_cons (pv 2) (pa_cons pe_bl pa_nil))))) pa_nil))) (pss_cons (ps_while (passes_of rfl) (pt_truth (pv 4) (by intro _; rfl)) (pss_cons (ps_asg (pe_bm0 PySem.F.plainAttrs_list PySem.F.slot_list_pop PySem.F.type_list_pop mt_pop (pv 4)) (pg_tup rfl (pgs_cons (pg_name (i := 5) sc_Text_letters.nd rfl (Or.inl rfl)) (pgs_cons (pg_name (i := 6) sc_Text_letters.nd rfl (Or.inl rfl)) (pgs_cons (pg_name (i := 7) sc_Text_letters.nd rfl (Or.inl rfl)) (pgs_cons (pg_name (i := 8) sc_Text_letters.nd rfl (Or.inl rfl)) pgs_nil)))))) (pss_cons (ps_set (i := 9) sc_Text_letters.nd rfl (Or.inl rfl) (pe_ix ix_seq (pe_fld (pv 0) rfl) (pv 5) (fun _ _ => rfl))) (pss_one (ps_if (PW.pt (pw_and (pt_cmpR op_lt (pv 6) (pv 7) (nomark _)) (pw_and1 (pt_cmpR op_eq (pe_ix ix_seq (pv 9) pe_int (fun _ _ => rfl)) pe_str (nomark _))))) (pss_cons (ps_set (i := 10) sc_Text_letters.nd rfl (Or.inl rfl) (pe_slice sl_str (pe_ix ix_seq (pv 9) pe_int (fun _ _ => rfl)) (po_some (pv 6)) (po_some (pv 7)))) (pss_one (ps_expr (pe_bm PySem.F.plainAttrs_list PySem.F.slot_list_append PySem.F.type_list_append mt_append (pv 3) (pa_cons (pe_ifExp (pt_truth (pv 8) (by intro _; rfl)) (pe_rev_str (pv 10)) (pv 10)) pa_nil))))) (pss_one (ps_if (pt_cmpR op_lt (pv 6) (pv 7) (nomark _)) (pss_cons (ps_set (i := 11) sc_Text_letters.nd rfl (Or.inl rfl) (pe_fn G_inner_parts (hr.mono (by decide)) pass0 (pa_cons (pv 9) (pa_cons (pe_fld (pv 0) rfl) (pa_cons (pv 6) (pa_cons (pv 7) pa_nil)))))) (pss_cons (ps_if (pt_not (pt_truth (pv 8) (by intro _; rfl))) (pss_one (ps_expr (pe_bm0 PySem.F.plainAttrs_list PySem.F.slot_list_reverse PySem.F.type_list_reverse mt_reverse (pv 11)))) pss_nil) (pss_one (ps_for (passes_of rfl) rfl (pi_list (pv 11)) (pg_tup rfl (pgs_cons (pg_name (i := 12) sc_Text_letters.nd rfl (Or.inl rfl)) (pgs_cons (pg_name (i := 13) sc_Text_letters.nd rfl (Or.inl rfl)) (pgs_cons (pg_name (i := 14) sc_Text_letters.nd rfl (Or.inl rfl)) (pgs_cons (pg_name (i := 15) sc_Text_letters.nd rfl (Or.inl rfl)) pgs_nil))))) (pss_one (ps_expr (pe_bm PySem.F.plainAttrs_list PySem.F.slot_list_append PySem.F.type_list_append mt_append (pv 4) (pa_cons (pe_tup (pa_cons (pv 12) (pa_cons (pv 13) (pa_cons (pv 14) (pa_cons (pe_cmpR op_ne (pv 15) (pv 8) (nomark _)) pa_nil))))) pa_nil)))))))) pss_nil))))))) (pss_one (ps_ret (pe_joinL pe_str (pv 3)))))))))
theorem ok_unfolded {f : Addr} {fd : FuncData} (T : Tp w K mg) (F : FunD K "unfolded" "unfolded" (defArgs s_unfolded) (defBody s_unfolded) (defScope s_unfolded) [] [] f fd) (G_Text_letters : Me P w K mg base (L2.CX P w) "Text" "letters" 5 ["self", "start", "stop"] [] (spOf K 3 Tr.F_letters)) : FnOk P w K mg base CX0 6 f fd ["text"] (spOf K 1 Tr.V_unfolded) := by
  have := T.c_Text
  have := T.s_SIZES
  refine FunD.ok F sc_unfolded (fun vs H Q E h => ?_) (fun cdv A outer s H vs Q E hr h => ⟨Tr.t_unfolded K (spOf K 3 Tr.F_letters), PSs.nox ?_, (Tr.pure_unfolded _ T.c_Text) vs H Q E h⟩)
  · obtain ⟨_, _, _, _, _, hl, _⟩ := h
    exact hl
  · exact (pss_cons (ps_set (i := 1) sc_unfolded.nd rfl (Or.inl rfl) (pe_lst pa_nil)) (pss_cons (ps_for PassesOwn.never rfl (pi_range3 (by rfl) T.f_range (pa_cons pe_int (pa_cons (pe_fld (pv 0) rfl) (pa_cons pe_int pa_nil)))) (pg_name (i := 2) sc_unfolded.nd rfl (Or.inl rfl)) (pss_one (ps_expr (pe_bm PySem.F.plainAttrs_list PySem.F.slot_list_append PySem.F.type_list_append mt_append (pv 1) (pa_cons (pe_meE G_Text_letters (pv 0) (hr.mono (by decide)) (fun σ => passNo σ) (pa_cons (pv 2) (pa_cons (pe_callB (call_min2 rfl) (by rfl) T.f_min (by decide +kernel) (pa_cons (pe_fld (pv 0) rfl) (pa_cons (pe_op op_add (pv 2) pe_int) pa_nil))) pa_nil))) pa_nil))))) (pss_one (ps_ret (pe_joinL pe_str (pv 1))))))
theorem ok_grown {f : Addr} {fd : FuncData} (T : Tp w K mg) (F : FunD K "grown" "grown" (defArgs s_grown) (defBody s_grown) (defScope s_grown) [] [] f fd) : FnOk P w K mg base CX0 1 f fd ["source", "start", "text", "at", "many"] (spOf K 5 Tr.V_grown) := by
  have := T.c_Text
  have := T.s_SIZES
  refine FunD.ok F sc_grown (fun vs H Q E h => ?_) (fun cdv A outer s H vs Q E hr h => ⟨Tr.t_grown K, PSs.nox ?_, (Tr.pure_grown ) vs H Q E h⟩)
  · obtain ⟨_, _, _, _, _, hl, _⟩ := h
    exact hl
  · exact (pss_cons (ps_while PassesOwn.never (PW.pt (pw_and (pt_cmpR op_lt (pe_op op_add (pv 3) (pv 4)) (pe_callB call_len (by rfl) T.f_len (by decide +kernel) (pa_cons (pv 2) pa_nil)) (nomark _)) (pw_and (pt_cmpR op_lt (pe_op op_add (pv 1) (pv 4)) (pe_callB call_len (by rfl) T.f_len (by decide +kernel) (pa_cons (pv 0) pa_nil)) (nomark _)) (pw_and1 (pt_cmpR op_eq (pe_ix ix_seq (pv 0) (pe_op op_add (pv 1) (pv 4)) (fun _ _ => rfl)) (pe_ix ix_seq (pv 2) (pe_op op_add (pv 3) (pv 4)) (fun _ _ => rfl)) (nomark _)))))) (pss_one (ps_aug (i := 4) sc_grown.nd rfl (Or.inl rfl) pe_int ip_add))) (pss_one (ps_ret (pv 4))))
theorem ok_first_place {f : Addr} {fd : FuncData} (T : Tp w K mg) (F : FunD K "first_place" "first_place" (defArgs s_first_place) (defBody s_first_place) (defScope s_first_place) [] [] f fd) : FnOk P w K mg base CX0 1 f fd ["unpacked", "number", "at", "many"] (spOf K 4 Tr.V_first_place) := by
  have := T.c_Text
  have := T.s_SIZES
  refine FunD.ok F sc_first_place (fun vs H Q E h => ?_) (fun cdv A outer s H vs Q E hr h => ⟨Tr.t_first_place K, PSs.nox ?_, (Tr.pure_first_place ) vs H Q E h⟩)
  · obtain ⟨_, _, _, _, _, hl, _⟩ := h
    exact hl
  · exact (pss_cons (ps_set (i := 4) sc_first_place.nd rfl (Or.inl rfl) (pe_slice sl_str (pe_ix ix_seq (pv 0) (pv 1) (fun _ _ => rfl)) (po_some (pv 2)) (po_some (pe_op op_add (pv 2) (pv 3))))) (pss_cons (ps_for PassesOwn.never rfl (pi_range1 (by rfl) T.f_range (pa_cons (pe_op op_add (pv 1) pe_int) pa_nil)) (pg_name (i := 5) sc_first_place.nd rfl (Or.inl rfl)) (pss_cons (ps_set (i := 6) sc_first_place.nd rfl (Or.inl rfl) (pe_ifExp (pt_cmpR op_eq (pv 5) (pv 1) (nomark _)) (pe_op op_sub (pe_op op_add (pv 2) (pv 3)) pe_int) (pe_callB call_len (by rfl) T.f_len (by decide +kernel) (pa_cons (pe_ix ix_seq (pv 0) (pv 5) (fun _ _ => rfl)) pa_nil)))) (pss_cons (ps_set (i := 7) sc_first_place.nd rfl (Or.inl rfl) (pe_bm (id := "str.find") PySem.F.plainAttrs_str PySem.F.slot_str_find PySem.F.type_str_find mt_find4 (pe_ix ix_seq (pv 0) (pv 5) (fun _ _ => rfl)) (pa_cons (pv 4) (pa_cons pe_int (pa_cons (pv 6) pa_nil))))) (pss_one (ps_if (pt_cmpR op_ge (pv 7) pe_int (nomark _)) (pss_one (ps_ret (pe_tup (pa_cons (pv 5) (pa_cons (pv 7) pa_nil))))) pss_nil))))) (pss_one (ps_ret pe_non))))
theorem ok_longest_copy {f : Addr} {fd : FuncData} (T : Tp w K mg) (F : FunD K "longest_copy" "longest_copy" (defArgs s_longest_copy) (defBody s_longest_copy) (defScope s_longest_copy) [] [] f fd) (G_grown : Fn P w K mg base CX0 "grown" 1 ["source", "start", "text", "at", "many"] [] (spOf K 5 Tr.V_grown)) : FnOk P w K mg base CX0 2 f fd ["unpacked", "number", "at"] (spOf K 3 Tr.V_longest_copy) := by
  have := T.c_Text
  have := T.s_SIZES
  refine FunD.ok F sc_longest_copy (fun vs H Q E h => ?_) (fun cdv A outer s H vs Q E hr h => ⟨Tr.t_longest_copy K (spOf K 5 Tr.V_grown), PSs.nox ?_, (Tr.pure_longest_copy _) vs H Q E h⟩)
  · obtain ⟨_, _, _, _, _, hl, _⟩ := h
    exact hl
  · exact (pss_cons (ps_set (i := 3) sc_longest_copy.nd rfl (Or.inl rfl) (pe_ix ix_seq (pv 0) (pv 1) (fun _ _ => rfl))) (pss_cons (ps_set (i := 4) sc_longest_copy.nd rfl (Or.inl rfl) pe_non) (pss_cons (ps_set (i := 5) sc_longest_copy.nd rfl (Or.inl rfl) pe_int) (pss_cons (ps_for PassesOwn.never rfl (pi_range1 (by rfl) T.f_range (pa_cons (pe_op op_add (pv 1) pe_int) pa_nil)) (pg_name (i := 6) sc_longest_copy.nd rfl (Or.inl rfl)) (pss_one (ps_while PassesOwn.never (pt_cmpR op_lt (pe_op op_add (pv 2) (pv 5)) (pe_callB call_len (by rfl) T.f_len (by decide +kernel) (pa_cons (pv 3) pa_nil)) (nomark _)) (pss_cons (ps_set (i := 7) sc_longest_copy.nd rfl (Or.inl rfl) (pe_slice sl_str (pv 3) (po_some (pv 2)) (po_some (pe_op op_add (pe_op op_add (pv 2) (pv 5)) pe_int)))) (pss_cons (ps_set (i := 8) sc_longest_copy.nd rfl (Or.inl rfl) (pe_ifExp (pt_cmpR op_eq (pv 6) (pv 1) (nomark _)) (pe_op op_add (pv 2) (pv 5)) (pe_callB call_len (by rfl) T.f_len (by decide +kernel) (pa_cons (pe_ix ix_seq (pv 0) (pv 6) (fun _ _ => rfl)) pa_nil)))) (pss_cons (ps_set (i := 9) sc_longest_copy.nd rfl (Or.inl rfl) (pe_bm (id := "str.find") PySem.F.plainAttrs_str PySem.F.slot_str_find PySem.F.type_str_find mt_find4 (pe_ix ix_seq (pv 0) (pv 6) (fun _ _ => rfl)) (pa_cons (pv 7) (pa_cons pe_int (pa_cons (pv 8) pa_nil))))) (pss_cons (ps_if (pt_cmpR op_lt (pv 9) pe_int (nomark _)) (pss_one ps_break) pss_nil) (pss_cons (ps_set (i := 5) sc_longest_copy.nd rfl (Or.inl rfl) (pe_fn G_grown (hr.mono (by decide)) pass0 (pa_cons (pe_ix ix_seq (pv 0) (pv 6) (fun _ _ => rfl)) (pa_cons (pv 9) (pa_cons (pv 3) (pa_cons (pv 2) (pa_cons (pe_op op_add (pv 5) pe_int) pa_nil))))))) (pss_one (ps_set (i := 4) sc_longest_copy.nd rfl (Or.inl rfl) (pe_tup (pa_cons (pv 6) (pa_cons (pv 9) (pa_cons (pv 5) pa_nil)))))))))))))) (pss_one (ps_ret (pv 4)))))))
theorem ok_shortest_cut {f : Addr} {fd : FuncData} (T : Tp w K mg) (F : FunD K "shortest_cut" "shortest_cut" (defArgs s_shortest_cut) (defBody s_shortest_cut) (defScope s_shortest_cut) [] [] f fd) (G_unfolded : Fn P w K mg base CX0 "unfolded" 6 ["text"] [] (spOf K 1 Tr.V_unfolded)) (G_longest_copy : Fn P w K mg base CX0 "longest_copy" 2 ["unpacked", "number", "at"] [] (spOf K 3 Tr.V_longest_copy)) (G_first_place : Fn P w K mg base CX0 "first_place" 1 ["unpacked", "number", "at", "many"] [] (spOf K 4 Tr.V_first_place)) : FnOk P w K mg base CX0 7 f fd ["texts"] (spOf K 1 Tr.V_shortest_cut) := by
  have := T.c_Text
  have := T.s_SIZES
  refine FunD.ok F sc_shortest_cut (fun vs H Q E h => ?_) (fun cdv A outer s H vs Q E hr h => ⟨Tr.t_shortest_cut K (spOf K 1 Tr.V_unfolded) (spOf K 3 Tr.V_longest_copy) (spOf K 4 Tr.V_first_place), PSs.nox ?_, (Tr.pure_shortest_cut _ _ _ T.c_Text) vs H Q E h⟩)
  · obtain ⟨_, _, _, _, _, hl, _⟩ := h
    exact hl
  · exact (pss_cons (ps_if (pt_cmpR op_gt (pe_callB (cr_sum rfl) (by rfl) T.f_sum (by decide +kernel) (pa_cons (pe_lc (own := [("text", 9)]) (g := (gName 9)) (tt := tYes) (by rfl) sc_shortest_cut.nd (pi_list (pv 0)) (blkOk_by (own := [("text", 9)]) (N := Tr.N_shortest_cut) (sc := defScope s_shortest_cut) (by decide +kernel)) (fun _ _ _ _ _ => (pg_name (i := 9) sc_shortest_cut.nd rfl (Or.inl rfl))) (fun _ _ _ _ _ => pts_nil) (fun _ _ _ _ _ => (pe_fld (pv 9) rfl))) pa_nil)) (pe_gI T.g_MOST_LETTERS_cuts) (nomark _)) (pss_one ps_dead) pss_nil) (pss_cons (ps_setLc (i := 1) (own := [("text", 9)]) (g := (gName 9)) (tt := tYes) (by rfl) sc_shortest_cut.nd rfl rfl (sw_true rfl rfl rfl (by decide +kernel)) (pi_list (pv 0)) (blkOk_by (own := [("text", 9)]) (N := Tr.N_shortest_cut) (sc := defScope s_shortest_cut) (by decide +kernel)) (fun _ _ _ _ _ => (pg_name (i := 9) sc_shortest_cut.nd rfl (Or.inl rfl))) (fun _ _ _ _ _ => pts_nil) (fun _ _ _ _ _ => (pe_fn G_unfolded (hr.mono (by decide)) pass0 (pa_cons (pv 9) pa_nil)))) (pss_cons (ps_set (i := 2) sc_shortest_cut.nd rfl (Or.inl rfl) (pe_lst pa_nil)) (pss_cons (ps_for PassesOwn.never rfl (pi_range1 (by rfl) T.f_range (pa_cons (pe_callB call_len (by rfl) T.f_len (by decide +kernel) (pa_cons (pv 0) pa_nil)) pa_nil)) (pg_name (i := 3) sc_shortest_cut.nd rfl (Or.inl rfl)) (pss_cons (ps_set (i := 4) sc_shortest_cut.nd rfl (Or.inl rfl) (pe_lst pa_nil)) (pss_cons (ps_set (i := 5) sc_shortest_cut.nd rfl (Or.inl rfl) pe_int) (pss_cons (ps_while PassesOwn.never (pt_cmpR op_lt (pv 5) (pe_callB call_len (by rfl) T.f_len (by decide +kernel) (pa_cons (pe_ix ix_seq (pv 1) (pv 3) (fun _ _ => rfl)) pa_nil)) (nomark _)) (pss_cons (ps_set (i := 6) sc_shortest_cut.nd rfl (Or.inl rfl) (pe_fn G_longest_copy (hr.mono (by decide)) pass0 (pa_cons (pv 1) (pa_cons (pv 3) (pa_cons (pv 5) pa_nil))))) (pss_one (ps_if (pt_cmpR op_isN (pv 6) pe_non (nomark _)) (pss_cons (ps_expr (pe_bm PySem.F.plainAttrs_list PySem.F.slot_list_append PySem.F.type_list_append mt_append (pv 4) (pa_cons (pe_tup (pa_cons pe_str (pa_cons (pe_ix ix_seq (pe_ix ix_seq (pv 1) (pv 3) (fun _ _ => rfl)) (pv 5) (fun _ _ => rfl)) pa_nil))) pa_nil))) (pss_one (ps_aug (i := 5) sc_shortest_cut.nd rfl (Or.inl rfl) pe_int ip_add))) (pss_cons (ps_asg (pe_fn G_first_place (hr.mono (by decide)) pass0 (pa_cons (pv 1) (pa_cons (pv 3) (pa_cons (pv 5) (pa_cons (pe_ix ix_seq (pv 6) pe_int (fun _ _ => rfl)) pa_nil))))) (pg_tup rfl (pgs_cons (pg_name (i := 7) sc_shortest_cut.nd rfl (Or.inl rfl)) (pgs_cons (pg_name (i := 8) sc_shortest_cut.nd rfl (Or.inl rfl)) pgs_nil)))) (pss_cons (ps_expr (pe_bm PySem.F.plainAttrs_list PySem.F.slot_list_append PySem.F.type_list_append mt_append (pv 4) (pa_cons (pe_tup (pa_cons pe_str (pa_cons (pv 7) (pa_cons (pv 8) (pa_cons (pe_ix ix_seq (pv 6) pe_int (fun _ _ => rfl)) pa_nil))))) pa_nil))) (pss_one (ps_aug (i := 5) sc_shortest_cut.nd rfl (Or.inl rfl) (pe_ix ix_seq (pv 6) pe_int (fun _ _ => rfl)) ip_add)))))))) (pss_one (ps_expr (pe_bm PySem.F.plainAttrs_list PySem.F.slot_list_append PySem.F.type_list_append mt_append (pv 2) (pa_cons (pe_callTy call_tuple_of (by rfl) T.f_tuple (by decide +kernel) (pa_cons (pv 4) pa_nil)) pa_nil)))))))) (pss_one (ps_ret (pe_callTy call_tuple_of (by rfl) T.f_tuple (by decide +kernel) (pa_cons (pv 2) pa_nil))))))))
theorem ok_law_pool {f : Addr} {fd : FuncData} (T : Tp w K mg) (F : FunD K "_law_pool" "_law_pool" (defArgs s_law_pool) (defBody s_law_pool) (defScope s_law_pool) [] [] f fd) : FnOk P w K mg base CX0 1 f fd ["_law_script"] (spOf K 1 Tr.v_law_pool) := by
  have := T.c_Text
  have := T.s_SIZES
  refine FunD.ok F sc_law_pool (fun vs H Q E h => ?_) (fun cdv A outer s H vs Q E hr h => ⟨Tr.t_law_pool K, PSs.nox ?_, (Tr.pure_law_pool ) vs H Q E h⟩)
  · obtain ⟨_, _, _, _, _, hl, _⟩ := h
    exact hl
  · exact (pss_one (ps_ret (pe_lst (pa_cons (pe_lc (own := [("_law_cell", 1)]) (g := (gName 1)) (tt := tYes) (by rfl) sc_law_pool.nd (pi_list (pv 0)) (blkOk_by (own := [("_law_cell", 1)]) (N := Tr.N_law_pool) (sc := defScope s_law_pool) (by decide +kernel)) (fun _ _ _ _ _ => (pg_name (i := 1) sc_law_pool.nd rfl (Or.inl rfl))) (fun _ _ _ _ _ => pts_nil) (fun _ _ _ _ _ => (pe_ifExp (pt_cmpR op_ge (pv 1) pe_int (nomark _)) (pe_op op_mul pe_int (pv 1)) (pe_op op_sub (pe_op op_mul (pe_un un_neg pe_int) (pv 1)) pe_int)))) (pa_cons pe_int (pa_cons pe_int (pa_cons pe_int pa_nil)))))))
theorem ok_law_take {k : Nat} {sp sp_self : Sp} {f : Addr} {fd : FuncData} (T : Tp w K mg) (F : FunD K "_law_take" "_law_take" (defArgs s_law_take) (defBody s_law_take) (defScope s_law_take) [] [] f fd) (G_law_take : Fn P w K mg base CX0 "_law_take" k ["_law_pool_here", "_law_many"] [] (sp_self)) (len : ∀ vs H Q E, sp vs H Q E → vs.length = 2)
    (pure : ∀ vs H Q E, sp vs H Q E → Tr.t_law_take K (sp_self) { nx := fun _ H' => Q .non H', rt := Q } (start Tr.N_law_take vs) H) : FnOk P w K mg base CX0 (k + 1) f fd ["_law_pool_here", "_law_many"] sp := by
  refine FunD.ok F sc_law_take len (fun cdv A outer s H vs Q E hr h => ⟨Tr.t_law_take K (sp_self), PSs.nox ?_, pure vs H Q E h⟩)
  exact (pss_cons (ps_if (pt_cmpR op_gt (pe_ix ix_seq (pv 0) pe_int (fun _ _ => rfl)) pe_int (nomark _)) (pss_cons (ps_set (i := 2) sc_law_take.nd rfl (Or.inl rfl) (pe_op op_mod (pe_callTy call_int1 (by rfl) T.f_int (by decide +kernel) (pa_cons (pe_ix ix_seq (pv 0) pe_int (fun _ _ => rfl)) pa_nil)) (pv 1))) (pss_cons (ps_asg (pe_op op_fdivW (pe_ix ix_seq (pv 0) pe_int (fun _ _ => rfl)) (pv 1)) (pg_sub (pv 0) pe_int set_list)) (pss_one (ps_ret (pv 2))))) pss_nil) (pss_cons (ps_set (i := 3) sc_law_take.nd rfl (Or.inl rfl) pe_int) (Evl.pss_cut (ps_if (pt_cmpR op_lt (pe_ix ix_seq (pv 0) pe_int (fun _ _ => rfl)) (pe_callB call_len (by rfl) T.f_len (by decide +kernel) (pa_cons (pe_ix ix_seq (pv 0) pe_int (fun _ _ => rfl)) pa_nil)) (nomark _)) (pss_one (ps_set (i := 3) sc_law_take.nd rfl (Or.inl rfl) (pe_ix ix_seq (pe_ix ix_seq (pv 0) pe_int (fun _ _ => rfl)) (pe_ix ix_seq (pv 0) pe_int (fun _ _ => rfl)) (fun _ _ => rfl)))) pss_nil) (pss_cons (ps_asg (pe_op op_add (pe_ix ix_seq (pv 0) pe_int (fun _ _ => rfl)) pe_int) (pg_sub (pv 0) pe_int set_list)) (pss_cons (ps_if (pt_cmpR op_ge (pv 3) (pe_op op_pow pe_int pe_int) (nomark _)) (pss_cons (ps_asg (pe_op op_fdivW (pv 3) pe_int) (pg_sub (pv 0) pe_int set_list)) (pss_one (ps_ret (pe_fn G_law_take (hr.mono (by omega)) pass0 (pa_cons (pv 0) (pa_cons (pv 1) pa_nil)))))) pss_nil) (pss_cons (ps_asg (pe_op op_mod (pe_callTy call_int1 (by rfl) T.f_int (by decide +kernel) (pa_cons (pe_op op_add (pe_op op_add (pe_op op_mul (pe_ix ix_seq (pv 0) pe_int (fun _ _ => rfl)) pe_int) (pe_op op_mul (pv 3) pe_int)) (pe_op op_mul (pe_ix ix_seq (pv 0) pe_int (fun _ _ => rfl)) pe_int)) pa_nil)) pe_int) (pg_sub (pv 0) pe_int set_list)) (pss_cons (ps_set (i := 4) sc_law_take.nd rfl (Or.inl rfl) (pe_op op_mod (pe_callTy call_int1 (by rfl) T.f_int (by decide +kernel) (pa_cons (pe_op op_add (pe_op op_add (pe_op op_mul (pe_ix ix_seq (pv 0) pe_int (fun _ _ => rfl)) (pe_ix ix_seq (pv 0) pe_int (fun _ _ => rfl))) (pe_op op_mul (pe_ix ix_seq (pv 0) pe_int (fun _ _ => rfl)) pe_int)) pe_int) pa_nil)) pe_int)) (pss_one (ps_ret (pe_op op_mod (pe_callTy call_int1 (by rfl) T.f_int (by decide +kernel) (pa_cons (pe_op op_fdivW (pv 4) pe_int) pa_nil)) (pv 1)))))))))))
theorem ok_law_letters {f : Addr} {fd : FuncData} (T : Tp w K mg) (F : FunD K "_law_letters" "_law_letters" (defArgs s_law_letters) (defBody s_law_letters) (defScope s_law_letters) [] [] f fd) (G_law_take : Fn P w K mg base CX0 "_law_take" 2 ["_law_pool_here", "_law_many"] [] (spOf K 2 Tr.V_take)) : FnOk P w K mg base CX0 3 f fd ["_law_pool_here", "_law_most"] (spOf K 2 Tr.V_letters) := by
  have := T.c_Text
  have := T.s_SIZES
  refine FunD.ok F sc_law_letters (fun vs H Q E h => ?_) (fun cdv A outer s H vs Q E hr h => ⟨Tr.t_law_letters K (spOf K 2 Tr.V_take), PSs.nox ?_, (Tr.pure_law_letters _) vs H Q E h⟩)
  · obtain ⟨_, _, _, _, _, hl, _⟩ := h
    exact hl
  · exact (pss_cons (ps_set (i := 2) sc_law_letters.nd rfl (Or.inl rfl) pe_str) (pss_cons (ps_set (i := 3) sc_law_letters.nd rfl (Or.inl rfl) (pe_fn G_law_take (hr.mono (by decide)) pass0 (pa_cons (pv 0) (pa_cons pe_int pa_nil)))) (pss_cons (ps_set (i := 4) sc_law_letters.nd rfl (Or.inl rfl) (pe_fn G_law_take (hr.mono (by decide)) pass0 (pa_cons (pv 0) (pa_cons pe_int pa_nil)))) (pss_cons (ps_set (i := 5) sc_law_letters.nd rfl (Or.inl rfl) pe_str) (pss_cons (ps_for PassesOwn.never rfl (pi_range1 (by rfl) T.f_range (pa_cons (pe_fn G_law_take (hr.mono (by decide)) pass0 (pa_cons (pv 0) (pa_cons (pe_op op_add (pv 1) pe_int) pa_nil))) pa_nil)) (pg_name (i := 6) sc_law_letters.nd rfl (Or.inl rfl)) (pss_cons (ps_set (i := 7) sc_law_letters.nd rfl (Or.inl rfl) (pe_ix ix_seq (pv 2) (pe_op op_add (pv 4) (pe_fn G_law_take (hr.mono (by decide)) pass0 (pa_cons (pv 0) (pa_cons pe_int pa_nil)))) (fun _ _ => rfl))) (Evl.pss_cut (ps_if (pt_cmpR op_eq (pv 3) pe_int (nomark _)) (pss_one (ps_set (i := 7) sc_law_letters.nd rfl (Or.inl rfl) (pe_ix ix_seq (pv 2) (pe_fn G_law_take (hr.mono (by decide)) pass0 (pa_cons (pv 0) (pa_cons pe_int pa_nil))) (fun _ _ => rfl)))) pss_nil) (Evl.pss_cut (ps_if (pt_cmpR op_eq (pv 3) pe_int (nomark _)) (pss_one (ps_set (i := 7) sc_law_letters.nd rfl (Or.inl rfl) (pe_ix ix_seq pe_str (pe_fn G_law_take (hr.mono (by decide)) pass0 (pa_cons (pv 0) (pa_cons pe_int pa_nil))) (fun _ _ => rfl)))) pss_nil) (Evl.pss_cut (ps_if (pt_cmpR op_gt (pv 3) pe_int (nomark _)) (pss_one (ps_set (i := 7) sc_law_letters.nd rfl (Or.inl rfl) (pe_ix ix_seq pe_str (pe_fn G_law_take (hr.mono (by decide)) pass0 (pa_cons (pv 0) (pa_cons pe_int pa_nil))) (fun _ _ => rfl)))) pss_nil) (pss_one (ps_set (i := 5) sc_law_letters.nd rfl (Or.inl rfl) (pe_op op_add_str (pv 5) (pv 7))))))))) (pss_one (ps_ret (pv 5))))))))
theorem ok_law_add {f : Addr} {fd : FuncData} (T : Tp w K mg) (F : FunD K "_law_add" "_law_add" (defArgs s_law_add) (defBody s_law_add) (defScope s_law_add) [] [] f fd) : FnOk P w K mg base CX0 1 f fd ["_law_box_here", "_law_rule", "_law_text"] (spOf K 3 Tr.V_add) := by
  have := T.c_Text
  have := T.s_SIZES
  refine FunD.ok F sc_law_add (fun vs H Q E h => ?_) (fun cdv A outer s H vs Q E hr h => ⟨Tr.t_law_add K, PSs.nox ?_, (Tr.pure_law_add ) vs H Q E h⟩)
  · obtain ⟨_, _, _, _, _, hl, _⟩ := h
    exact hl
  · exact (pss_cons (ps_dput (hu_of hr) (pv 0) pe_str (pe_op op_cat (pe_dget (hu_of hr) (pv 0) pe_str (fun _ _ => rfl)) (pe_lst (pa_cons (pv 1) pa_nil))) rfl) (pss_cons (ps_dput (hu_of hr) (pv 0) pe_str (pe_op op_cat (pe_dget (hu_of hr) (pv 0) pe_str (fun _ _ => rfl)) (pe_lst (pa_cons (pv 2) pa_nil))) rfl) (pss_one (ps_ret (pe_op op_sub (pe_callB call_len (by rfl) T.f_len (by decide +kernel) (pa_cons (pe_dget (hu_of hr) (pv 0) pe_str (fun _ _ => rfl)) pa_nil)) pe_int)))))
theorem ok_law_box {f : Addr} {fd : FuncData} (T : Tp w K mg) (F : FunD K "_law_box" "_law_box" (defArgs s_law_box) (defBody s_law_box) (defScope s_law_box) [] [] f fd) : FnOk P w K mg base CX0 1 f fd [] (spOf K 0 Tr.v_law_box) := by
  have := T.c_Text
  have := T.s_SIZES
  refine FunD.ok F sc_law_box (fun vs H Q E h => ?_) (fun cdv A outer s H vs Q E hr h => ⟨Tr.t_law_box K, PSs.nox ?_, (Tr.pure_law_box ) vs H Q E h⟩)
  · obtain ⟨_, _, _, _, _, hl, _⟩ := h
    exact hl
  · exact (pss_one (ps_ret (pe_disp (pps_cons pe_str (pe_lst pa_nil) (pps_cons pe_str (pe_lst pa_nil) pps_nil)) rfl rfl (fun h => nomatch h) (by decide))))
theorem ok_law_power_rule {f : Addr} {fd : FuncData} (T : Tp w K mg) (F : FunD K "_law_power_rule" "_law_power_rule" (defArgs s_law_power_rule) (defBody s_law_power_rule) (defScope s_law_power_rule) [] [] f fd) (G_law_take : Fn P w K mg base CX0 "_law_take" 2 ["_law_pool_here", "_law_many"] [] (spOf K 2 Tr.V_take)) (G_law_add : Fn P w K mg base CX0 "_law_add" 1 ["_law_box_here", "_law_rule", "_law_text"] [] (spOf K 3 Tr.V_add)) : FnOk P w K mg base CX0 3 f fd ["_law_pool_here", "_law_box_here", "_law_most"] (spOf K 3 Tr.V_power_rule) := by
  have := T.c_Text
  have := T.s_SIZES
  refine FunD.ok F sc_law_power_rule (fun vs H Q E h => ?_) (fun cdv A outer s H vs Q E hr h => ⟨Tr.t_law_power_rule K (spOf K 2 Tr.V_take) (spOf K 3 Tr.V_add), PSs.nox ?_, (Tr.pure_law_power_rule _ _) vs H Q E h⟩)
  · obtain ⟨_, _, _, _, _, hl, _⟩ := h
    exact hl
  · exact (pss_cons (ps_set (i := 3) sc_law_power_rule.nd rfl (Or.inl rfl) (pe_fn G_law_take (hr.mono (by decide)) pass0 (pa_cons (pv 0) (pa_cons (pe_callB call_len (by rfl) T.f_len (by decide +kernel) (pa_cons (pe_dget (hu_of hr) (pv 1) pe_str (fun _ _ => rfl)) pa_nil)) pa_nil)))) (pss_cons (ps_set (i := 4) sc_law_power_rule.nd rfl (Or.inl rfl) (pe_ix ix_seq (pe_dget (hu_of hr) (pv 1) pe_str (fun _ _ => rfl)) (pv 3) (fun _ _ => rfl))) (pss_cons (ps_set (i := 5) sc_law_power_rule.nd rfl (Or.inl rfl) (pe_fn G_law_take (hr.mono (by decide)) pass0 (pa_cons (pv 0) (pa_cons pe_int pa_nil)))) (Evl.pss_cut (ps_if (PW.pt (pw_and (pt_cmpR op_ne (pv 4) pe_str (nomark _)) (pw_and1 (pt_cmpR op_eq (pe_fn G_law_take (hr.mono (by decide)) pass0 (pa_cons (pv 0) (pa_cons pe_int pa_nil))) pe_int (nomark _))))) (pss_one (ps_set (i := 5) sc_law_power_rule.nd rfl (Or.inl rfl) (pe_fn G_law_take (hr.mono (by decide)) pass0 (pa_cons (pv 0) (pa_cons (pe_op op_add (pe_op op_fdivW (pv 2) (pe_callB call_len (by rfl) T.f_len (by decide +kernel) (pa_cons (pv 4) pa_nil))) pe_int) pa_nil))))) pss_nil) (Evl.pss_cut (ps_if (pt_cmpR op_gt (pe_op op_mul (pe_callB call_len (by rfl) T.f_len (by decide +kernel) (pa_cons (pv 4) pa_nil)) (pv 5)) (pv 2) (nomark _)) (pss_one (ps_set (i := 5) sc_law_power_rule.nd rfl (Or.inl rfl) (pe_op op_fdivW (pv 2) (pe_callB call_len (by rfl) T.f_len (by decide +kernel) (pa_cons (pv 4) pa_nil))))) pss_nil) (pss_one (ps_ret (pe_fn G_law_add (hr.mono (by decide)) pass0 (pa_cons (pv 1) (pa_cons (pe_tup (pa_cons pe_str (pa_cons (pv 3) (pa_cons (pv 5) pa_nil)))) (pa_cons (pe_op op_repS (pv 4) (pv 5)) pa_nil)))))))))))
theorem ok_law_next_rule {f : Addr} {fd : FuncData} (T : Tp w K mg) (F : FunD K "_law_next_rule" "_law_next_rule" (defArgs s_law_next_rule) (defBody s_law_next_rule) (defScope s_law_next_rule) [] [] f fd) (G_law_take : Fn P w K mg base CX0 "_law_take" 2 ["_law_pool_here", "_law_many"] [] (spOf K 2 Tr.V_take)) (G_law_letters : Fn P w K mg base CX0 "_law_letters" 3 ["_law_pool_here", "_law_most"] [] (spOf K 2 Tr.V_letters)) (G_law_add : Fn P w K mg base CX0 "_law_add" 1 ["_law_box_here", "_law_rule", "_law_text"] [] (spOf K 3 Tr.V_add)) (G_law_power_rule : Fn P w K mg base CX0 "_law_power_rule" 3 ["_law_pool_here", "_law_box_here", "_law_most"] [] (spOf K 3 Tr.V_power_rule)) : FnOk P w K mg base CX0 4 f fd ["_law_pool_here", "_law_box_here", "_law_most"] (spOf K 3 Tr.V_next_rule) := by
  have := T.c_Text
  have := T.s_SIZES
  refine FunD.ok F sc_law_next_rule (fun vs H Q E h => ?_) (fun cdv A outer s H vs Q E hr h => ⟨Tr.t_law_next_rule K (spOf K 2 Tr.V_take) (spOf K 2 Tr.V_letters) (spOf K 3 Tr.V_add) (spOf K 3 Tr.V_power_rule), PSs.nox ?_, (Tr.pure_law_next_rule _ _ _ _) vs H Q E h⟩)
  · obtain ⟨_, _, _, _, _, hl, _⟩ := h
    exact hl
  · exact (pss_cons (ps_set (i := 3) sc_law_next_rule.nd rfl (Or.inl rfl) (pe_fn G_law_take (hr.mono (by decide)) pass0 (pa_cons (pv 0) (pa_cons pe_int pa_nil)))) (pss_cons (ps_set (i := 4) sc_law_next_rule.nd rfl (Or.inl rfl) (pe_callB call_len (by rfl) T.f_len (by decide +kernel) (pa_cons (pe_dget (hu_of hr) (pv 1) pe_str (fun _ _ => rfl)) pa_nil))) (pss_cons (ps_if (PW.pt (pw_or (pt_cmpR op_eq (pv 4) pe_int (nomark _)) (pw_or1 (pt_cmpR op_eq (pv 3) pe_int (nomark _))))) (pss_cons (ps_set (i := 5) sc_law_next_rule.nd rfl (Or.inl rfl) (pe_fn G_law_letters (hr.mono (by decide)) pass0 (pa_cons (pv 0) (pa_cons (pe_ix ix_seq (pe_tup (pa_cons pe_int (pa_cons pe_int pa_nil))) (pe_callTy call_int1 (by rfl) T.f_int (by decide +kernel) (pa_cons (pe_cmpR op_eq (pe_fn G_law_take (hr.mono (by decide)) pass0 (pa_cons (pv 0) (pa_cons pe_int pa_nil))) pe_int (nomark _)) pa_nil)) (fun _ _ => rfl)) pa_nil)))) (pss_one (ps_ret (pe_fn G_law_add (hr.mono (by decide)) pass0 (pa_cons (pv 1) (pa_cons (pe_tup (pa_cons pe_str (pa_cons (pv 5) pa_nil))) (pa_cons (pv 5) pa_nil))))))) pss_nil) (pss_cons (ps_set (i := 6) sc_law_next_rule.nd rfl (Or.inl rfl) (pe_fn G_law_take (hr.mono (by decide)) pass0 (pa_cons (pv 0) (pa_cons (pv 4) pa_nil)))) (pss_cons (ps_set (i := 7) sc_law_next_rule.nd rfl (Or.inl rfl) (pe_ix ix_seq (pe_dget (hu_of hr) (pv 1) pe_str (fun _ _ => rfl)) (pv 6) (fun _ _ => rfl))) (Evl.pss_cut (ps_if (pt_cmpR op_lt (pv 3) pe_int (nomark _)) (pss_cons (ps_set (i := 8) sc_law_next_rule.nd rfl (Or.inl rfl) (pe_fn G_law_take (hr.mono (by decide)) pass0 (pa_cons (pv 0) (pa_cons (pv 4) pa_nil)))) (Evl.pss_cut (ps_if (pt_cmpR op_eq (pe_fn G_law_take (hr.mono (by decide)) pass0 (pa_cons (pv 0) (pa_cons pe_int pa_nil))) pe_int (nomark _)) (pss_cons (ps_set (i := 6) sc_law_next_rule.nd rfl (Or.inl rfl) (pe_op op_sub (pv 4) pe_int)) (pss_one (ps_set (i := 8) sc_law_next_rule.nd rfl (Or.inl rfl) (pe_callB (call_max2 rfl) (by rfl) T.f_max (by decide +kernel) (pa_cons pe_int (pa_cons (pe_op op_sub (pv 4) pe_int) pa_nil)))))) pss_nil) (pss_one (ps_if (pt_cmpR op_le (pe_op op_add (pe_callB call_len (by rfl) T.f_len (by decide +kernel) (pa_cons (pe_ix ix_seq (pe_dget (hu_of hr) (pv 1) pe_str (fun _ _ => rfl)) (pv 6) (fun _ _ => rfl)) pa_nil)) (pe_callB call_len (by rfl) T.f_len (by decide +kernel) (pa_cons (pe_ix ix_seq (pe_dget (hu_of hr) (pv 1) pe_str (fun _ _ => rfl)) (pv 8) (fun _ _ => rfl)) pa_nil))) (pv 2) (nomark _)) (pss_one (ps_ret (pe_fn G_law_add (hr.mono (by decide)) pass0 (pa_cons (pv 1) (pa_cons (pe_tup (pa_cons pe_str (pa_cons (pv 6) (pa_cons (pv 8) pa_nil)))) (pa_cons (pe_op op_add_str (pe_ix ix_seq (pe_dget (hu_of hr) (pv 1) pe_str (fun _ _ => rfl)) (pv 6) (fun _ _ => rfl)) (pe_ix ix_seq (pe_dget (hu_of hr) (pv 1) pe_str (fun _ _ => rfl)) (pv 8) (fun _ _ => rfl))) pa_nil)))))) pss_nil)))) pss_nil) (pss_cons (ps_if (pt_cmpR op_eq (pv 3) pe_int (nomark _)) (pss_one (ps_ret (pe_fn G_law_add (hr.mono (by decide)) pass0 (pa_cons (pv 1) (pa_cons (pe_tup (pa_cons pe_str (pa_cons (pv 6) pa_nil))) (pa_cons (pe_rev_str (pv 7)) pa_nil)))))) pss_nil) (pss_cons (ps_if (pt_cmpR op_eq (pv 3) pe_int (nomark _)) (pss_cons (ps_set (i := 9) sc_law_next_rule.nd rfl (Or.inl rfl) (pe_fn G_law_take (hr.mono (by decide)) pass0 (pa_cons (pv 0) (pa_cons (pe_op op_add (pe_callB call_len (by rfl) T.f_len (by decide +kernel) (pa_cons (pv 7) pa_nil)) pe_int) pa_nil)))) (pss_cons (ps_set (i := 10) sc_law_next_rule.nd rfl (Or.inl rfl) (pe_op op_add (pv 9) (pe_fn G_law_take (hr.mono (by decide)) pass0 (pa_cons (pv 0) (pa_cons (pe_op op_add (pe_op op_sub (pe_callB call_len (by rfl) T.f_len (by decide +kernel) (pa_cons (pv 7) pa_nil)) (pv 9)) pe_int) pa_nil))))) (pss_one (ps_ret (pe_fn G_law_add (hr.mono (by decide)) pass0 (pa_cons (pv 1) (pa_cons (pe_tup (pa_cons pe_str (pa_cons (pv 6) (pa_cons (pv 9) (pa_cons (pv 10) pa_nil))))) (pa_cons (pe_slice sl_str (pv 7) (po_some (pv 9)) (po_some (pv 10))) pa_nil)))))))) pss_nil) (pss_one (ps_ret (pe_fn G_law_power_rule (hr.mono (by decide)) pass0 (pa_cons (pv 0) (pa_cons (pv 1) (pa_cons (pv 2) pa_nil))))))))))))))
theorem ok_law_turned_letter {f : Addr} {fd : FuncData} (T : Tp w K mg) (F : FunD K "_law_turned_letter" "_law_turned_letter" (defArgs s_law_turned_letter) (defBody s_law_turned_letter) (defScope s_law_turned_letter) [] [] f fd) (G_law_take : Fn P w K mg base CX0 "_law_take" 2 ["_law_pool_here", "_law_many"] [] (spOf K 2 Tr.V_take)) (G_law_add : Fn P w K mg base CX0 "_law_add" 1 ["_law_box_here", "_law_rule", "_law_text"] [] (spOf K 3 Tr.V_add)) : FnOk P w K mg base CX0 3 f fd ["_law_pool_here", "_law_box_here", "_law_most"] (spOf K 3 Tr.V_turned_letter) := by
  have := T.c_Text
  have := T.s_SIZES
  refine FunD.ok F sc_law_turned_letter (fun vs H Q E h => ?_) (fun cdv A outer s H vs Q E hr h => ⟨Tr.t_law_turned_letter K (spOf K 2 Tr.V_take) (spOf K 3 Tr.V_add), PSs.nox ?_, (Tr.pure_law_turned_letter _ _) vs H Q E h⟩)
  · obtain ⟨_, _, _, _, _, hl, _⟩ := h
    exact hl
  · exact (pss_cons (ps_set (i := 3) sc_law_turned_letter.nd rfl (Or.inl rfl) (pe_ix ix_seq (pe_dget (hu_of hr) (pv 1) pe_str (fun _ _ => rfl)) (pe_un un_neg pe_int) (fun _ _ => rfl))) (pss_cons (ps_if (PW.pt (pw_or (pt_cmpR op_eq (pv 3) pe_str (nomark _)) (pw_or1 (pt_cmpR op_gt (pe_callB call_len (by rfl) T.f_len (by decide +kernel) (pa_cons (pv 3) pa_nil)) (pv 2) (nomark _))))) (pss_one ps_retN) pss_nil) (pss_cons (ps_set (i := 4) sc_law_turned_letter.nd rfl (Or.inl rfl) (pe_op op_sub (pe_callB call_len (by rfl) T.f_len (by decide +kernel) (pa_cons (pe_dget (hu_of hr) (pv 1) pe_str (fun _ _ => rfl)) pa_nil)) pe_int)) (pss_cons (ps_set (i := 5) sc_law_turned_letter.nd rfl (Or.inl rfl) (pe_fn G_law_take (hr.mono (by decide)) pass0 (pa_cons (pv 0) (pa_cons (pe_callB call_len (by rfl) T.f_len (by decide +kernel) (pa_cons (pv 3) pa_nil)) pa_nil)))) (pss_cons (ps_set (i := 6) sc_law_turned_letter.nd rfl (Or.inl rfl) (pe_ix ix_seq pe_str (pe_fn G_law_take (hr.mono (by decide)) pass0 (pa_cons (pv 0) (pa_cons pe_int pa_nil))) (fun _ _ => rfl))) (pss_cons (ps_set (i := 7) sc_law_turned_letter.nd rfl (Or.inl rfl) (pe_fn G_law_add (hr.mono (by decide)) pass0 (pa_cons (pv 1) (pa_cons (pe_tup (pa_cons pe_str (pa_cons (pv 4) (pa_cons pe_int (pa_cons (pv 5) pa_nil))))) (pa_cons (pe_slice sl_str (pv 3) po_none (po_some (pv 5))) pa_nil))))) (pss_cons (ps_set (i := 8) sc_law_turned_letter.nd rfl (Or.inl rfl) (pe_fn G_law_add (hr.mono (by decide)) pass0 (pa_cons (pv 1) (pa_cons (pe_tup (pa_cons pe_str (pa_cons (pv 6) pa_nil))) (pa_cons (pv 6) pa_nil))))) (pss_cons (ps_set (i := 9) sc_law_turned_letter.nd rfl (Or.inl rfl) (pe_fn G_law_add (hr.mono (by decide)) pass0 (pa_cons (pv 1) (pa_cons (pe_tup (pa_cons pe_str (pa_cons (pv 4) (pa_cons (pe_op op_add (pv 5) pe_int) (pa_cons (pe_callB call_len (by rfl) T.f_len (by decide +kernel) (pa_cons (pv 3) pa_nil)) pa_nil))))) (pa_cons (pe_slice sl_str (pv 3) (po_some (pe_op op_add (pv 5) pe_int)) po_none) pa_nil))))) (pss_cons (ps_set (i := 10) sc_law_turned_letter.nd rfl (Or.inl rfl) (pe_fn G_law_add (hr.mono (by decide)) pass0 (pa_cons (pv 1) (pa_cons (pe_tup (pa_cons pe_str (pa_cons (pv 7) (pa_cons (pv 8) pa_nil)))) (pa_cons (pe_op op_add_str (pe_slice sl_str (pv 3) po_none (po_some (pv 5))) (pv 6)) pa_nil))))) (pss_one (ps_expr (pe_fn G_law_add (hr.mono (by decide)) pass0 (pa_cons (pv 1) (pa_cons (pe_tup (pa_cons pe_str (pa_cons (pv 10) (pa_cons (pv 9) pa_nil)))) (pa_cons (pe_op op_add_str (pe_op op_add_str (pe_slice sl_str (pv 3) po_none (po_some (pv 5))) (pv 6)) (pe_slice sl_str (pv 3) (po_some (pe_op op_add (pv 5) pe_int)) po_none)) pa_nil)))))))))))))))
theorem ok_law_drawn {f : Addr} {fd : FuncData} (T : Tp w K mg) (F : FunD K "_law_drawn" "_law_drawn" (defArgs s_law_drawn) (defBody s_law_drawn) (defScope s_law_drawn) [] [] f fd) (G_law_box : Fn P w K mg base CX0 "_law_box" 1 [] [] (spOf K 0 Tr.v_law_box)) (G_law_take : Fn P w K mg base CX0 "_law_take" 2 ["_law_pool_here", "_law_many"] [] (spOf K 2 Tr.V_take)) (G_law_next_rule : Fn P w K mg base CX0 "_law_next_rule" 4 ["_law_pool_here", "_law_box_here", "_law_most"] [] (spOf K 3 Tr.V_next_rule)) (G_law_power_rule : Fn P w K mg base CX0 "_law_power_rule" 3 ["_law_pool_here", "_law_box_here", "_law_most"] [] (spOf K 3 Tr.V_power_rule)) (G_law_turned_letter : Fn P w K mg base CX0 "_law_turned_letter" 3 ["_law_pool_here", "_law_box_here", "_law_most"] [] (spOf K 3 Tr.V_turned_letter)) : FnOk P w K mg base CX0 5 f fd ["_law_pool_here", "_law_most"] (spOf K 2 Tr.V_drawn) := by
  have := T.c_Text
  have := T.s_SIZES
  refine FunD.ok F sc_law_drawn (fun vs H Q E h => ?_) (fun cdv A outer s H vs Q E hr h => ⟨Tr.t_law_drawn K (spOf K 0 Tr.v_law_box) (spOf K 2 Tr.V_take) (spOf K 3 Tr.V_next_rule) (spOf K 3 Tr.V_power_rule) (spOf K 3 Tr.V_turned_letter), PSs.nox ?_, (Tr.pure_law_drawn _ _ _ _ _) vs H Q E h⟩)
  · obtain ⟨_, _, _, _, _, hl, _⟩ := h
    exact hl
  · exact (pss_cons (ps_set (i := 2) sc_law_drawn.nd rfl (Or.inl rfl) (pe_fn0 G_law_box (hr.mono (by decide)) pass0)) (Evl.pss_cut (ps_for PassesOwn.never rfl (pi_range1 (by rfl) T.f_range (pa_cons (pe_op op_add pe_int (pe_fn G_law_take (hr.mono (by decide)) pass0 (pa_cons (pv 0) (pa_cons pe_int pa_nil)))) pa_nil)) (pg_name (i := 3) sc_law_drawn.nd rfl (Or.inl rfl)) (pss_one (ps_expr (pe_fn G_law_next_rule (hr.mono (by decide)) pass0 (pa_cons (pv 0) (pa_cons (pv 2) (pa_cons (pv 1) pa_nil))))))) (Evl.pss_cut (ps_if (pt_cmpR op_eq (pe_fn G_law_take (hr.mono (by decide)) pass0 (pa_cons (pv 0) (pa_cons pe_int pa_nil))) pe_int (nomark _)) (pss_one (ps_expr (pe_fn G_law_power_rule (hr.mono (by decide)) pass0 (pa_cons (pv 0) (pa_cons (pv 2) (pa_cons (pv 1) pa_nil)))))) pss_nil) (Evl.pss_cut (ps_if (pt_cmpR op_eq (pe_fn G_law_take (hr.mono (by decide)) pass0 (pa_cons (pv 0) (pa_cons pe_int pa_nil))) pe_int (nomark _)) (pss_one (ps_expr (pe_fn G_law_turned_letter (hr.mono (by decide)) pass0 (pa_cons (pv 0) (pa_cons (pv 2) (pa_cons (pv 1) pa_nil)))))) pss_nil) (pss_one (ps_ret (pv 2)))))))
theorem ok_law_period {f : Addr} {fd : FuncData} (T : Tp w K mg) (F : FunD K "_law_period" "_law_period" (defArgs s_law_period) (defBody s_law_period) (defScope s_law_period) [] [] f fd) : FnOk P w K mg base CX0 1 f fd ["_law_letters_here"] (spOf K 1 Tr.V_period) := by
  have := T.c_Text
  have := T.s_SIZES
  refine FunD.ok F sc_law_period (fun vs H Q E h => ?_) (fun cdv A outer s H vs Q E hr h => ⟨Tr.t_law_period K, PSs.nox ?_, (Tr.pure_law_period ) vs H Q E h⟩)
  · obtain ⟨_, _, _, _, _, hl, _⟩ := h
    exact hl
  · exact (pss_cons (ps_for PassesOwn.never rfl (pi_range2 (by rfl) T.f_range (pa_cons pe_int (pa_cons (pe_op op_add (pe_op op_fdivW (pe_callB call_len (by rfl) T.f_len (by decide +kernel) (pa_cons (pv 0) pa_nil)) pe_int) pe_int) pa_nil))) (pg_name (i := 1) sc_law_period.nd rfl (Or.inl rfl)) (pss_one (ps_if (pt_cmpR op_eq (pe_slice sl_str (pv 0) (po_some (pv 1)) po_none) (pe_slice sl_str (pv 0) po_none (po_some (pe_op op_sub (pe_callB call_len (by rfl) T.f_len (by decide +kernel) (pa_cons (pv 0) pa_nil)) (pv 1)))) (nomark _)) (pss_one (ps_ret (pv 1))) pss_nil))) (pss_one (ps_ret pe_int)))
theorem ok_law_way {k : Nat} {sp sp_self : Sp} {f : Addr} {fd : FuncData} (T : Tp w K mg) (F : FunD K "_law_way" "_law_way" (defArgs s_law_way) (defBody s_law_way) (defScope s_law_way) [] [] f fd) (G_law_take : Fn P w K mg base CX0 "_law_take" 2 ["_law_pool_here", "_law_many"] [] (spOf K 2 Tr.V_take)) (G_law_period : Fn P w K mg base CX0 "_law_period" 1 ["_law_letters_here"] [] (spOf K 1 Tr.V_period)) (G_law_way : Fn P w K mg base CX0 "_law_way" k ["_law_pool_here", "_law_box_here", "_law_letters_here", "_law_deep"] [] (sp_self)) (G_law_add : Fn P w K mg base CX0 "_law_add" 1 ["_law_box_here", "_law_rule", "_law_text"] [] (spOf K 3 Tr.V_add)) (G_law_letters : Fn P w K mg base CX0 "_law_letters" 3 ["_law_pool_here", "_law_most"] [] (spOf K 2 Tr.V_letters)) (hk : 3 ≤ k) (len : ∀ vs H Q E, sp vs H Q E → vs.length = 4)
    (pure : ∀ vs H Q E, sp vs H Q E → Tr.t_law_way K (spOf K 2 Tr.V_take) (spOf K 1 Tr.V_period) (sp_self) (spOf K 3 Tr.V_add) (spOf K 2 Tr.V_letters) { nx := fun _ H' => Q .non H', rt := Q } (start Tr.N_law_way vs) H) : FnOk P w K mg base CX0 (k + 1) f fd ["_law_pool_here", "_law_box_here", "_law_letters_here", "_law_deep"] sp := by
  refine FunD.ok F sc_law_way len (fun cdv A outer s H vs Q E hr h => ⟨Tr.t_law_way K (spOf K 2 Tr.V_take) (spOf K 1 Tr.V_period) (sp_self) (spOf K 3 Tr.V_add) (spOf K 2 Tr.V_letters), PSs.nox ?_, pure vs H Q E h⟩)
  exact (pss_cons (ps_set (i := 4) sc_law_way.nd rfl (Or.inl rfl) (pe_fn G_law_take (hr.mono (by omega)) pass0 (pa_cons (pv 0) (pa_cons pe_int pa_nil)))) (pss_cons (ps_set (i := 5) sc_law_way.nd rfl (Or.inl rfl) (pe_fn G_law_period (hr.mono (by omega)) pass0 (pa_cons (pv 2) pa_nil))) (Evl.pss_cut (ps_if (PW.pt (pw_and (pt_cmpR op_gt (pv 5) pe_int (nomark _)) (pw_and (pt_cmpR op_lt (pv 4) pe_int (nomark _)) (pw_and1 (pt_cmpR op_gt (pv 3) pe_int (nomark _)))))) (pss_cons (ps_set (i := 6) sc_law_way.nd rfl (Or.inl rfl) (pe_op op_fdivW (pe_callB call_len (by rfl) T.f_len (by decide +kernel) (pa_cons (pv 2) pa_nil)) (pv 5))) (pss_cons (ps_set (i := 7) sc_law_way.nd rfl (Or.inl rfl) (pe_fn G_law_way (hr.mono (by omega)) pass0 (pa_cons (pv 0) (pa_cons (pv 1) (pa_cons (pe_slice sl_str (pv 2) po_none (po_some (pv 5))) (pa_cons (pe_op op_sub (pv 3) pe_int) pa_nil)))))) (pss_cons (ps_set (i := 8) sc_law_way.nd rfl (Or.inl rfl) (pe_fn G_law_add (hr.mono (by omega)) pass0 (pa_cons (pv 1) (pa_cons (pe_tup (pa_cons pe_str (pa_cons (pv 7) (pa_cons (pv 6) pa_nil)))) (pa_cons (pe_op op_repS (pe_slice sl_str (pv 2) po_none (po_some (pv 5))) (pv 6)) pa_nil))))) (pss_cons (ps_if (pt_cmpR op_eq (pe_op op_mul (pv 5) (pv 6)) (pe_callB call_len (by rfl) T.f_len (by decide +kernel) (pa_cons (pv 2) pa_nil)) (nomark _)) (pss_one (ps_ret (pv 8))) pss_nil) (pss_cons (ps_set (i := 9) sc_law_way.nd rfl (Or.inl rfl) (pe_fn G_law_add (hr.mono (by omega)) pass0 (pa_cons (pv 1) (pa_cons (pe_tup (pa_cons pe_str (pa_cons (pv 7) (pa_cons pe_int (pa_cons (pe_op op_sub (pe_callB call_len (by rfl) T.f_len (by decide +kernel) (pa_cons (pv 2) pa_nil)) (pe_op op_mul (pv 5) (pv 6))) pa_nil))))) (pa_cons (pe_slice sl_str (pv 2) (po_some (pe_op op_mul (pv 5) (pv 6))) po_none) pa_nil))))) (pss_one (ps_ret (pe_fn G_law_add (hr.mono (by omega)) pass0 (pa_cons (pv 1) (pa_cons (pe_tup (pa_cons pe_str (pa_cons (pv 8) (pa_cons (pv 9) pa_nil)))) (pa_cons (pv 2) pa_nil))))))))))) pss_nil) (Evl.pss_cut (ps_if (PW.pt (pw_or (pt_cmpR op_gt (pe_callB call_len (by rfl) T.f_len (by decide +kernel) (pa_cons (pv 2) pa_nil)) pe_int (nomark _)) (pw_or1 (PW.pt (pw_and (pt_cmpR op_lt (pv 4) pe_int (nomark _)) (pw_and (pt_cmpR op_gt (pv 3) pe_int (nomark _)) (pw_and1 (pt_cmpR op_ne (pv 2) pe_str (nomark _))))))))) (pss_cons (ps_set (i := 10) sc_law_way.nd rfl (Or.inl rfl) (pe_fn G_law_take (hr.mono (by omega)) pass0 (pa_cons (pv 0) (pa_cons (pe_op op_add (pe_callB call_len (by rfl) T.f_len (by decide +kernel) (pa_cons (pv 2) pa_nil)) pe_int) pa_nil)))) (Evl.pss_cut (ps_if (pt_cmpR op_gt (pe_callB call_len (by rfl) T.f_len (by decide +kernel) (pa_cons (pv 2) pa_nil)) pe_int (nomark _)) (pss_one (ps_set (i := 10) sc_law_way.nd rfl (Or.inl rfl) (pe_op op_add pe_int (pe_fn G_law_take (hr.mono (by omega)) pass0 (pa_cons (pv 0) (pa_cons pe_int pa_nil)))))) pss_nil) (pss_cons (ps_set (i := 11) sc_law_way.nd rfl (Or.inl rfl) (pe_fn G_law_way (hr.mono (by omega)) pass0 (pa_cons (pv 0) (pa_cons (pv 1) (pa_cons (pe_slice sl_str (pv 2) po_none (po_some (pv 10))) (pa_cons (pe_op op_sub (pv 3) pe_int) pa_nil)))))) (pss_cons (ps_set (i := 12) sc_law_way.nd rfl (Or.inl rfl) (pe_fn G_law_way (hr.mono (by omega)) pass0 (pa_cons (pv 0) (pa_cons (pv 1) (pa_cons (pe_slice sl_str (pv 2) (po_some (pv 10)) po_none) (pa_cons (pe_op op_sub (pv 3) pe_int) pa_nil)))))) (pss_one (ps_ret (pe_fn G_law_add (hr.mono (by omega)) pass0 (pa_cons (pv 1) (pa_cons (pe_tup (pa_cons pe_str (pa_cons (pv 11) (pa_cons (pv 12) pa_nil)))) (pa_cons (pv 2) pa_nil)))))))))) pss_nil) (Evl.pss_cut (ps_if (PW.pt (pw_and (pt_cmpR op_eq (pv 4) pe_int (nomark _)) (pw_and1 (pt_cmpR op_gt (pv 3) pe_int (nomark _))))) (pss_cons (ps_set (i := 13) sc_law_way.nd rfl (Or.inl rfl) (pe_fn G_law_way (hr.mono (by omega)) pass0 (pa_cons (pv 0) (pa_cons (pv 1) (pa_cons (pe_rev_str (pv 2)) (pa_cons (pe_op op_sub (pv 3) pe_int) pa_nil)))))) (pss_one (ps_ret (pe_fn G_law_add (hr.mono (by omega)) pass0 (pa_cons (pv 1) (pa_cons (pe_tup (pa_cons pe_str (pa_cons (pv 13) pa_nil))) (pa_cons (pv 2) pa_nil))))))) pss_nil) (Evl.pss_cut (ps_if (PW.pt (pw_and (pt_cmpR op_eq (pv 4) pe_int (nomark _)) (pw_and1 (pt_cmpR op_lt (pe_callB call_len (by rfl) T.f_len (by decide +kernel) (pa_cons (pv 2) pa_nil)) pe_int (nomark _))))) (pss_cons (ps_set (i := 14) sc_law_way.nd rfl (Or.inl rfl) (pe_fn G_law_letters (hr.mono (by omega)) pass0 (pa_cons (pv 0) (pa_cons pe_int pa_nil)))) (pss_cons (ps_set (i := 15) sc_law_way.nd rfl (Or.inl rfl) (pe_fn G_law_letters (hr.mono (by omega)) pass0 (pa_cons (pv 0) (pa_cons pe_int pa_nil)))) (pss_cons (ps_set (i := 16) sc_law_way.nd rfl (Or.inl rfl) (pe_fn G_law_add (hr.mono (by omega)) pass0 (pa_cons (pv 1) (pa_cons (pe_tup (pa_cons pe_str (pa_cons (pe_op op_add_str (pe_op op_add_str (pv 14) (pv 2)) (pv 15)) pa_nil))) (pa_cons (pe_op op_add_str (pe_op op_add_str (pv 14) (pv 2)) (pv 15)) pa_nil))))) (pss_one (ps_ret (pe_fn G_law_add (hr.mono (by omega)) pass0 (pa_cons (pv 1) (pa_cons (pe_tup (pa_cons pe_str (pa_cons (pv 16) (pa_cons (pe_callB call_len (by rfl) T.f_len (by decide +kernel) (pa_cons (pv 14) pa_nil)) (pa_cons (pe_op op_add (pe_callB call_len (by rfl) T.f_len (by decide +kernel) (pa_cons (pv 14) pa_nil)) (pe_callB call_len (by rfl) T.f_len (by decide +kernel) (pa_cons (pv 2) pa_nil))) pa_nil))))) (pa_cons (pv 2) pa_nil))))))))) pss_nil) (pss_one (ps_ret (pe_fn G_law_add (hr.mono (by omega)) pass0 (pa_cons (pv 1) (pa_cons (pe_tup (pa_cons pe_str (pa_cons (pv 2) pa_nil))) (pa_cons (pv 2) pa_nil))))))))))))
theorem ok_law_other {f : Addr} {fd : FuncData} (T : Tp w K mg) (F : FunD K "_law_other" "_law_other" (defArgs s_law_other) (defBody s_law_other) (defScope s_law_other) [] [] f fd) (G_law_box : Fn P w K mg base CX0 "_law_box" 1 [] [] (spOf K 0 Tr.v_law_box)) (G_law_way : Fn P w K mg base CX0 "_law_way" 23 ["_law_pool_here", "_law_box_here", "_law_letters_here", "_law_deep"] [] (spOf K 4 Tr.V_way)) : FnOk P w K mg base CX0 24 f fd ["_law_pool_here", "_law_letters_here"] (spOf K 2 Tr.V_other) := by
  have := T.c_Text
  have := T.s_SIZES
  refine FunD.ok F sc_law_other (fun vs H Q E h => ?_) (fun cdv A outer s H vs Q E hr h => ⟨Tr.t_law_other K (spOf K 0 Tr.v_law_box) (spOf K 4 Tr.V_way), PSs.nox ?_, (Tr.pure_law_other _ _) vs H Q E h⟩)
  · obtain ⟨_, _, _, _, _, hl, _⟩ := h
    exact hl
  · exact (pss_cons (ps_set (i := 2) sc_law_other.nd rfl (Or.inl rfl) (pe_fn0 G_law_box (hr.mono (by decide)) pass0)) (pss_cons (ps_expr (pe_fn G_law_way (hr.mono (by decide)) pass0 (pa_cons (pv 0) (pa_cons (pv 2) (pa_cons (pv 1) (pa_cons pe_int pa_nil)))))) (pss_one (ps_ret (pv 2)))))
theorem ok_law_some {f : Addr} {fd : FuncData} (T : Tp w K mg) (F : FunD K "_law_some" "_law_some" (defArgs s_law_some) (defBody s_law_some) (defScope s_law_some) [] [] f fd) (G_law_take : Fn P w K mg base CX0 "_law_take" 2 ["_law_pool_here", "_law_many"] [] (spOf K 2 Tr.V_take)) (G_law_drawn : Fn P w K mg base CX0 "_law_drawn" 5 ["_law_pool_here", "_law_most"] [] (spOf K 2 Tr.V_drawn)) (G_law_letters : Fn P w K mg base CX0 "_law_letters" 3 ["_law_pool_here", "_law_most"] [] (spOf K 2 Tr.V_letters)) : FnOk P w K mg base CX0 6 f fd ["_law_pool_here", "_law_many", "_law_most"] (spOf K 3 Tr.V_some) := by
  have := T.c_Text
  have := T.s_SIZES
  refine FunD.ok F sc_law_some (fun vs H Q E h => ?_) (fun cdv A outer s H vs Q E hr h => ⟨Tr.t_law_some K (spOf K 2 Tr.V_take) (spOf K 2 Tr.V_drawn) (spOf K 2 Tr.V_letters), PSs.nox ?_, (Tr.pure_law_some _ _ _) vs H Q E h⟩)
  · obtain ⟨_, _, _, _, _, hl, _⟩ := h
    exact hl
  · exact (pss_cons (ps_set (i := 3) sc_law_some.nd rfl (Or.inl rfl) (pe_lst pa_nil)) (pss_cons (ps_for PassesOwn.never rfl (pi_range1 (by rfl) T.f_range (pa_cons (pv 1) pa_nil)) (pg_name (i := 4) sc_law_some.nd rfl (Or.inl rfl)) (pss_cons (ps_set (i := 5) sc_law_some.nd rfl (Or.inl rfl) (pe_fn G_law_take (hr.mono (by decide)) pass0 (pa_cons (pv 0) (pa_cons pe_int pa_nil)))) (pss_one (ps_if (PW.pt (pw_or (pt_cmpR op_eq (pv 5) pe_int (nomark _)) (pw_or1 (pt_not (pt_truth (pv 3) (by intro _; rfl)))))) (pss_one (ps_expr (pe_bm PySem.F.plainAttrs_list PySem.F.slot_list_append PySem.F.type_list_append mt_append (pv 3) (pa_cons (pe_ix ix_seq (pe_dget (hu_of hr) (pe_fn G_law_drawn (hr.mono (by decide)) pass0 (pa_cons (pv 0) (pa_cons (pv 2) pa_nil))) pe_str (fun _ _ => rfl)) (pe_un un_neg pe_int) (fun _ _ => rfl)) pa_nil)))) (pss_cons (ps_set (i := 6) sc_law_some.nd rfl (Or.inl rfl) (pe_ix ix_seq (pv 3) (pe_fn G_law_take (hr.mono (by decide)) pass0 (pa_cons (pv 0) (pa_cons (pe_callB call_len (by rfl) T.f_len (by decide +kernel) (pa_cons (pv 3) pa_nil)) pa_nil))) (fun _ _ => rfl))) (pss_cons (ps_set (i := 7) sc_law_some.nd rfl (Or.inl rfl) (pe_fn G_law_take (hr.mono (by decide)) pass0 (pa_cons (pv 0) (pa_cons (pe_op op_add (pe_callB call_len (by rfl) T.f_len (by decide +kernel) (pa_cons (pv 6) pa_nil)) pe_int) pa_nil)))) (pss_cons (ps_set (i := 8) sc_law_some.nd rfl (Or.inl rfl) (pe_op op_add (pv 7) (pe_fn G_law_take (hr.mono (by decide)) pass0 (pa_cons (pv 0) (pa_cons (pe_op op_add (pe_op op_sub (pe_callB call_len (by rfl) T.f_len (by decide +kernel) (pa_cons (pv 6) pa_nil)) (pv 7)) pe_int) pa_nil))))) (pss_one (ps_expr (pe_bm PySem.F.plainAttrs_list PySem.F.slot_list_append PySem.F.type_list_append mt_append (pv 3) (pa_cons (pe_op op_add_str (pe_op op_add_str (pe_slice sl_str (pv 6) (po_some (pv 7)) (po_some (pv 8))) (pe_fn G_law_letters (hr.mono (by decide)) pass0 (pa_cons (pv 0) (pa_cons pe_int pa_nil)))) (pe_slice sl_str (pe_slice sl_str (pv 6) po_none (po_some (pv 7))) po_none (po_some (pe_fn G_law_take (hr.mono (by decide)) pass0 (pa_cons (pv 0) (pa_cons pe_int pa_nil)))))) pa_nil))))))))))) (pss_one (ps_ret (pv 3)))))
theorem ok_law_texts {f : Addr} {fd : FuncData} (T : Tp w K mg) (F : FunD K "_law_texts" "_law_texts" (defArgs s_law_texts) (defBody s_law_texts) (defScope s_law_texts) [] [] f fd) (G_Text_init : Mkr P w K mg base CX0 "Text" 5 ["self", "rules"] [] (spOf K 2 Tr.V_Text_init)) (G_law_other : Fn P w K mg base CX0 "_law_other" 24 ["_law_pool_here", "_law_letters_here"] [] (spOf K 2 Tr.V_other)) : FnOk P w K mg base CX0 25 f fd ["_law_pool_here", "_law_letters_here"] (spOf K 2 Tr.V_texts) := by
  have := T.c_Text
  have := T.s_SIZES
  refine FunD.ok F sc_law_texts (fun vs H Q E h => ?_) (fun cdv A outer s H vs Q E hr h => ⟨Tr.t_law_texts K (spOf K 2 Tr.V_Text_init) (spOf K 2 Tr.V_other), PSs.nox ?_, (Tr.pure_law_texts _ _) vs H Q E h⟩)
  · obtain ⟨_, _, _, _, _, hl, _⟩ := h
    exact hl
  · exact (pss_one (ps_ret (pe_lc (own := [("_law_one", 2)]) (g := (gName 2)) (tt := tYes) (by rfl) sc_law_texts.nd (pi_list (pv 1)) (blkOk_by (own := [("_law_one", 2)]) (N := Tr.N_law_texts) (sc := defScope s_law_texts) (by decide +kernel)) (fun _ _ _ _ _ => (pg_name (i := 2) sc_law_texts.nd rfl (Or.inl rfl))) (fun _ _ _ _ _ => pts_nil) (fun _ _ _ _ _ => (pe_mkr G_Text_init (hr.mono (by decide)) pass0 (pa_cons (pe_dget (hu_of hr) (pe_fn G_law_other (hr.mono (by decide)) pass0 (pa_cons (pv 0) (pa_cons (pv 2) pa_nil))) pe_str (fun _ _ => rfl)) pa_nil))))))
theorem ok_law_longest {f : Addr} {fd : FuncData} (T : Tp w K mg) (F : FunD K "_law_longest" "_law_longest" (defArgs s_law_longest) (defBody s_law_longest) (defScope s_law_longest) [] [] f fd) : FnOk P w K mg base CX0 1 f fd ["_law_letters_here", "_law_number", "_law_at"] (spOf K 3 Tr.V_longest) := by
  have := T.c_Text
  have := T.s_SIZES
  refine FunD.ok F sc_law_longest (fun vs H Q E h => ?_) (fun cdv A outer s H vs Q E hr h => ⟨Tr.t_law_longest K, PSs.nox ?_, (Tr.pure_law_longest ) vs H Q E h⟩)
  · obtain ⟨_, _, _, _, _, hl, _⟩ := h
    exact hl
  · exact (pss_cons (ps_set (i := 3) sc_law_longest.nd rfl (Or.inl rfl) (pe_ix ix_seq (pv 0) (pv 1) (fun _ _ => rfl))) (pss_cons (ps_set (i := 4) sc_law_longest.nd rfl (Or.inl rfl) pe_non) (pss_cons (ps_for PassesOwn.never rfl (pi_range1 (by rfl) T.f_range (pa_cons (pe_op op_add (pv 1) pe_int) pa_nil)) (pg_name (i := 5) sc_law_longest.nd rfl (Or.inl rfl)) (Evl.pss_cut (ps_set (i := 6) sc_law_longest.nd rfl (Or.inl rfl) (pe_ifExp (pt_cmpR op_eq (pv 5) (pv 1) (nomark _)) (pv 2) (pe_callB call_len (by rfl) T.f_len (by decide +kernel) (pa_cons (pe_ix ix_seq (pv 0) (pv 5) (fun _ _ => rfl)) pa_nil)))) (pss_one (ps_for PassesOwn.never rfl (pi_range1 (by rfl) T.f_range (pa_cons (pv 6) pa_nil)) (pg_name (i := 7) sc_law_longest.nd rfl (Or.inl rfl)) (pss_cons (ps_set (i := 8) sc_law_longest.nd rfl (Or.inl rfl) pe_int) (Evl.pss_cut (ps_while PassesOwn.never (PW.pt (pw_and (pt_cmpR op_lt (pe_op op_add (pv 2) (pv 8)) (pe_callB call_len (by rfl) T.f_len (by decide +kernel) (pa_cons (pv 3) pa_nil)) (nomark _)) (pw_and (pt_cmpR op_lt (pe_op op_add (pv 7) (pv 8)) (pe_callB call_len (by rfl) T.f_len (by decide +kernel) (pa_cons (pe_ix ix_seq (pv 0) (pv 5) (fun _ _ => rfl)) pa_nil)) (nomark _)) (pw_and1 (pt_cmpR op_eq (pe_ix ix_seq (pe_ix ix_seq (pv 0) (pv 5) (fun _ _ => rfl)) (pe_op op_add (pv 7) (pv 8)) (fun _ _ => rfl)) (pe_ix ix_seq (pv 3) (pe_op op_add (pv 2) (pv 8)) (fun _ _ => rfl)) (nomark _)))))) (pss_one (ps_set (i := 8) sc_law_longest.nd rfl (Or.inl rfl) (pe_op op_add (pv 8) pe_int)))) (pss_one (ps_if (PW.pt (pw_and (pt_cmpR op_gt (pv 8) pe_int (nomark _)) (pw_and1 (PW.pt (pw_or (pt_cmpR op_isN (pv 4) pe_non (nomark _)) (pw_or1 (pt_cmpR op_gt (pv 8) (pe_ix ix_seq (pv 4) pe_int (fun _ _ => rfl)) (nomark _)))))))) (pss_one (ps_set (i := 4) sc_law_longest.nd rfl (Or.inl rfl) (pe_tup (pa_cons pe_str (pa_cons (pv 5) (pa_cons (pv 7) (pa_cons (pv 8) pa_nil))))))) pss_nil)))))))) (pss_one (ps_ret (pv 4))))))
theorem ok_law_spells {f : Addr} {fd : FuncData} (T : Tp w K mg) (F : FunD K "_law_spells" "_law_spells" (defArgs s_law_spells) (defBody s_law_spells) (defScope s_law_spells) [] [] f fd) : FnOk P w K mg base CX0 1 f fd ["_law_letters_here", "_law_number", "_law_row"] (spOf K 3 Tr.V_spells) := by
  have := T.c_Text
  have := T.s_SIZES
  refine FunD.ok F sc_law_spells (fun vs H Q E h => ?_) (fun cdv A outer s H vs Q E hr h => ⟨Tr.t_law_spells K, PSs.nox ?_, (Tr.pure_law_spells ) vs H Q E h⟩)
  · obtain ⟨_, _, _, _, _, hl, _⟩ := h
    exact hl
  · exact (pss_cons (ps_set (i := 3) sc_law_spells.nd rfl (Or.inl rfl) pe_str) (pss_cons (ps_for PassesOwn.never rfl (pi_tup (pv 2)) (pg_name (i := 4) sc_law_spells.nd rfl (Or.inl rfl)) (pss_cons (ps_if (pt_cmpR op_eq (pe_ix ix_seq (pv 4) pe_int (fun _ _ => rfl)) pe_str (nomark _)) (pss_cons (ps_set (i := 3) sc_law_spells.nd rfl (Or.inl rfl) (pe_op op_add_str (pv 3) (pe_ix ix_seq (pv 4) pe_int (fun _ _ => rfl)))) (pss_one ps_continue)) pss_nil) (pss_cons (ps_set (i := 5) sc_law_spells.nd rfl (Or.inl rfl) (pe_ix ix_seq (pv 4) pe_int (fun _ _ => rfl))) (pss_cons (ps_if (PW.pt (pw_or (pt_cmpR op_lt (pv 5) pe_int (nomark _)) (pw_or (pt_cmpR op_gt (pv 5) (pv 1) (nomark _)) (pw_or (pt_cmpR op_lt (pe_ix ix_seq (pv 4) pe_int (fun _ _ => rfl)) pe_int (nomark _)) (pw_or1 (pt_cmpR op_lt (pe_ix ix_seq (pv 4) pe_int (fun _ _ => rfl)) pe_int (nomark _))))))) (pss_one (ps_ret pe_non)) pss_nil) (pss_cons (ps_if (pt_cmpR op_lt (pv 5) (pv 1) (nomark _)) (pss_cons (ps_if (pt_cmpR op_gt (pe_op op_add (pe_ix ix_seq (pv 4) pe_int (fun _ _ => rfl)) (pe_ix ix_seq (pv 4) pe_int (fun _ _ => rfl))) (pe_callB call_len (by rfl) T.f_len (by decide +kernel) (pa_cons (pe_ix ix_seq (pv 0) (pv 5) (fun _ _ => rfl)) pa_nil)) (nomark _)) (pss_one (ps_ret pe_non)) pss_nil) (pss_cons (ps_set (i := 3) sc_law_spells.nd rfl (Or.inl rfl) (pe_op op_add_str (pv 3) (pe_slice sl_str (pe_ix ix_seq (pv 0) (pv 5) (fun _ _ => rfl)) (po_some (pe_ix ix_seq (pv 4) pe_int (fun _ _ => rfl))) (po_some (pe_op op_add (pe_ix ix_seq (pv 4) pe_int (fun _ _ => rfl)) (pe_ix ix_seq (pv 4) pe_int (fun _ _ => rfl))))))) (pss_one ps_continue))) pss_nil) (pss_cons (ps_if (PW.pt (pw_or (pt_cmpR op_ge (pe_ix ix_seq (pv 4) pe_int (fun _ _ => rfl)) (pe_callB call_len (by rfl) T.f_len (by decide +kernel) (pa_cons (pv 3) pa_nil)) (nomark _)) (pw_or1 (pt_cmpR op_gt (pe_op op_add (pe_callB call_len (by rfl) T.f_len (by decide +kernel) (pa_cons (pv 3) pa_nil)) (pe_ix ix_seq (pv 4) pe_int (fun _ _ => rfl))) (pe_callB call_len (by rfl) T.f_len (by decide +kernel) (pa_cons (pe_ix ix_seq (pv 0) (pv 1) (fun _ _ => rfl)) pa_nil)) (nomark _))))) (pss_one (ps_ret pe_non)) pss_nil) (pss_one (ps_for PassesOwn.never rfl (pi_range1 (by rfl) T.f_range (pa_cons (pe_ix ix_seq (pv 4) pe_int (fun _ _ => rfl)) pa_nil)) (pg_name (i := 6) sc_law_spells.nd rfl (Or.inl rfl)) (pss_one (ps_set (i := 3) sc_law_spells.nd rfl (Or.inl rfl) (pe_op op_add_str (pv 3) (pe_ix ix_seq (pv 3) (pe_op op_add (pe_ix ix_seq (pv 4) pe_int (fun _ _ => rfl)) (pv 6)) (fun _ _ => rfl))))))))))))) (pss_one (ps_ret (pv 3)))))
theorem ok_law_is_cut {f : Addr} {fd : FuncData} (T : Tp w K mg) (F : FunD K "_law_is_cut" "_law_is_cut" (defArgs s_law_is_cut) (defBody s_law_is_cut) (defScope s_law_is_cut) [] [] f fd) (G_law_spells : Fn P w K mg base CX0 "_law_spells" 1 ["_law_letters_here", "_law_number", "_law_row"] [] (spOf K 3 Tr.V_spells)) : FnOk P w K mg base CX0 2 f fd ["_law_letters_here", "_law_cut"] (spOf K 2 Tr.V_is_cut) := by
  have := T.c_Text
  have := T.s_SIZES
  refine FunD.ok F sc_law_is_cut (fun vs H Q E h => ?_) (fun cdv A outer s H vs Q E hr h => ⟨Tr.t_law_is_cut K (spOf K 3 Tr.V_spells), PSs.nox ?_, (Tr.pure_law_is_cut _) vs H Q E h⟩)
  · obtain ⟨_, _, _, _, _, hl, _⟩ := h
    exact hl
  · exact (pss_cons (ps_if (pt_cmpR op_ne (pe_callB call_len (by rfl) T.f_len (by decide +kernel) (pa_cons (pv 1) pa_nil)) (pe_callB call_len (by rfl) T.f_len (by decide +kernel) (pa_cons (pv 0) pa_nil)) (nomark _)) (pss_one (ps_ret pe_bl)) pss_nil) (pss_one (ps_ret (pe_callB (cr_all rfl) (by rfl) T.f_all (by decide +kernel) (pa_cons (pe_lc (own := [("_law_k", 2)]) (g := (gName 2)) (tt := tYes) (by rfl) sc_law_is_cut.nd (pi_range1 (by rfl) T.f_range (pa_cons (pe_callB call_len (by rfl) T.f_len (by decide +kernel) (pa_cons (pv 0) pa_nil)) pa_nil)) (blkOk_by (own := [("_law_k", 2)]) (N := Tr.N_law_is_cut) (sc := defScope s_law_is_cut) (by decide +kernel)) (fun _ _ _ _ _ => (pg_name (i := 2) sc_law_is_cut.nd rfl (Or.inl rfl))) (fun _ _ _ _ _ => pts_nil) (fun _ _ _ _ _ => (pe_cmpR op_eq (pe_fn G_law_spells (hr.mono (by decide)) pass0 (pa_cons (pv 0) (pa_cons (pv 2) (pa_cons (pe_ix ix_seq (pv 1) (pv 2) (fun _ _ => rfl)) pa_nil)))) (pe_ix ix_seq (pv 0) (pv 2) (fun _ _ => rfl)) (nomark _)))) pa_nil)))))
theorem ok_law_drawn_cut {f : Addr} {fd : FuncData} (T : Tp w K mg) (F : FunD K "_law_drawn_cut" "_law_drawn_cut" (defArgs s_law_drawn_cut) (defBody s_law_drawn_cut) (defScope s_law_drawn_cut) [] [] f fd) (G_law_longest : Fn P w K mg base CX0 "_law_longest" 1 ["_law_letters_here", "_law_number", "_law_at"] [] (spOf K 3 Tr.V_longest)) (G_law_take : Fn P w K mg base CX0 "_law_take" 2 ["_law_pool_here", "_law_many"] [] (spOf K 2 Tr.V_take)) : FnOk P w K mg base CX0 3 f fd ["_law_pool_here", "_law_letters_here"] (spOf K 2 Tr.V_drawn_cut) := by
  have := T.c_Text
  have := T.s_SIZES
  refine FunD.ok F sc_law_drawn_cut (fun vs H Q E h => ?_) (fun cdv A outer s H vs Q E hr h => ⟨Tr.t_law_drawn_cut K (spOf K 3 Tr.V_longest) (spOf K 2 Tr.V_take), PSs.nox ?_, (Tr.pure_law_drawn_cut _ _) vs H Q E h⟩)
  · obtain ⟨_, _, _, _, _, hl, _⟩ := h
    exact hl
  · exact (pss_cons (ps_set (i := 2) sc_law_drawn_cut.nd rfl (Or.inl rfl) (pe_lst pa_nil)) (pss_cons (ps_for PassesOwn.never rfl (pi_range1 (by rfl) T.f_range (pa_cons (pe_callB call_len (by rfl) T.f_len (by decide +kernel) (pa_cons (pv 1) pa_nil)) pa_nil)) (pg_name (i := 3) sc_law_drawn_cut.nd rfl (Or.inl rfl)) (pss_cons (ps_set (i := 4) sc_law_drawn_cut.nd rfl (Or.inl rfl) (pe_lst pa_nil)) (pss_cons (ps_set (i := 5) sc_law_drawn_cut.nd rfl (Or.inl rfl) pe_int) (pss_cons (ps_for PassesOwn.never rfl (pi_range1 (by rfl) T.f_range (pa_cons (pe_callB call_len (by rfl) T.f_len (by decide +kernel) (pa_cons (pe_ix ix_seq (pv 1) (pv 3) (fun _ _ => rfl)) pa_nil)) pa_nil)) (pg_name (i := 6) sc_law_drawn_cut.nd rfl (Or.inl rfl)) (pss_one (ps_if (pt_cmpR op_lt (pv 5) (pe_callB call_len (by rfl) T.f_len (by decide +kernel) (pa_cons (pe_ix ix_seq (pv 1) (pv 3) (fun _ _ => rfl)) pa_nil)) (nomark _)) (pss_cons (ps_set (i := 7) sc_law_drawn_cut.nd rfl (Or.inl rfl) (pe_fn G_law_longest (hr.mono (by decide)) pass0 (pa_cons (pv 1) (pa_cons (pv 3) (pa_cons (pv 5) pa_nil))))) (pss_one (ps_if (PW.pt (pw_or (pt_cmpR op_isN (pv 7) pe_non (nomark _)) (pw_or1 (pt_cmpR op_eq (pe_fn G_law_take (hr.mono (by decide)) pass0 (pa_cons (pv 0) (pa_cons pe_int pa_nil))) pe_int (nomark _))))) (pss_cons (ps_expr (pe_bm PySem.F.plainAttrs_list PySem.F.slot_list_append PySem.F.type_list_append mt_append (pv 4) (pa_cons (pe_tup (pa_cons pe_str (pa_cons (pe_ix ix_seq (pe_ix ix_seq (pv 1) (pv 3) (fun _ _ => rfl)) (pv 5) (fun _ _ => rfl)) pa_nil))) pa_nil))) (pss_one (ps_set (i := 5) sc_law_drawn_cut.nd rfl (Or.inl rfl) (pe_op op_add (pv 5) pe_int)))) (pss_cons (ps_set (i := 8) sc_law_drawn_cut.nd rfl (Or.inl rfl) (pe_op op_sub (pe_ix ix_seq (pv 7) pe_int (fun _ _ => rfl)) (pe_op op_mul (pe_fn G_law_take (hr.mono (by decide)) pass0 (pa_cons (pv 0) (pa_cons pe_int pa_nil))) (pe_fn G_law_take (hr.mono (by decide)) pass0 (pa_cons (pv 0) (pa_cons (pe_ix ix_seq (pv 7) pe_int (fun _ _ => rfl)) pa_nil)))))) (pss_cons (ps_expr (pe_bm PySem.F.plainAttrs_list PySem.F.slot_list_append PySem.F.type_list_append mt_append (pv 4) (pa_cons (pe_tup (pa_cons pe_str (pa_cons (pe_ix ix_seq (pv 7) pe_int (fun _ _ => rfl)) (pa_cons (pe_ix ix_seq (pv 7) pe_int (fun _ _ => rfl)) (pa_cons (pv 8) pa_nil))))) pa_nil))) (pss_one (ps_set (i := 5) sc_law_drawn_cut.nd rfl (Or.inl rfl) (pe_op op_add (pv 5) (pv 8))))))))) pss_nil))) (pss_one (ps_expr (pe_bm PySem.F.plainAttrs_list PySem.F.slot_list_append PySem.F.type_list_append mt_append (pv 2) (pa_cons (pe_callTy call_tuple_of (by rfl) T.f_tuple (by decide +kernel) (pa_cons (pv 4) pa_nil)) pa_nil)))))))) (pss_one (ps_ret (pe_callTy call_tuple_of (by rfl) T.f_tuple (by decide +kernel) (pa_cons (pv 2) pa_nil))))))
theorem ok_law {f : Addr} {fd : FuncData} (T : Tp w K mg) (F : FunD K "law" "law" (defArgs s_law) (defBody s_law) (defScope s_law) [] [] f fd) (G_law_pool : Fn P w K mg base CX0 "_law_pool" 1 ["_law_script"] [] (spOf K 1 Tr.v_law_pool)) (G_law_some : Fn P w K mg base CX0 "_law_some" 6 ["_law_pool_here", "_law_many", "_law_most"] [] (spOf K 3 Tr.V_some)) (G_law_take : Fn P w K mg base CX0 "_law_take" 2 ["_law_pool_here", "_law_many"] [] (spOf K 2 Tr.V_take)) (G_law_texts : Fn P w K mg base CX0 "_law_texts" 25 ["_law_pool_here", "_law_letters_here"] [] (spOf K 2 Tr.V_texts)) (G_shortest_cut : Fn P w K mg base CX0 "shortest_cut" 7 ["texts"] [] (spOf K 1 Tr.V_shortest_cut)) (G_law_is_cut : Fn P w K mg base CX0 "_law_is_cut" 2 ["_law_letters_here", "_law_cut"] [] (spOf K 2 Tr.V_is_cut)) (G_law_drawn_cut : Fn P w K mg base CX0 "_law_drawn_cut" 3 ["_law_pool_here", "_law_letters_here"] [] (spOf K 2 Tr.V_drawn_cut)) (G_Text_init : Mkr P w K mg base CX0 "Text" 5 ["self", "rules"] [] (spOf K 2 Tr.V_Text_init)) (G_law_other : Fn P w K mg base CX0 "_law_other" 24 ["_law_pool_here", "_law_letters_here"] [] (spOf K 2 Tr.V_other)) : FnOk P w K mg base CX0 30 f fd ["_law_script"] (Tr.sp_script K) := by
  have := T.c_Text
  have := T.s_SIZES
  refine FunD.ok F sc_law (fun vs H Q E h => ?_) (fun cdv A outer s H vs Q E hr h => ⟨Tr.t_law K (spOf K 1 Tr.v_law_pool) (spOf K 3 Tr.V_some) (spOf K 2 Tr.V_take) (spOf K 2 Tr.V_texts) (spOf K 1 Tr.V_shortest_cut) (spOf K 2 Tr.V_is_cut) (spOf K 2 Tr.V_drawn_cut) (spOf K 2 Tr.V_Text_init) (spOf K 2 Tr.V_other), PSs.nox ?_, (fun vs H Q E h => (Tr.pure_law _ _ _ _ _ _ _ _ _) vs H Q E (Tr.br_script T.hNp (fun ns => Tr.law_ok) vs H Q E h)) vs H Q E h⟩)
  · (repeat obtain ⟨_, h⟩ := h)
    subst_vars
    rfl
  · exact (pss_cons (ps_set (i := 1) sc_law.nd rfl (Or.inl rfl) (pe_fn G_law_pool (hr.mono (by decide)) pass0 (pa_cons (pv 0) pa_nil))) (pss_cons (ps_set (i := 2) sc_law.nd rfl (Or.inl rfl) (pe_fn G_law_some (hr.mono (by decide)) pass0 (pa_cons (pv 1) (pa_cons (pe_op op_add pe_int (pe_fn G_law_take (hr.mono (by decide)) pass0 (pa_cons (pv 1) (pa_cons pe_int pa_nil)))) (pa_cons pe_int pa_nil))))) (pss_cons (ps_set (i := 3) sc_law.nd rfl (Or.inl rfl) (pe_fn G_law_texts (hr.mono (by decide)) pass0 (pa_cons (pv 1) (pa_cons (pv 2) pa_nil)))) (pss_cons (ps_set (i := 4) sc_law.nd rfl (Or.inl rfl) (pe_fn G_shortest_cut (hr.mono (by decide)) pass0 (pa_cons (pv 3) pa_nil))) (pss_cons (ps_if (PW.pt (pw_or (pt_not (pt_val (pe_callB call_isi (by rfl) T.f_isinstance (by decide +kernel) (pa_cons (pv 4) (pa_cons (pe_bltn (by rfl) T.f_tuple (by decide +kernel) rfl) pa_nil))))) (pw_or1 (pt_not (pt_truth (pe_fn G_law_is_cut (hr.mono (by decide)) pass0 (pa_cons (pv 2) (pa_cons (pv 4) pa_nil))) (by intro _; rfl)))))) (pss_one (ps_ret pe_bl)) pss_nil) (pss_cons (ps_set (i := 5) sc_law.nd rfl (Or.inl rfl) (pe_fn G_law_drawn_cut (hr.mono (by decide)) pass0 (pa_cons (pv 1) (pa_cons (pv 2) pa_nil)))) (pss_cons (ps_if (pt_cmpR op_gt (pe_callB (cr_sum rfl) (by rfl) T.f_sum (by decide +kernel) (pa_cons (pe_lc (own := [("_law_row", 8)]) (g := (gName 8)) (tt := tYes) (by rfl) sc_law.nd (pi_tup (pv 4)) (blkOk_by (own := [("_law_row", 8)]) (N := Tr.N_law) (sc := defScope s_law) (by decide +kernel)) (fun _ _ _ _ _ => (pg_name (i := 8) sc_law.nd rfl (Or.inl rfl))) (fun _ _ _ _ _ => pts_nil) (fun _ _ _ _ _ => (pe_callB call_len (by rfl) T.f_len (by decide +kernel) (pa_cons (pv 8) pa_nil)))) pa_nil)) (pe_callB (cr_sum rfl) (by rfl) T.f_sum (by decide +kernel) (pa_cons (pe_lc (own := [("_law_row", 8)]) (g := (gName 8)) (tt := tYes) (by rfl) sc_law.nd (pi_tup (pv 5)) (blkOk_by (own := [("_law_row", 8)]) (N := Tr.N_law) (sc := defScope s_law) (by decide +kernel)) (fun _ _ _ _ _ => (pg_name (i := 8) sc_law.nd rfl (Or.inl rfl))) (fun _ _ _ _ _ => pts_nil) (fun _ _ _ _ _ => (pe_callB call_len (by rfl) T.f_len (by decide +kernel) (pa_cons (pv 8) pa_nil)))) pa_nil)) (nomark _)) (pss_one (ps_ret pe_bl)) pss_nil) (pss_cons (ps_set (i := 6) sc_law.nd rfl (Or.inl rfl) (pe_ix ix_seq (pv 2) (pe_fn G_law_take (hr.mono (by decide)) pass0 (pa_cons (pv 1) (pa_cons (pe_callB call_len (by rfl) T.f_len (by decide +kernel) (pa_cons (pv 2) pa_nil)) pa_nil))) (fun _ _ => rfl))) (pss_cons (ps_set (i := 7) sc_law.nd rfl (Or.inl rfl) (pe_fn G_shortest_cut (hr.mono (by decide)) pass0 (pa_cons (pe_lst (pa_cons (pe_mkr G_Text_init (hr.mono (by decide)) pass0 (pa_cons (pe_dget (hu_of hr) (pe_fn G_law_other (hr.mono (by decide)) pass0 (pa_cons (pv 1) (pa_cons (pv 6) pa_nil))) pe_str (fun _ _ => rfl)) pa_nil)) (pa_cons (pe_mkr G_Text_init (hr.mono (by decide)) pass0 (pa_cons (pe_dget (hu_of hr) (pe_fn G_law_other (hr.mono (by decide)) pass0 (pa_cons (pv 1) (pa_cons (pv 6) pa_nil))) pe_str (fun _ _ => rfl)) pa_nil)) pa_nil))) pa_nil))) (pss_one (ps_ret (pe_and (pe_cmpR op_eq (pe_callB call_len (by rfl) T.f_len (by decide +kernel) (pa_cons (pv 7) pa_nil)) pe_int (nomark _)) (pe_one (pe_cmpR op_eq (pe_callB call_len (by rfl) T.f_len (by decide +kernel) (pa_cons (pe_ix ix_seq (pv 7) pe_int (fun _ _ => rfl)) pa_nil)) (pe_callTy call_int1 (by rfl) T.f_int (by decide +kernel) (pa_cons (pe_cmpR op_ne (pv 6) pe_str (nomark _)) pa_nil)) (nomark _)))))))))))))))
end
/-! ### the head -/
def d_rule_length : He.DefD := ⟨("rule_length", none), "rule_length", "rule_length", defArgs s_rule_length, defBody s_rule_length, defScope s_rule_length, [], []⟩
def d_earlier : He.DefD := ⟨("earlier", none), "earlier", "earlier", defArgs s_earlier, defBody s_earlier, defScope s_earlier, [], []⟩
def d_fault : He.DefD := ⟨("fault", none), "fault", "fault", defArgs s_fault, defBody s_fault, defScope s_fault, [], []⟩
def d_lengths_of : He.DefD := ⟨("lengths_of", none), "lengths_of", "lengths_of", defArgs s_lengths_of, defBody s_lengths_of, defScope s_lengths_of, [], []⟩
def d_check_rules : He.DefD := ⟨("check_rules", none), "check_rules", "check_rules", defArgs s_check_rules, defBody s_check_rules, defScope s_check_rules, [], []⟩
def d_inner_place : He.DefD := ⟨("inner_place", none), "inner_place", "inner_place", defArgs s_inner_place, defBody s_inner_place, defScope s_inner_place, [], []⟩
def d_inner_parts : He.DefD := ⟨("inner_parts", none), "inner_parts", "inner_parts", defArgs s_inner_parts, defBody s_inner_parts, defScope s_inner_parts, [], []⟩
def d_NoPlace_init : He.DefD := ⟨("NoPlace", some "__init__"), "__init__", "NoPlace.__init__", defArgs s_NoPlace_init, defBody s_NoPlace_init, defScope s_NoPlace_init, [], []⟩
def d_NoPart_init : He.DefD := ⟨("NoPart", some "__init__"), "__init__", "NoPart.__init__", defArgs s_NoPart_init, defBody s_NoPart_init, defScope s_NoPart_init, [], []⟩
def d_Text_init : He.DefD := ⟨("Text", some "__init__"), "__init__", "Text.__init__", defArgs s_Text_init, defBody s_Text_init, defScope s_Text_init, [], []⟩
def d_Text_letter : He.DefD := ⟨("Text", some "letter"), "letter", "Text.letter", defArgs s_Text_letter, defBody s_Text_letter, defScope s_Text_letter, [], []⟩
def d_Text_check_part : He.DefD := ⟨("Text", some "check_part"), "check_part", "Text.check_part", defArgs s_Text_check_part, defBody s_Text_check_part, defScope s_Text_check_part, [], []⟩
def d_Text_letters : He.DefD := ⟨("Text", some "letters"), "letters", "Text.letters", defArgs s_Text_letters, defBody s_Text_letters, defScope s_Text_letters, [], []⟩
def d_unfolded : He.DefD := ⟨("unfolded", none), "unfolded", "unfolded", defArgs s_unfolded, defBody s_unfolded, defScope s_unfolded, [], []⟩
def d_grown : He.DefD := ⟨("grown", none), "grown", "grown", defArgs s_grown, defBody s_grown, defScope s_grown, [], []⟩
def d_first_place : He.DefD := ⟨("first_place", none), "first_place", "first_place", defArgs s_first_place, defBody s_first_place, defScope s_first_place, [], []⟩
def d_longest_copy : He.DefD := ⟨("longest_copy", none), "longest_copy", "longest_copy", defArgs s_longest_copy, defBody s_longest_copy, defScope s_longest_copy, [], []⟩
def d_shortest_cut : He.DefD := ⟨("shortest_cut", none), "shortest_cut", "shortest_cut", defArgs s_shortest_cut, defBody s_shortest_cut, defScope s_shortest_cut, [], []⟩
def d_law_pool : He.DefD := ⟨("_law_pool", none), "_law_pool", "_law_pool", defArgs s_law_pool, defBody s_law_pool, defScope s_law_pool, [], []⟩
def d_law_take : He.DefD := ⟨("_law_take", none), "_law_take", "_law_take", defArgs s_law_take, defBody s_law_take, defScope s_law_take, [], []⟩
def d_law_letters : He.DefD := ⟨("_law_letters", none), "_law_letters", "_law_letters", defArgs s_law_letters, defBody s_law_letters, defScope s_law_letters, [], []⟩
def d_law_add : He.DefD := ⟨("_law_add", none), "_law_add", "_law_add", defArgs s_law_add, defBody s_law_add, defScope s_law_add, [], []⟩
def d_law_box : He.DefD := ⟨("_law_box", none), "_law_box", "_law_box", defArgs s_law_box, defBody s_law_box, defScope s_law_box, [], []⟩
def d_law_power_rule : He.DefD := ⟨("_law_power_rule", none), "_law_power_rule", "_law_power_rule", defArgs s_law_power_rule, defBody s_law_power_rule, defScope s_law_power_rule, [], []⟩
def d_law_next_rule : He.DefD := ⟨("_law_next_rule", none), "_law_next_rule", "_law_next_rule", defArgs s_law_next_rule, defBody s_law_next_rule, defScope s_law_next_rule, [], []⟩
def d_law_turned_letter : He.DefD := ⟨("_law_turned_letter", none), "_law_turned_letter", "_law_turned_letter", defArgs s_law_turned_letter, defBody s_law_turned_letter, defScope s_law_turned_letter, [], []⟩
def d_law_drawn : He.DefD := ⟨("_law_drawn", none), "_law_drawn", "_law_drawn", defArgs s_law_drawn, defBody s_law_drawn, defScope s_law_drawn, [], []⟩
def d_law_period : He.DefD := ⟨("_law_period", none), "_law_period", "_law_period", defArgs s_law_period, defBody s_law_period, defScope s_law_period, [], []⟩
def d_law_way : He.DefD := ⟨("_law_way", none), "_law_way", "_law_way", defArgs s_law_way, defBody s_law_way, defScope s_law_way, [], []⟩
def d_law_other : He.DefD := ⟨("_law_other", none), "_law_other", "_law_other", defArgs s_law_other, defBody s_law_other, defScope s_law_other, [], []⟩
def d_law_some : He.DefD := ⟨("_law_some", none), "_law_some", "_law_some", defArgs s_law_some, defBody s_law_some, defScope s_law_some, [], []⟩
def d_law_texts : He.DefD := ⟨("_law_texts", none), "_law_texts", "_law_texts", defArgs s_law_texts, defBody s_law_texts, defScope s_law_texts, [], []⟩
def d_law_longest : He.DefD := ⟨("_law_longest", none), "_law_longest", "_law_longest", defArgs s_law_longest, defBody s_law_longest, defScope s_law_longest, [], []⟩
def d_law_spells : He.DefD := ⟨("_law_spells", none), "_law_spells", "_law_spells", defArgs s_law_spells, defBody s_law_spells, defScope s_law_spells, [], []⟩
def d_law_is_cut : He.DefD := ⟨("_law_is_cut", none), "_law_is_cut", "_law_is_cut", defArgs s_law_is_cut, defBody s_law_is_cut, defScope s_law_is_cut, [], []⟩
def d_law_drawn_cut : He.DefD := ⟨("_law_drawn_cut", none), "_law_drawn_cut", "_law_drawn_cut", defArgs s_law_drawn_cut, defBody s_law_drawn_cut, defScope s_law_drawn_cut, [], []⟩
def d_law : He.DefD := ⟨("law", none), "law", "law", defArgs s_law, defBody s_law, defScope s_law, [], []⟩
def fnL : List He.DefD := [d_rule_length, d_earlier, d_fault, d_lengths_of, d_check_rules, d_inner_place, d_inner_parts, d_NoPlace_init, d_NoPart_init, d_Text_init, d_Text_letter, d_Text_check_part, d_Text_letters, d_unfolded, d_grown, d_first_place, d_longest_copy, d_shortest_cut, d_law_pool, d_law_take, d_law_letters, d_law_add, d_law_box, d_law_power_rule, d_law_next_rule, d_law_turned_letter, d_law_drawn, d_law_period, d_law_way, d_law_other, d_law_some, d_law_texts, d_law_longest, d_law_spells, d_law_is_cut, d_law_drawn_cut, d_law]
def fbL : List He5.DefA := []
def faL : List He.Fa := [.free "all", .free "enumerate", .free "int", .free "isinstance", .free "len", .free "max", .free "min", .free "range", .free "sum", .free "tuple", .str "LETTERS" " !\"#$&'()*+,-./0123456789:;<=>?@ABCDEFGHIJKLMNOPQRSTUVWXYZ[\\]^_`abcdefghijklmnopqrstuvwxyz{|}~", .int "MOST_LETTERS_cuts" 4096, .int "MOST_LETTERS_text" 1000000000000, .int "MOST_RULES" 60, .int "MOST_TOLD" 1000, .int "MOST_WRITTEN" 64, .glo "SIZES", .cls "Text", .noat "Text" "rules", .noat "Text" "lengths", .noat "Text" "length", .glo "NoPlace", .glo "NoPart", .exc "TooLong", .glo "TooLong", .glo "rule_length", .glo "earlier", .glo "fault", .glo "lengths_of", .glo "check_rules", .glo "inner_place", .glo "inner_parts", .mkr "Text", .glo "Text", .meth "Text" "letter", .meth "Text" "check_part", .meth "Text" "letters", .glo "unfolded", .glo "grown", .glo "first_place", .glo "longest_copy", .glo "shortest_cut", .glo "_law_pool", .glo "_law_take", .glo "_law_letters", .glo "_law_add", .glo "_law_box", .glo "_law_power_rule", .glo "_law_next_rule", .glo "_law_turned_letter", .glo "_law_drawn", .glo "_law_period", .glo "_law_way", .glo "_law_other", .glo "_law_some", .glo "_law_texts", .glo "_law_longest", .glo "_law_spells", .glo "_law_is_cut", .glo "_law_drawn_cut", .glo "law"]
def exL : List (PySem.W.Frag → Bool) := [(fun K => He.valsB K (He.ga K "SIZES") sizesL), exB "NoPlace" ["place"], exiB "NoPlace", exB "NoPart" ["start", "stop"], exiB "NoPart", (fun K => !hasP K)]
def exF (K : PySem.W.Frag) : Bool := exL.all fun f => f K
theorem ex_at {K : PySem.W.Frag} (h : exF K = true) (i : Nat) {f : PySem.W.Frag → Bool} (hi : exL[i]? = some f) : f K = true := List.all_eq_true.mp h f (List.mem_of_getElem? hi)
def tsL : List He.Tab := [((fun K => He.ga K "SIZES"), ["letters", "join", "power", "part", "back"])]
abbrev R : PySem.W.OpenRow := PySem.W.OpenLaw.row PySem.Challenge.rw_shortheld_k39_whole_fewest_phrases
abbrev hk : PySem.W.Hook := hookY 5 faL fnL tsL fbL exF
def ob (s : PySem.W.SharedT) : AlY := obsY 5 faL fnL tsL fbL exF (HandSHeadRun.getT s)
theorem ob_eq (s : PySem.W.SharedT) : ob s = hk.obs s.abs := obsY_eq (HandSHeadRun.getT_eq s)
def names0 : List PySem.Str := ["_wall", "HeldError", "BadRules", "NoPlace", "NoPart", "TooLong", "LETTERS", "MOST_RULES", "MOST_WRITTEN", "MOST_LETTERS_text", "MOST_TOLD", "SIZES"]
def names1 : List PySem.Str := ["rule_length", "earlier", "fault", "lengths_of", "check_rules", "inner_place", "inner_parts", "Text", "MOST_LETTERS_cuts", "TooManyLetters", "unfolded", "longest_copy"]
def names2 : List PySem.Str := ["grown", "first_place", "shortest_cut", "_law_pool", "_law_take", "_law_letters", "_law_add", "_law_box", "_law_power_rule", "_law_next_rule", "_law_turned_letter", "_law_drawn"]
def names3 : List PySem.Str := ["_law_period", "_law_way", "_law_other", "_law_some", "_law_texts", "_law_longest", "_law_spells", "_law_is_cut", "_law_drawn_cut"]
def names : List PySem.Str := names0 ++ names1 ++ names2 ++ names3
theorem run_f (w : World) : HandSHeadRun.RunEq R (PySem.W.view R.prog [49]) hk ob 8000 names (w.withFollow "special-get-raises" false) := by
  intro os
  kernel_rfl
theorem run_t (w : World) : HandSHeadRun.RunEq R (PySem.W.view R.prog [49]) hk ob 8000 names (w.withFollow "special-get-raises" true) := by
  intro os
  kernel_rfl
theorem run (w : World) : HandSHeadRun.RunEq R (PySem.W.view R.prog [49]) hk ob 8000 names w := PySem.W.byRow2 "special-get-raises" (P := fun w => HandSHeadRun.RunEq R (PySem.W.view R.prog [49]) hk ob 8000 names w) run_f run_t w
theorem facts {P : Program} {w : World} {K : PySem.W.Frag} {h : Heap} {mg : Str → Option Value} {f : Addr} (X : K.In h) (Gn : h.Ns mainGlobals mg) (hfa : mg ("law" : Str) = some (.ref f)) (c : He.SaysD faL fnL K) (ct : He.SaysT faL fnL tsL w K) (hex : exF K = true) (ca : He5.SaysA [] fbL K) :
    ∃ fd : FuncData, (∀ (s : Shared) (v : Value), BindsTo s fd ⟨[v], []⟩ [("_law_script", v)]) ∧ ∀ base : Heap, K.In base → base.Ns mainGlobals mg → FnOk P w K mg base CX0 30 f fd ["_law_script"] (Tr.sp_script K) := by
  obtain ⟨fd_rule_length, F_rule_length⟩ := c.def_ 0 (d := d_rule_length) rfl
  obtain ⟨fd_earlier, F_earlier⟩ := c.def_ 1 (d := d_earlier) rfl
  obtain ⟨fd_fault, F_fault⟩ := c.def_ 2 (d := d_fault) rfl
  obtain ⟨fd_lengths_of, F_lengths_of⟩ := c.def_ 3 (d := d_lengths_of) rfl
  obtain ⟨fd_check_rules, F_check_rules⟩ := c.def_ 4 (d := d_check_rules) rfl
  obtain ⟨fd_inner_place, F_inner_place⟩ := c.def_ 5 (d := d_inner_place) rfl
  obtain ⟨fd_inner_parts, F_inner_parts⟩ := c.def_ 6 (d := d_inner_parts) rfl
  obtain ⟨fd_NoPlace_init, F_NoPlace_init⟩ := c.def_ 7 (d := d_NoPlace_init) rfl
  obtain ⟨fd_NoPart_init, F_NoPart_init⟩ := c.def_ 8 (d := d_NoPart_init) rfl
  obtain ⟨fd_Text_init, F_Text_init⟩ := c.def_ 9 (d := d_Text_init) rfl
  obtain ⟨fd_Text_letter, F_Text_letter⟩ := c.def_ 10 (d := d_Text_letter) rfl
  obtain ⟨fd_Text_check_part, F_Text_check_part⟩ := c.def_ 11 (d := d_Text_check_part) rfl
  obtain ⟨fd_Text_letters, F_Text_letters⟩ := c.def_ 12 (d := d_Text_letters) rfl
  obtain ⟨fd_unfolded, F_unfolded⟩ := c.def_ 13 (d := d_unfolded) rfl
  obtain ⟨fd_grown, F_grown⟩ := c.def_ 14 (d := d_grown) rfl
  obtain ⟨fd_first_place, F_first_place⟩ := c.def_ 15 (d := d_first_place) rfl
  obtain ⟨fd_longest_copy, F_longest_copy⟩ := c.def_ 16 (d := d_longest_copy) rfl
  obtain ⟨fd_shortest_cut, F_shortest_cut⟩ := c.def_ 17 (d := d_shortest_cut) rfl
  obtain ⟨fd_law_pool, F_law_pool⟩ := c.def_ 18 (d := d_law_pool) rfl
  obtain ⟨fd_law_take, F_law_take⟩ := c.def_ 19 (d := d_law_take) rfl
  obtain ⟨fd_law_letters, F_law_letters⟩ := c.def_ 20 (d := d_law_letters) rfl
  obtain ⟨fd_law_add, F_law_add⟩ := c.def_ 21 (d := d_law_add) rfl
  obtain ⟨fd_law_box, F_law_box⟩ := c.def_ 22 (d := d_law_box) rfl
  obtain ⟨fd_law_power_rule, F_law_power_rule⟩ := c.def_ 23 (d := d_law_power_rule) rfl
  obtain ⟨fd_law_next_rule, F_law_next_rule⟩ := c.def_ 24 (d := d_law_next_rule) rfl
  obtain ⟨fd_law_turned_letter, F_law_turned_letter⟩ := c.def_ 25 (d := d_law_turned_letter) rfl
  obtain ⟨fd_law_drawn, F_law_drawn⟩ := c.def_ 26 (d := d_law_drawn) rfl
  obtain ⟨fd_law_period, F_law_period⟩ := c.def_ 27 (d := d_law_period) rfl
  obtain ⟨fd_law_way, F_law_way⟩ := c.def_ 28 (d := d_law_way) rfl
  obtain ⟨fd_law_other, F_law_other⟩ := c.def_ 29 (d := d_law_other) rfl
  obtain ⟨fd_law_some, F_law_some⟩ := c.def_ 30 (d := d_law_some) rfl
  obtain ⟨fd_law_texts, F_law_texts⟩ := c.def_ 31 (d := d_law_texts) rfl
  obtain ⟨fd_law_longest, F_law_longest⟩ := c.def_ 32 (d := d_law_longest) rfl
  obtain ⟨fd_law_spells, F_law_spells⟩ := c.def_ 33 (d := d_law_spells) rfl
  obtain ⟨fd_law_is_cut, F_law_is_cut⟩ := c.def_ 34 (d := d_law_is_cut) rfl
  obtain ⟨fd_law_drawn_cut, F_law_drawn_cut⟩ := c.def_ 35 (d := d_law_drawn_cut) rfl
  obtain ⟨fd_law, F_law⟩ := c.def_ 36 (d := d_law) rfl
  have e := hfa.symm.trans (He.glo_ok X Gn (c.fact 60 (f := .glo "law") rfl))
  cases e
  have T : Tp w K mg := ⟨He.free_ok X Gn (c.fact 0 (f := .free "all") rfl), He.free_ok X Gn (c.fact 1 (f := .free "enumerate") rfl), He.free_ok X Gn (c.fact 2 (f := .free "int") rfl), He.free_ok X Gn (c.fact 3 (f := .free "isinstance") rfl), He.free_ok X Gn (c.fact 4 (f := .free "len") rfl), He.free_ok X Gn (c.fact 5 (f := .free "max") rfl), He.free_ok X Gn (c.fact 6 (f := .free "min") rfl), He.free_ok X Gn (c.fact 7 (f := .free "range") rfl), He.free_ok X Gn (c.fact 8 (f := .free "sum") rfl), He.free_ok X Gn (c.fact 9 (f := .free "tuple") rfl), He.str_ok X Gn (c.fact 10 (f := .str "LETTERS" " !\"#$&'()*+,-./0123456789:;<=>?@ABCDEFGHIJKLMNOPQRSTUVWXYZ[\\]^_`abcdefghijklmnopqrstuvwxyz{|}~") rfl), He.int_ok X Gn (c.fact 11 (f := .int "MOST_LETTERS_cuts" 4096) rfl), He.int_ok X Gn (c.fact 12 (f := .int "MOST_LETTERS_text" 1000000000000) rfl), He.int_ok X Gn (c.fact 13 (f := .int "MOST_RULES" 60) rfl), He.int_ok X Gn (c.fact 14 (f := .int "MOST_TOLD" 1000) rfl), He.int_ok X Gn (c.fact 15 (f := .int "MOST_WRITTEN" 64) rfl), He.glo_ok X Gn (c.fact 16 (f := .glo "SIZES") rfl), ⟨He.cls_ok (c.fact 17 (f := .cls "Text") rfl), by decide +kernel, fun f hf => by
    simp only [ns_Text, List.mem_cons, List.not_mem_nil, or_false] at hf
    rcases hf with rfl | rfl | rfl
    · exact He.noat_ok (c.fact 18 (f := .noat "Text" "rules") rfl)
    · exact He.noat_ok (c.fact 19 (f := .noat "Text" "lengths") rfl)
    · exact He.noat_ok (c.fact 20 (f := .noat "Text" "length") rfl)
    , by decide +kernel⟩, ct.tab 0 rfl, ⟨tv_of (ex_at hex 0 (f := (fun K => He.valsB K (He.ga K "SIZES") sizesL)) rfl) (.head _), tv_of (ex_at hex 0 (f := (fun K => He.valsB K (He.ga K "SIZES") sizesL)) rfl) (.tail _ (.head _)), tv_of (ex_at hex 0 (f := (fun K => He.valsB K (He.ga K "SIZES") sizesL)) rfl) (.tail _ (.tail _ (.head _))), tv_of (ex_at hex 0 (f := (fun K => He.valsB K (He.ga K "SIZES") sizesL)) rfl) (.tail _ (.tail _ (.tail _ (.head _)))), tv_of (ex_at hex 0 (f := (fun K => He.valsB K (He.ga K "SIZES") sizesL)) rfl) (.tail _ (.tail _ (.tail _ (.tail _ (.head _)))))⟩, exB_ok (ex_at hex 1 (f := exB "NoPlace" ["place"]) rfl), exB_ok (ex_at hex 3 (f := exB "NoPart" ["start", "stop"]) rfl), ⟨(He.exc_ok (c.fact 23 (f := .exc "TooLong") rfl)).1, (He.exc_ok (c.fact 23 (f := .exc "TooLong") rfl)).2.1, (He.exc_ok (c.fact 23 (f := .exc "TooLong") rfl)).2.2.1, (He.exc_ok (c.fact 23 (f := .exc "TooLong") rfl)).2.2.2, He.glo_ok X Gn (c.fact 24 (f := .glo "TooLong") rfl)⟩, by have h := (ex_at hex 5 (f := (fun K => !hasP K)) rfl); simpa using h⟩
  have b := FunD.bindsA (ps := ["_law_script"]) F_law fun _ _ _ _ _ _ us hl => match us, hl with | [_], _ => rfl
  refine ⟨fd_law, fun s v => b s [v] rfl, fun base _ _ => ?_⟩
  have G_rule_length : Fn P w K mg base CX0 "rule_length" 1 ["rule", "lengths"] [] (sp_rule_length K) := ⟨⟨fd_rule_length, [], (ok_rule_length T F_rule_length ), (FunD.bindsN F_rule_length fun _ _ _ _ _ _ us hl => match us, hl with | [_, _], _ => rfl), .nil⟩, F_rule_length.kp, He.glo_ok X Gn (c.fact 25 (f := .glo "rule_length") rfl)⟩
  have G_earlier : Fn P w K mg base CX0 "earlier" 1 ["rule"] [] (sp_earlier K) := ⟨⟨fd_earlier, [], (ok_earlier T F_earlier ), (FunD.bindsN F_earlier fun _ _ _ _ _ _ us hl => match us, hl with | [_], _ => rfl), .nil⟩, F_earlier.kp, He.glo_ok X Gn (c.fact 26 (f := .glo "earlier") rfl)⟩
  have G_fault : Fn P w K mg base CX0 "fault" 2 ["rule", "lengths"] [] (spOf K 2 Tr.F_fault) := ⟨⟨fd_fault, [], (ok_fault T F_fault G_earlier G_rule_length), (FunD.bindsN F_fault fun _ _ _ _ _ _ us hl => match us, hl with | [_, _], _ => rfl), .nil⟩, F_fault.kp, He.glo_ok X Gn (c.fact 27 (f := .glo "fault") rfl)⟩
  have G_rule_length' : Fn P w K mg base CX0 "rule_length" 1 ["rule", "lengths"] [] (spOf K 2 Tr.V_rule_length) := ⟨⟨fd_rule_length, [], (ok_rule_length' T F_rule_length ), (FunD.bindsN F_rule_length fun _ _ _ _ _ _ us hl => match us, hl with | [_, _], _ => rfl), .nil⟩, F_rule_length.kp, He.glo_ok X Gn (c.fact 25 (f := .glo "rule_length") rfl)⟩
  have G_lengths_of : Fn P w K mg base CX0 "lengths_of" 2 ["rules"] [] (spOf K 1 Tr.V_lengths_of) := ⟨⟨fd_lengths_of, [], (ok_lengths_of T F_lengths_of G_rule_length'), (FunD.bindsN F_lengths_of fun _ _ _ _ _ _ us hl => match us, hl with | [_], _ => rfl), .nil⟩, F_lengths_of.kp, He.glo_ok X Gn (c.fact 28 (f := .glo "lengths_of") rfl)⟩
  have G_check_rules : Fn P w K mg base CX0 "check_rules" 3 ["rules"] [] (spOf K 1 Tr.V_check_rules) := ⟨⟨fd_check_rules, [], (ok_check_rules T F_check_rules G_fault G_rule_length'), (FunD.bindsN F_check_rules fun _ _ _ _ _ _ us hl => match us, hl with | [_], _ => rfl), .nil⟩, F_check_rules.kp, He.glo_ok X Gn (c.fact 29 (f := .glo "check_rules") rfl)⟩
  have G_inner_place : Fn P w K mg base CX0 "inner_place" 1 ["rule", "lengths", "place"] [] (sp_inner_place K) := ⟨⟨fd_inner_place, [], (ok_inner_place T F_inner_place ), (FunD.bindsN F_inner_place fun _ _ _ _ _ _ us hl => match us, hl with | [_, _, _], _ => rfl), .nil⟩, F_inner_place.kp, He.glo_ok X Gn (c.fact 30 (f := .glo "inner_place") rfl)⟩
  have G_inner_parts : Fn P w K mg base CX0 "inner_parts" 1 ["rule", "lengths", "start", "stop"] [] (sp_inner_parts K) := ⟨⟨fd_inner_parts, [], (ok_inner_parts T F_inner_parts ), (FunD.bindsN F_inner_parts fun _ _ _ _ _ _ us hl => match us, hl with | [_, _, _, _], _ => rfl), .nil⟩, F_inner_parts.kp, He.glo_ok X Gn (c.fact 31 (f := .glo "inner_parts") rfl)⟩
  have G_NoPlace_init : Exi P w K mg base CX0 "NoPlace" 1 ["self", "place"] [] (sp_NoPlace_init K) := ⟨T.k_NoPlace.ox, ⟨fd_NoPlace_init, [], (ok_NoPlace_init T F_NoPlace_init ), (FunD.bindsN F_NoPlace_init fun _ _ _ _ _ _ us hl => match us, hl with | [_, _], _ => rfl), .nil⟩, (exiB_ok (ex_at hex 2 (f := exiB "NoPlace") rfl)).1, (exiB_ok (ex_at hex 2 (f := exiB "NoPlace") rfl)).2, He.glo_ok X Gn (c.fact 21 (f := .glo "NoPlace") rfl)⟩
  have G_NoPart_init : Exi P w K mg base CX0 "NoPart" 1 ["self", "start", "stop"] [] (sp_NoPart_init K) := ⟨T.k_NoPart.ox, ⟨fd_NoPart_init, [], (ok_NoPart_init T F_NoPart_init ), (FunD.bindsN F_NoPart_init fun _ _ _ _ _ _ us hl => match us, hl with | [_, _, _], _ => rfl), .nil⟩, (exiB_ok (ex_at hex 4 (f := exiB "NoPart") rfl)).1, (exiB_ok (ex_at hex 4 (f := exiB "NoPart") rfl)).2, He.glo_ok X Gn (c.fact 22 (f := .glo "NoPart") rfl)⟩
  have G_Text_init : Mkr P w K mg base CX0 "Text" 5 ["self", "rules"] [] (spOf K 2 Tr.V_Text_init) := ⟨⟨fd_Text_init, [], (ok_Text_init T F_Text_init G_check_rules G_lengths_of), (FunD.bindsN F_Text_init fun _ _ _ _ _ _ us hl => match us, hl with | [_, _], _ => rfl), .nil⟩, He.mkr_ok (c.fact 32 (f := .mkr "Text") rfl), He.glo_ok X Gn (c.fact 33 (f := .glo "Text") rfl)⟩
  have G_Text_letter : Me P w K mg base (L2.CX P w) "Text" "letter" 3 ["self", "place"] [] (spOf K 2 Tr.F_letter) := ⟨⟨fd_Text_letter, [], (ok_Text_letter T F_Text_letter G_NoPlace_init G_inner_place), (FunD.bindsN F_Text_letter fun _ _ _ _ _ _ us hl => match us, hl with | [_, _], _ => rfl), .nil⟩, He.cls_ok (c.fact 17 (f := .cls "Text") rfl), He.meth_ok (c.fact 34 (f := .meth "Text" "letter") rfl)⟩
  have G_Text_check_part : Me P w K mg base (L2.CX P w) "Text" "check_part" 3 ["self", "start", "stop"] [] (sp_Text_check_part K) := ⟨⟨fd_Text_check_part, [], (ok_Text_check_part T F_Text_check_part G_NoPart_init), (FunD.bindsN F_Text_check_part fun _ _ _ _ _ _ us hl => match us, hl with | [_, _, _], _ => rfl), .nil⟩, He.cls_ok (c.fact 17 (f := .cls "Text") rfl), He.meth_ok (c.fact 35 (f := .meth "Text" "check_part") rfl)⟩
  have G_Text_letters : Me P w K mg base (L2.CX P w) "Text" "letters" 5 ["self", "start", "stop"] [] (spOf K 3 Tr.F_letters) := ⟨⟨fd_Text_letters, [], (ok_Text_letters T F_Text_letters G_Text_check_part G_inner_parts), (FunD.bindsN F_Text_letters fun _ _ _ _ _ _ us hl => match us, hl with | [_, _, _], _ => rfl), .nil⟩, He.cls_ok (c.fact 17 (f := .cls "Text") rfl), He.meth_ok (c.fact 36 (f := .meth "Text" "letters") rfl)⟩
  have G_unfolded : Fn P w K mg base CX0 "unfolded" 6 ["text"] [] (spOf K 1 Tr.V_unfolded) := ⟨⟨fd_unfolded, [], (ok_unfolded T F_unfolded G_Text_letters), (FunD.bindsN F_unfolded fun _ _ _ _ _ _ us hl => match us, hl with | [_], _ => rfl), .nil⟩, F_unfolded.kp, He.glo_ok X Gn (c.fact 37 (f := .glo "unfolded") rfl)⟩
  have G_grown : Fn P w K mg base CX0 "grown" 1 ["source", "start", "text", "at", "many"] [] (spOf K 5 Tr.V_grown) := ⟨⟨fd_grown, [], (ok_grown T F_grown ), (FunD.bindsN F_grown fun _ _ _ _ _ _ us hl => match us, hl with | [_, _, _, _, _], _ => rfl), .nil⟩, F_grown.kp, He.glo_ok X Gn (c.fact 38 (f := .glo "grown") rfl)⟩
  have G_first_place : Fn P w K mg base CX0 "first_place" 1 ["unpacked", "number", "at", "many"] [] (spOf K 4 Tr.V_first_place) := ⟨⟨fd_first_place, [], (ok_first_place T F_first_place ), (FunD.bindsN F_first_place fun _ _ _ _ _ _ us hl => match us, hl with | [_, _, _, _], _ => rfl), .nil⟩, F_first_place.kp, He.glo_ok X Gn (c.fact 39 (f := .glo "first_place") rfl)⟩
  have G_longest_copy : Fn P w K mg base CX0 "longest_copy" 2 ["unpacked", "number", "at"] [] (spOf K 3 Tr.V_longest_copy) := ⟨⟨fd_longest_copy, [], (ok_longest_copy T F_longest_copy G_grown), (FunD.bindsN F_longest_copy fun _ _ _ _ _ _ us hl => match us, hl with | [_, _, _], _ => rfl), .nil⟩, F_longest_copy.kp, He.glo_ok X Gn (c.fact 40 (f := .glo "longest_copy") rfl)⟩
  have G_shortest_cut : Fn P w K mg base CX0 "shortest_cut" 7 ["texts"] [] (spOf K 1 Tr.V_shortest_cut) := ⟨⟨fd_shortest_cut, [], (ok_shortest_cut T F_shortest_cut G_unfolded G_longest_copy G_first_place), (FunD.bindsN F_shortest_cut fun _ _ _ _ _ _ us hl => match us, hl with | [_], _ => rfl), .nil⟩, F_shortest_cut.kp, He.glo_ok X Gn (c.fact 41 (f := .glo "shortest_cut") rfl)⟩
  have G_law_pool : Fn P w K mg base CX0 "_law_pool" 1 ["_law_script"] [] (spOf K 1 Tr.v_law_pool) := ⟨⟨fd_law_pool, [], (ok_law_pool T F_law_pool ), (FunD.bindsN F_law_pool fun _ _ _ _ _ _ us hl => match us, hl with | [_], _ => rfl), .nil⟩, F_law_pool.kp, He.glo_ok X Gn (c.fact 42 (f := .glo "_law_pool") rfl)⟩
  have G_take0 : Fn P w K mg base CX0 "_law_take" 0 ["_law_pool_here", "_law_many"] [] (spOf K 2 Tr.noF) := ⟨⟨fd_law_take, [], ⟨fun _ _ _ _ h => (Tr.spNo h).elim, fun _ _ _ _ _ _ _ _ _ _ _ _ _ h => (Tr.spNo h).elim⟩, (FunD.bindsN F_law_take fun _ _ _ _ _ _ us hl => match us, hl with | [_, _], _ => rfl), .nil⟩, F_law_take.kp, He.glo_ok X Gn (c.fact 43 (f := .glo "_law_take") rfl)⟩
  have G_take1 : Fn P w K mg base CX0 "_law_take" 1 ["_law_pool_here", "_law_many"] [] (spOf K 2 Tr.V_take0) := ⟨⟨fd_law_take, [], (ok_law_take T F_law_take G_take0 (fun vs H Q E h => by obtain ⟨_, _, _, _, _, hl, _⟩ := h; exact hl) (Tr.pure_law_take _)), (FunD.bindsN F_law_take fun _ _ _ _ _ _ us hl => match us, hl with | [_, _], _ => rfl), .nil⟩, F_law_take.kp, He.glo_ok X Gn (c.fact 43 (f := .glo "_law_take") rfl)⟩
  have G_law_take : Fn P w K mg base CX0 "_law_take" 2 ["_law_pool_here", "_law_many"] [] (spOf K 2 Tr.V_take) := ⟨⟨fd_law_take, [], (ok_law_take T F_law_take G_take1 (fun vs H Q E h => by obtain ⟨_, _, _, _, _, hl, _⟩ := h; exact hl) (Tr.pure_law_take _)), (FunD.bindsN F_law_take fun _ _ _ _ _ _ us hl => match us, hl with | [_, _], _ => rfl), .nil⟩, F_law_take.kp, He.glo_ok X Gn (c.fact 43 (f := .glo "_law_take") rfl)⟩
  have G_law_letters : Fn P w K mg base CX0 "_law_letters" 3 ["_law_pool_here", "_law_most"] [] (spOf K 2 Tr.V_letters) := ⟨⟨fd_law_letters, [], (ok_law_letters T F_law_letters G_law_take), (FunD.bindsN F_law_letters fun _ _ _ _ _ _ us hl => match us, hl with | [_, _], _ => rfl), .nil⟩, F_law_letters.kp, He.glo_ok X Gn (c.fact 44 (f := .glo "_law_letters") rfl)⟩
  have G_law_add : Fn P w K mg base CX0 "_law_add" 1 ["_law_box_here", "_law_rule", "_law_text"] [] (spOf K 3 Tr.V_add) := ⟨⟨fd_law_add, [], (ok_law_add T F_law_add ), (FunD.bindsN F_law_add fun _ _ _ _ _ _ us hl => match us, hl with | [_, _, _], _ => rfl), .nil⟩, F_law_add.kp, He.glo_ok X Gn (c.fact 45 (f := .glo "_law_add") rfl)⟩
  have G_law_box : Fn P w K mg base CX0 "_law_box" 1 [] [] (spOf K 0 Tr.v_law_box) := ⟨⟨fd_law_box, [], (ok_law_box T F_law_box ), (FunD.bindsN F_law_box fun _ _ _ _ _ _ us hl => match us, hl with | [], _ => rfl), .nil⟩, F_law_box.kp, He.glo_ok X Gn (c.fact 46 (f := .glo "_law_box") rfl)⟩
  have G_law_power_rule : Fn P w K mg base CX0 "_law_power_rule" 3 ["_law_pool_here", "_law_box_here", "_law_most"] [] (spOf K 3 Tr.V_power_rule) := ⟨⟨fd_law_power_rule, [], (ok_law_power_rule T F_law_power_rule G_law_take G_law_add), (FunD.bindsN F_law_power_rule fun _ _ _ _ _ _ us hl => match us, hl with | [_, _, _], _ => rfl), .nil⟩, F_law_power_rule.kp, He.glo_ok X Gn (c.fact 47 (f := .glo "_law_power_rule") rfl)⟩
  have G_law_next_rule : Fn P w K mg base CX0 "_law_next_rule" 4 ["_law_pool_here", "_law_box_here", "_law_most"] [] (spOf K 3 Tr.V_next_rule) := ⟨⟨fd_law_next_rule, [], (ok_law_next_rule T F_law_next_rule G_law_take G_law_letters G_law_add G_law_power_rule), (FunD.bindsN F_law_next_rule fun _ _ _ _ _ _ us hl => match us, hl with | [_, _, _], _ => rfl), .nil⟩, F_law_next_rule.kp, He.glo_ok X Gn (c.fact 48 (f := .glo "_law_next_rule") rfl)⟩
  have G_law_turned_letter : Fn P w K mg base CX0 "_law_turned_letter" 3 ["_law_pool_here", "_law_box_here", "_law_most"] [] (spOf K 3 Tr.V_turned_letter) := ⟨⟨fd_law_turned_letter, [], (ok_law_turned_letter T F_law_turned_letter G_law_take G_law_add), (FunD.bindsN F_law_turned_letter fun _ _ _ _ _ _ us hl => match us, hl with | [_, _, _], _ => rfl), .nil⟩, F_law_turned_letter.kp, He.glo_ok X Gn (c.fact 49 (f := .glo "_law_turned_letter") rfl)⟩
  have G_law_drawn : Fn P w K mg base CX0 "_law_drawn" 5 ["_law_pool_here", "_law_most"] [] (spOf K 2 Tr.V_drawn) := ⟨⟨fd_law_drawn, [], (ok_law_drawn T F_law_drawn G_law_box G_law_take G_law_next_rule G_law_power_rule G_law_turned_letter), (FunD.bindsN F_law_drawn fun _ _ _ _ _ _ us hl => match us, hl with | [_, _], _ => rfl), .nil⟩, F_law_drawn.kp, He.glo_ok X Gn (c.fact 50 (f := .glo "_law_drawn") rfl)⟩
  have G_law_period : Fn P w K mg base CX0 "_law_period" 1 ["_law_letters_here"] [] (spOf K 1 Tr.V_period) := ⟨⟨fd_law_period, [], (ok_law_period T F_law_period ), (FunD.bindsN F_law_period fun _ _ _ _ _ _ us hl => match us, hl with | [_], _ => rfl), .nil⟩, F_law_period.kp, He.glo_ok X Gn (c.fact 51 (f := .glo "_law_period") rfl)⟩
  have G_way0 : Fn P w K mg base CX0 "_law_way" 3 ["_law_pool_here", "_law_box_here", "_law_letters_here", "_law_deep"] [] (spOf K 4 Tr.noF) := ⟨⟨fd_law_way, [], ⟨fun _ _ _ _ h => (Tr.spNo h).elim, fun _ _ _ _ _ _ _ _ _ _ _ _ _ h => (Tr.spNo h).elim⟩, (FunD.bindsN F_law_way fun _ _ _ _ _ _ us hl => match us, hl with | [_, _, _, _], _ => rfl), .nil⟩, F_law_way.kp, He.glo_ok X Gn (c.fact 52 (f := .glo "_law_way") rfl)⟩
  have G_wayN : ∀ n, Fn P w K mg base CX0 "_law_way" (n + 3) ["_law_pool_here", "_law_box_here", "_law_letters_here", "_law_deep"] [] (spOf K 4 (Tr.V_wayD n)) := fun n => by
    induction n with
    | zero => exact G_way0
    | succ n ih => exact ⟨⟨fd_law_way, [], (ok_law_way T F_law_way G_law_take G_law_period ih G_law_add G_law_letters (by omega) (fun vs H Q E h => by obtain ⟨_, _, _, _, _, hl, _⟩ := h; exact hl) (Tr.pure_law_way _ _ _ _ _)), (FunD.bindsN F_law_way fun _ _ _ _ _ _ us hl => match us, hl with | [_, _, _, _], _ => rfl), .nil⟩, F_law_way.kp, He.glo_ok X Gn (c.fact 52 (f := .glo "_law_way") rfl)⟩
  have G_law_way : Fn P w K mg base CX0 "_law_way" 23 ["_law_pool_here", "_law_box_here", "_law_letters_here", "_law_deep"] [] (spOf K 4 Tr.V_way) := G_wayN 20
  have G_law_other : Fn P w K mg base CX0 "_law_other" 24 ["_law_pool_here", "_law_letters_here"] [] (spOf K 2 Tr.V_other) := ⟨⟨fd_law_other, [], (ok_law_other T F_law_other G_law_box G_law_way), (FunD.bindsN F_law_other fun _ _ _ _ _ _ us hl => match us, hl with | [_, _], _ => rfl), .nil⟩, F_law_other.kp, He.glo_ok X Gn (c.fact 53 (f := .glo "_law_other") rfl)⟩
  have G_law_some : Fn P w K mg base CX0 "_law_some" 6 ["_law_pool_here", "_law_many", "_law_most"] [] (spOf K 3 Tr.V_some) := ⟨⟨fd_law_some, [], (ok_law_some T F_law_some G_law_take G_law_drawn G_law_letters), (FunD.bindsN F_law_some fun _ _ _ _ _ _ us hl => match us, hl with | [_, _, _], _ => rfl), .nil⟩, F_law_some.kp, He.glo_ok X Gn (c.fact 54 (f := .glo "_law_some") rfl)⟩
  have G_law_texts : Fn P w K mg base CX0 "_law_texts" 25 ["_law_pool_here", "_law_letters_here"] [] (spOf K 2 Tr.V_texts) := ⟨⟨fd_law_texts, [], (ok_law_texts T F_law_texts G_Text_init G_law_other), (FunD.bindsN F_law_texts fun _ _ _ _ _ _ us hl => match us, hl with | [_, _], _ => rfl), .nil⟩, F_law_texts.kp, He.glo_ok X Gn (c.fact 55 (f := .glo "_law_texts") rfl)⟩
  have G_law_longest : Fn P w K mg base CX0 "_law_longest" 1 ["_law_letters_here", "_law_number", "_law_at"] [] (spOf K 3 Tr.V_longest) := ⟨⟨fd_law_longest, [], (ok_law_longest T F_law_longest ), (FunD.bindsN F_law_longest fun _ _ _ _ _ _ us hl => match us, hl with | [_, _, _], _ => rfl), .nil⟩, F_law_longest.kp, He.glo_ok X Gn (c.fact 56 (f := .glo "_law_longest") rfl)⟩
  have G_law_spells : Fn P w K mg base CX0 "_law_spells" 1 ["_law_letters_here", "_law_number", "_law_row"] [] (spOf K 3 Tr.V_spells) := ⟨⟨fd_law_spells, [], (ok_law_spells T F_law_spells ), (FunD.bindsN F_law_spells fun _ _ _ _ _ _ us hl => match us, hl with | [_, _, _], _ => rfl), .nil⟩, F_law_spells.kp, He.glo_ok X Gn (c.fact 57 (f := .glo "_law_spells") rfl)⟩
  have G_law_is_cut : Fn P w K mg base CX0 "_law_is_cut" 2 ["_law_letters_here", "_law_cut"] [] (spOf K 2 Tr.V_is_cut) := ⟨⟨fd_law_is_cut, [], (ok_law_is_cut T F_law_is_cut G_law_spells), (FunD.bindsN F_law_is_cut fun _ _ _ _ _ _ us hl => match us, hl with | [_, _], _ => rfl), .nil⟩, F_law_is_cut.kp, He.glo_ok X Gn (c.fact 58 (f := .glo "_law_is_cut") rfl)⟩
  have G_law_drawn_cut : Fn P w K mg base CX0 "_law_drawn_cut" 3 ["_law_pool_here", "_law_letters_here"] [] (spOf K 2 Tr.V_drawn_cut) := ⟨⟨fd_law_drawn_cut, [], (ok_law_drawn_cut T F_law_drawn_cut G_law_longest G_law_take), (FunD.bindsN F_law_drawn_cut fun _ _ _ _ _ _ us hl => match us, hl with | [_, _], _ => rfl), .nil⟩, F_law_drawn_cut.kp, He.glo_ok X Gn (c.fact 59 (f := .glo "_law_drawn_cut") rfl)⟩
  exact ok_law T F_law G_law_pool G_law_some G_law_take G_law_texts G_shortest_cut G_law_is_cut G_law_drawn_cut G_Text_init G_law_other
end Sh
open PySem PySem.W PySem.Calls PyProof.Rows
set_option maxRecDepth 100000 in
set_option maxHeartbeats 0 in
theorem PySem.Challenge.cw_shortheld_k39_whole_fewest_phrases_holds : PySem.Challenge.rw_shortheld_k39_whole_fewest_phrases.Holds := by
  w_on; o_law
  refine HandSHeadRun.head_any (r := OpenLaw.row PySem.Challenge.rw_shortheld_k39_whole_fewest_phrases) (q := view (OpenLaw.row PySem.Challenge.rw_shortheld_k39_whole_fewest_phrases).prog [49]) (H := Sh.hk) (ob := Sh.ob) (M := 8000) (loose := Sh.names) (d := HandSHeadRun.topDef (OpenLaw.row PySem.Challenge.rw_shortheld_k39_whole_fewest_phrases).prog 49) (kwd := []) Sh.ob_eq
    (by kernel_rfl) (fun s => by kernel_rfl) Sh.run (by kernel_rfl) (by kernel_rfl) (by kernel_rfl) (by rfl) (by first | assumption | decide +kernel) (by decide +kernel) ⟨rfl, rfl, rfl, rfl, rfl, by decide +kernel⟩ ?hw ?hc
  case hw => w_witness2
  case hc =>
    refine L2.walk_ofE (l := PySem.Challenge.rw_shortheld_k39_whole_fewest_phrases) (n := 63) (k := 30) (x := "_law_script") (CX := L2.CX0) rfl (by decide) (by kernel_rfl) ⟨rfl, by decide, by decide⟩ ?F (fun _ _ _ _ z => z)
    intro w mg fa h Y G hmg0
    obtain ⟨K, KX, c⟩ := Y
    have hmg : mg ("law" : PySem.Str) = some (.ref fa) := by
      have e : (HandSHeadRun.topDef (OpenLaw.row PySem.Challenge.rw_shortheld_k39_whole_fewest_phrases).prog 49).name = ("law" : PySem.Str) := by kernel_rfl
      rw [← e]
      exact hmg0
    obtain ⟨fd, hb, hF⟩ := Sh.facts (P := (PySem.Challenge.rw_shortheld_k39_whole_fewest_phrases).prog) (w := w) KX G hmg c.t.d c.t c.more c.a
    exact ⟨K, fd, Sh.Tr.sp_script K, KX, hb, fun H a ns hl _ hS => ⟨a, ns, rfl, hS, hl, fun _ => rfl⟩, hF⟩
#print axioms PySem.Challenge.cw_shortheld_k39_whole_fewest_phrases_holds

