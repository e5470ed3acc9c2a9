import PyProof.Rows.All
import Wide.All
import OpenK.AllK
import Wide.FinOn
import HandS.ForMost
import HandS.ForExc
import HandS.Sort
import HandS.SortKw
import HandS.Style
import HandS.Flow
import HandS.IsInst
import HandS.Conv
import HandS.TupAny
import HandS.TupMul
import KE.DataEq
import KE.KTupSum
import HandS.Zip
import HandS.Wide
import HandS.WordsExc
import KE.GoesMore
import HandS.SortInts
import HandS.More
import HandS.Deep
import HandS.SetFor
import PySem.Challenge.RW_skittlehall_k05_whole_turns
set_option Elab.async false
set_option linter.all false
set_option maxRecDepth 100000
namespace Ev
open PySem PySem.Spec L2

abbrev D := PyData
def keyD : Key → D
  | .inl i => .int i
  | .inr x => .str x

/-! ### heaps -/
def Ex (H H' : Hp) : Prop := ∀ a o, H a = some o → H' a = some o
theorem Ex.refl (H : Hp) : Ex H H := fun _ _ h => h
theorem Ex.trans {H H1 H2 : Hp} (a : Ex H H1) (b : Ex H1 H2) : Ex H H2 := fun x o h => b x o (a x o h)
theorem Ex.new {H : Hp} {p : Addr} {o : HO} (h : H p = none) : Ex H (upd H p o) := fun a u e => by
  rw [upd_ne (ne_of_none e h)]
  exact e
/-- an object that Z does not know may change -/
theorem Ex.mut {Z H : Hp} {p : Addr} {o : HO} (e : Ex Z H) (h : Z p = none) : Ex Z (upd H p o) := fun a u ha => by
  rw [upd_ne (ne_of_none ha h)]
  exact e a u ha
theorem Ex.both {Z H : Hp} {p : Addr} {o : HO} (e : Ex Z H) : Ex (upd Z p o) (upd H p o) := fun a u ha => by
  by_cases q : a = p
  · subst q; rw [upd_same] at ha ⊢; exact ha
  · rw [upd_ne q] at ha ⊢; exact e a u ha
theorem Ex.free {Z H : Hp} {p : Addr} (e : Ex Z H) (h : H p = none) : Z p = none := by
  cases q : Z p with
  | none => rfl
  | some o => rw [e p o q] at h; cases h
theorem ex_rd {H H' : Hp} {a : Addr} {u : HO} (e : Ex H H') (h : Rd H a u) : Rd H' a u := by
  rcases h with h | ⟨o, h⟩
  · exact Or.inl (e a _ h)
  · exact Or.inr ⟨o, e a _ h⟩
theorem ex_l {H H' : Hp} {a : Addr} {xs : List V} (e : Ex H H') (h : SqL K H a xs) : SqL K H' a xs := by
  rcases h with h | h
  · exact Or.inl (ex_rd e h)
  · exact Or.inr h
theorem ex_t {H H' : Hp} {a : Addr} {xs : List V} (e : Ex H H') (h : SqT K H a xs) : SqT K H' a xs := by
  rcases h with h | h
  · exact Or.inl (ex_rd e h)
  · exact Or.inr h

/-- the script, which nobody writes: told apart from lists -/
def scrD (ns : List Int) : D := .dict [(.none, .list (ns.map PyData.int))]

/-! ### values that stand for data -/
mutual
inductive Rep (Z : Hp) : V → D → Prop
  | non : Rep Z .non .none
  | bl (b : Bool) : Rep Z (.bl b) (.bool b)
  | int (i : Int) : Rep Z (.int i) (.int i)
  | str (x : Str) : Rep Z (.str x) (.str x)
  | tup {a : Addr} {xs : List V} {ds : List D} : Z a = some (.tup xs) → Reps Z xs ds → Rep Z (.ref a) (.tuple ds)
  | lst {a : Addr} {xs : List V} {ds : List D} : Z a = some (.lst xs) → Reps Z xs ds → Rep Z (.ref a) (.list ds)
  | scr {a : Addr} {ns : List Int} {o : Obj} : Z a = some (.frz o (.lst (ns.map V.int))) → Rep Z (.ref a) (scrD ns)
  | dK {a : Addr} {kvs : List (Key × V)} {es : List (D × D)} : Z a = some (.dK kvs) → RepK Z kvs es → Rep Z (.ref a) (.dict es)
  | dT {a : Addr} {kvs : List (List Key × V)} {es : List (D × D)} : Z a = some (.dT kvs) → RepT Z kvs es → Rep Z (.ref a) (.dict es)
inductive Reps (Z : Hp) : List V → List D → Prop
  | nil : Reps Z [] []
  | cons {v : V} {vs : List V} {d : D} {ds : List D} : Rep Z v d → Reps Z vs ds → Reps Z (v :: vs) (d :: ds)
inductive RepK (Z : Hp) : List (Key × V) → List (D × D) → Prop
  | nil : RepK Z [] []
  | cons {k : Key} {v : V} {d : D} {kvs : List (Key × V)} {es : List (D × D)} : Rep Z v d → RepK Z kvs es → RepK Z ((k, v) :: kvs) ((keyD k, d) :: es)
inductive RepT (Z : Hp) : List (List Key × V) → List (D × D) → Prop
  | nil : RepT Z [] []
  | cons {ks : List Key} {v : V} {d : D} {kvs : List (List Key × V)} {es : List (D × D)} : Rep Z v d → RepT Z kvs es → RepT Z ((ks, v) :: kvs) ((.tuple (ks.map keyD), d) :: es)
end

section
variable {Z Z' : Hp}
mutual
theorem Rep.mono (e : Ex Z Z') : ∀ {v : V} {d : D}, Rep Z v d → Rep Z' v d
  | _, _, .non => .non
  | _, _, .bl b => .bl b
  | _, _, .int i => .int i
  | _, _, .str x => .str x
  | _, _, .tup h r => .tup (e _ _ h) (Reps.mono e r)
  | _, _, .lst h r => .lst (e _ _ h) (Reps.mono e r)
  | _, _, .scr h => .scr (e _ _ h)
  | _, _, .dK h r => .dK (e _ _ h) (RepK.mono e r)
  | _, _, .dT h r => .dT (e _ _ h) (RepT.mono e r)
theorem Reps.mono (e : Ex Z Z') : ∀ {vs : List V} {ds : List D}, Reps Z vs ds → Reps Z' vs ds
  | _, _, .nil => .nil
  | _, _, .cons h r => .cons (Rep.mono e h) (Reps.mono e r)
theorem RepK.mono (e : Ex Z Z') : ∀ {vs : List (Key × V)} {ds : List (D × D)}, RepK Z vs ds → RepK Z' vs ds
  | _, _, .nil => .nil
  | _, _, .cons h r => .cons (Rep.mono e h) (RepK.mono e r)
theorem RepT.mono (e : Ex Z Z') : ∀ {vs : List (List Key × V)} {ds : List (D × D)}, RepT Z vs ds → RepT Z' vs ds
  | _, _, .nil => .nil
  | _, _, .cons h r => .cons (Rep.mono e h) (RepT.mono e r)
end
theorem Reps.length {vs : List V} {ds : List D} : ∀ (_ : Reps Z vs ds), vs.length = ds.length := by
  induction vs generalizing ds with
  | nil => intro h; cases h; rfl
  | cons v vs ih => intro h; cases h with | cons _ r => simp [ih r]
theorem Reps.get {vs : List V} {ds : List D} {i : Nat} {d : D} (h : Reps Z vs ds) (e : ds[i]? = some d) : ∃ v, vs[i]? = some v ∧ Rep Z v d := by
  induction vs generalizing ds i with
  | nil => cases h; simp at e
  | cons v vs ih =>
    cases h with
    | cons q r =>
      cases i with
      | zero => simp at e; subst e; exact ⟨v, by simp, q⟩
      | succ i => simp at e; simpa using ih r e
theorem Reps.getV {vs : List V} {ds : List D} {i : Nat} {v : V} (h : Reps Z vs ds) (e : vs[i]? = some v) : ∃ d, ds[i]? = some d ∧ Rep Z v d := by
  induction vs generalizing ds i with
  | nil => cases h; simp at e
  | cons v vs ih =>
    cases h with
    | cons q r =>
      cases i with
      | zero => simp at e; subst e; exact ⟨_, by simp, q⟩
      | succ i => simp at e; simpa using ih r e
theorem Reps.append {vs ws : List V} {ds es : List D} (h : Reps Z vs ds) (g : Reps Z ws es) : Reps Z (vs ++ ws) (ds ++ es) := by
  induction vs generalizing ds with
  | nil => cases h; exact g
  | cons v vs ih => cases h with | cons q r => exact .cons q (ih r)
theorem Reps.take {vs : List V} {ds : List D} (h : Reps Z vs ds) : ∀ n : Nat, Reps Z (vs.take n) (ds.take n) := by
  induction vs generalizing ds with
  | nil => intro n; cases h; simp; exact .nil
  | cons v vs ih => intro n; cases h with | cons q r => cases n with
    | zero => exact .nil
    | succ n => exact .cons q (ih r n)
theorem Reps.drop {vs : List V} {ds : List D} (h : Reps Z vs ds) : ∀ n : Nat, Reps Z (vs.drop n) (ds.drop n) := by
  induction vs generalizing ds with
  | nil => intro n; cases h; simp; exact .nil
  | cons v vs ih => intro n; cases h with | cons q r => cases n with
    | zero => exact .cons q r
    | succ n => exact ih r n
theorem Reps.set {vs : List V} {ds : List D} {v : V} {d : D} (h : Reps Z vs ds) (q : Rep Z v d) : ∀ n : Nat, Reps Z (vs.set n v) (ds.set n d) := by
  induction vs generalizing ds with
  | nil => intro n; cases h; exact .nil
  | cons w vs ih => intro n; cases h with | cons q' r => cases n with
    | zero => exact .cons q r
    | succ n => exact .cons q' (ih r n)
theorem Reps.reverse {vs : List V} {ds : List D} (h : Reps Z vs ds) : Reps Z vs.reverse ds.reverse := by
  induction vs generalizing ds with
  | nil => cases h; exact .nil
  | cons v vs ih => cases h with | cons q r => rw [List.reverse_cons, List.reverse_cons]; exact (ih r).append (.cons q .nil)
theorem Reps.nil_iff {vs : List V} {ds : List D} (h : Reps Z vs ds) : vs.isEmpty = ds.isEmpty := by
  cases h <;> rfl
end

/-! ### what a frame holds -/
/-- an object of one's own: nobody else knows it -/
inductive Ob where
  | lst (xs : List D)
  | dct (es : List (D × D))
inductive Sl where
  | no
  | d (x : D)
  | own (b : Bool) (o : Ob)
  | lent
def Ob.toD : Ob → D
  | .lst xs => .list xs
  | .dct es => .dict es
abbrev Sg := List Sl
def gt (S : Sg) (i : Nat) : Sl := S.getD i .no

def Holds (Z H : Hp) (v : V) (o : Ob) (fp : List Addr) : Prop :=
  match o with
  | .lst ds => ∃ a xs, v = .ref a ∧ fp = [a] ∧ H a = some (.lst xs) ∧ Reps Z xs ds
  | .dct es => ∃ a, v = .ref a ∧ fp = [a] ∧ ((∃ kvs, H a = some (.dK kvs) ∧ RepK Z kvs es) ∨ ∃ kvs, H a = some (.dT kvs) ∧ RepT Z kvs es)
def SlotR (Z H : Hp) (anchor : Option V) (s : Option (Option V)) (x : Sl) (fp : List Addr) : Prop :=
  match x with
  | .no => fp = []
  | .d x => fp = [] ∧ ∃ v, s = some (some v) ∧ Rep Z v x
  | .own b o => ∃ v, s = some (some v) ∧ Holds Z H v o fp ∧ (b = true → anchor = some v)
  | .lent => fp = [] ∧ ∃ v, s = some (some v) ∧ anchor = some v
def TmpR (Z H : Hp) (t : Option (V × Ob)) (fp : List Addr) : Prop :=
  match t with
  | none => fp = []
  | some (v, o) => Holds Z H v o fp
/-- S tells the slots σ over the heap H: Z what stands for good, F what callers own -/
structure RepSt (F Z : Hp) (B : Nat → Option V) (S : Sg) (σ : St) (H : Hp) (t : Option (V × Ob)) : Prop where
  len : S.length = σ.length
  exF : Ex F H
  exZ : Ex Z H
  dj : ∀ a, F a ≠ none → Z a = none
  ex : ∃ fp : Option Nat → List Addr, (∀ i, SlotR Z H (B i) σ[i]? (gt S i) (fp (some i))) ∧ TmpR Z H t (fp none) ∧
    (∀ j, ∀ a ∈ fp j, Z a = none ∧ F a = none) ∧ ∀ i j a, a ∈ fp i → a ∈ fp j → i = j

theorem Holds.mono {Z Z' H : Hp} {v : V} {o : Ob} {fp : List Addr} (e : Ex Z Z') (h : Holds Z H v o fp) : Holds Z' H v o fp := by
  cases o with
  | lst ds => obtain ⟨a, xs, h1, h2, h3, h4⟩ := h; exact ⟨a, xs, h1, h2, h3, h4.mono e⟩
  | dct es =>
    obtain ⟨a, h1, h2, h3⟩ := h
    refine ⟨a, h1, h2, ?_⟩
    rcases h3 with ⟨kvs, h3, h4⟩ | ⟨kvs, h3, h4⟩
    · exact .inl ⟨kvs, h3, h4.mono e⟩
    · exact .inr ⟨kvs, h3, h4.mono e⟩
/-- .. in another heap that has the same at its places -/
theorem Holds.at {Z H H' : Hp} {v : V} {o : Ob} {fp : List Addr} (h : Holds Z H v o fp) (k : ∀ a ∈ fp, H' a = H a) : Holds Z H' v o fp := by
  cases o with
  | lst ds => obtain ⟨a, xs, h1, h2, h3, h4⟩ := h; exact ⟨a, xs, h1, h2, by rw [k a (by simp [h2])]; exact h3, h4⟩
  | dct es =>
    obtain ⟨a, h1, h2, h3⟩ := h
    refine ⟨a, h1, h2, ?_⟩
    rw [k a (by simp [h2])]
    exact h3
theorem Holds.there {Z H : Hp} {v : V} {o : Ob} {fp : List Addr} (h : Holds Z H v o fp) : ∀ a ∈ fp, H a ≠ none := by
  cases o with
  | lst ds => obtain ⟨a, xs, h1, h2, h3, h4⟩ := h; intro b hb; rw [h2] at hb; simp at hb; subst hb; rw [h3]; simp
  | dct es =>
    obtain ⟨a, h1, h2, h3⟩ := h
    intro b hb; rw [h2] at hb; simp at hb; subst hb
    rcases h3 with ⟨kvs, h3, h4⟩ | ⟨kvs, h3, h4⟩ <;> rw [h3] <;> simp
theorem SlotR.mono {Z Z' H : Hp} {an : Option V} {s : Option (Option V)} {x : Sl} {fp : List Addr} (e : Ex Z Z') (h : SlotR Z H an s x fp) : SlotR Z' H an s x fp := by
  cases x with
  | no => exact h
  | d x => obtain ⟨h1, v, h2, h3⟩ := h; exact ⟨h1, v, h2, h3.mono e⟩
  | own b o => obtain ⟨v, h1, h2, h3⟩ := h; exact ⟨v, h1, h2.mono e, h3⟩
  | lent => exact h
theorem SlotR.at {Z H H' : Hp} {an : Option V} {s : Option (Option V)} {x : Sl} {fp : List Addr} (h : SlotR Z H an s x fp) (k : ∀ a ∈ fp, H' a = H a) : SlotR Z H' an s x fp := by
  cases x with
  | no => exact h
  | d x => exact h
  | own b o => obtain ⟨v, h1, h2, h3⟩ := h; exact ⟨v, h1, h2.at k, h3⟩
  | lent => exact h
theorem SlotR.there {Z H : Hp} {an : Option V} {s : Option (Option V)} {x : Sl} {fp : List Addr} (h : SlotR Z H an s x fp) : ∀ a ∈ fp, H a ≠ none := by
  cases x with
  | no => intro a ha; rw [show fp = [] from h] at ha; cases ha
  | d x => intro a ha; rw [h.1] at ha; cases ha
  | own b o => obtain ⟨v, h1, h2, h3⟩ := h; exact h2.there
  | lent => intro a ha; rw [h.1] at ha; cases ha
theorem TmpR.mono {Z Z' H : Hp} {t : Option (V × Ob)} {fp : List Addr} (e : Ex Z Z') (h : TmpR Z H t fp) : TmpR Z' H t fp := by
  cases t with
  | none => exact h
  | some p => exact Holds.mono e h
theorem TmpR.at {Z H H' : Hp} {t : Option (V × Ob)} {fp : List Addr} (h : TmpR Z H t fp) (k : ∀ a ∈ fp, H' a = H a) : TmpR Z H' t fp := by
  cases t with
  | none => exact h
  | some p => exact Holds.at h k
theorem TmpR.there {Z H : Hp} {t : Option (V × Ob)} {fp : List Addr} (h : TmpR Z H t fp) : ∀ a ∈ fp, H a ≠ none := by
  cases t with
  | none => intro a ha; rw [show fp = [] from h] at ha; cases ha
  | some p => exact Holds.there h

section
variable {F Z Z' : Hp} {B : Nat → Option V} {S : Sg} {σ : St} {H H' : Hp} {t : Option (V × Ob)}
/-- a new object that stands for good -/
theorem RepSt.new {p : Addr} {o : HO} (R : RepSt F Z B S σ H t) (hp : H p = none) : RepSt F (upd Z p o) B S σ (upd H p o) t := by
  obtain ⟨hl, eF, eZ, dj, fp, h1, h2, h3, h4⟩ := R
  have nz : Z p = none := eZ.free hp
  have nF : F p = none := eF.free hp
  have np : ∀ j, ∀ a ∈ fp j, a ≠ p := fun j a ha e => by
    subst e
    cases j with
    | none => exact h2.there a ha hp
    | some i => exact (h1 i).there a ha hp
  refine ⟨hl, eF.mut nF, eZ.both, fun a ha => by rw [upd_ne (fun e => ha (by rw [e]; exact nF))]; exact dj a ha, fp, fun i => ?_, ?_, fun j a ha => ?_, h4⟩
  · exact ((h1 i).mono (Ex.new nz)).at fun a ha => upd_ne (np _ a ha)
  · exact (h2.mono (Ex.new nz)).at fun a ha => upd_ne (np _ a ha)
  · rw [upd_ne (np j a ha)]; exact h3 j a ha
/-- a new object of our own -/
theorem RepSt.tmp {p : Addr} {o : HO} {b : Ob} (R : RepSt F Z B S σ H none) (hp : H p = none) (hb : Holds Z (upd H p o) (.ref p) b [p]) : RepSt F Z B S σ (upd H p o) (some (.ref p, b)) := by
  obtain ⟨hl, eF, eZ, dj, fp, h1, h2, h3, h4⟩ := R
  have nz : Z p = none := eZ.free hp
  have nF : F p = none := eF.free hp
  have np : ∀ i, ∀ a ∈ fp (some i), a ≠ p := fun i a ha e => by
    subst e
    exact (h1 i).there a ha hp
  refine ⟨hl, eF.mut nF, eZ.mut nz, dj, fun j => match j with | none => [p] | some i => fp (some i), fun i => ?_, hb, fun j a ha => ?_, fun i j a hi hj => ?_⟩
  · exact (h1 i).at fun a ha => upd_ne (np i a ha)
  · cases j with
    | none => simp at ha; subst ha; exact ⟨nz, nF⟩
    | some i => exact h3 _ a ha
  · cases i with
    | none =>
      cases j with
      | none => rfl
      | some j => simp at hi; exact absurd hi (np j a hj)
    | some i =>
      cases j with
      | none => simp at hj; exact absurd hj (np i a hi)
      | some j => exact h4 _ _ a hi hj
theorem holds_lst {p : Addr} {xs : List V} {ds : List D} (r : Reps Z xs ds) : Holds Z (upd H p (.lst xs)) (.ref p) (.lst ds) [p] := ⟨p, xs, rfl, rfl, upd_same, r⟩
/-- the places of an object join what stands for good -/
def addZ (Z H : Hp) (fp : List Addr) : Hp := fun a => if a ∈ fp then H a else Z a
theorem ex_addZ {fp : List Addr} (h : ∀ a ∈ fp, Z a = none) : Ex Z (addZ Z H fp) := fun a o e => by
  unfold addZ
  by_cases q : a ∈ fp
  · rw [h a q] at e; cases e
  · rw [if_neg q]; exact e
theorem ex_addZ2 {fp : List Addr} (e : Ex Z H) : Ex (addZ Z H fp) H := fun a o h => by
  unfold addZ at h
  by_cases q : a ∈ fp
  · rw [if_pos q] at h; exact h
  · rw [if_neg q] at h; exact e a o h
theorem Holds.toD {v : V} {o : Ob} {fp : List Addr} (h : Holds Z H v o fp) (hz : ∀ a ∈ fp, Z a = none) : Rep (addZ Z H fp) v o.toD := by
  have e : Ex Z (addZ Z H fp) := ex_addZ hz
  cases o with
  | lst ds =>
    obtain ⟨a, xs, rfl, h2, h3, h4⟩ := h
    refine .lst ?_ (h4.mono e)
    unfold addZ
    rw [if_pos (by simp [h2])]; exact h3
  | dct es =>
    obtain ⟨a, rfl, h2, h3⟩ := h
    rcases h3 with ⟨kvs, h3, h4⟩ | ⟨kvs, h3, h4⟩
    · refine .dK ?_ (h4.mono e)
      unfold addZ
      rw [if_pos (by simp [h2])]; exact h3
    · refine .dT ?_ (h4.mono e)
      unfold addZ
      rw [if_pos (by simp [h2])]; exact h3
/-- the new object is handed on: from now on it stands for good -/
theorem RepSt.freeze {v : V} {o : Ob} (R : RepSt F Z B S σ H (some (v, o))) : ∃ Z', Ex Z Z' ∧ RepSt F Z' B S σ H none ∧ Rep Z' v o.toD := by
  obtain ⟨hl, eF, eZ, dj, fp, h1, h2, h3, h4⟩ := R
  have hz : ∀ a ∈ fp none, Z a = none := fun a ha => (h3 none a ha).1
  refine ⟨addZ Z H (fp none), ex_addZ hz, ⟨hl, eF, (ex_addZ2 eZ), fun a ha => by (unfold addZ; rw [if_neg fun q => ha (h3 none a q).2]; exact dj a ha), fun j => match j with | none => [] | some i => fp (some i), fun i => (h1 i).mono (ex_addZ hz), rfl, fun j a ha => ?_, fun i j a hi hj => ?_⟩, Holds.toD h2 hz⟩
  · cases j with
    | none => simp at ha
    | some i =>
      refine ⟨?_, (h3 _ a ha).2⟩
      unfold addZ
      rw [if_neg fun q => by have := h4 _ _ a ha q; cases this]
      exact (h3 _ a ha).1
  · cases i with
    | none => simp at hi
    | some i => cases j with
      | none => simp at hj
      | some j => exact h4 _ _ a hi hj
theorem RepSt.drop (R : RepSt F Z B S σ H t) : RepSt F Z B S σ H none := by
  obtain ⟨hl, eF, eZ, dj, fp, h1, h2, h3, h4⟩ := R
  refine ⟨hl, eF, eZ, dj, fun j => match j with | none => [] | some i => fp (some i), h1, rfl, fun j a ha => ?_, fun i j a hi hj => ?_⟩
  · cases j with
    | none => simp at ha
    | some i => exact h3 _ a ha
  · cases i with
    | none => simp at hi
    | some i => cases j with
      | none => simp at hj
      | some j => exact h4 _ _ a hi hj
theorem gt_set_same {i : Nat} {x : Sl} (h : i < S.length) : gt (S.set i x) i = x := by
  unfold gt; simp [List.getD, List.getElem?_set_self h]
theorem gt_set_ne {i j : Nat} {x : Sl} (h : i ≠ j) : gt (S.set i x) j = gt S j := by
  unfold gt; simp [List.getD, List.getElem?_set_ne h]
theorem gt_lt {i : Nat} (h : gt S i ≠ .no) : i < S.length := by
  by_cases q : i < S.length
  · exact q
  · exact absurd (by unfold gt; simp [List.getD, List.getElem?_eq_none (Nat.le_of_not_lt q)]) h
/-- a name is stored: data -/
theorem RepSt.setD0 {i : Nat} {v : V} {x : D} (R : RepSt F Z B S σ H t) (r : Rep Z v x) (hi : i < S.length) : RepSt F Z B (S.set i (.d x)) (σ.set i (some v)) H t := by
  obtain ⟨hl, eF, eZ, dj, fp, h1, h2, h3, h4⟩ := R
  refine ⟨by simp [hl], eF, eZ, dj, fun j => if j = some i then [] else fp j, fun j => ?_, ?_, fun j a ha => ?_, fun j k a hj hk => ?_⟩
  · by_cases q : j = i
    · subst q
      simp only [if_true]
      rw [gt_set_same hi]
      exact ⟨rfl, v, List.getElem?_set_self (by omega), r⟩
    · have q' : ¬ (some j = some i) := fun e => q (Option.some.inj e)
      simp only [if_neg q']
      rw [gt_set_ne (Ne.symm q), List.getElem?_set_ne (Ne.symm q)]
      exact h1 j
  · simpa using h2
  · by_cases q : j = some i
    · simp [q] at ha
    · simp only [if_neg q] at ha; exact h3 j a ha
  · by_cases q : j = some i
    · simp [q] at hj
    · by_cases q2 : k = some i
      · simp [q2] at hk
      · simp only [if_neg q] at hj
        simp only [if_neg q2] at hk
        exact h4 _ _ a hj hk
/-- a name is stored: the new object -/
theorem RepSt.setO0 {i : Nat} {v : V} {o : Ob} (R : RepSt F Z B S σ H (some (v, o))) (hi : i < S.length) : RepSt F Z B (S.set i (.own false o)) (σ.set i (some v)) H none := by
  obtain ⟨hl, eF, eZ, dj, fp, h1, h2, h3, h4⟩ := R
  refine ⟨by simp [hl], eF, eZ, dj, fun j => if j = some i then fp none else if j = none then [] else fp j, fun j => ?_, ?_, fun j a ha => ?_, fun j k a hj hk => ?_⟩
  · by_cases q : j = i
    · subst q
      simp only [if_true]
      rw [gt_set_same hi]
      exact ⟨v, List.getElem?_set_self (by omega), h2, fun z => nomatch z⟩
    · have q' : ¬ (some j = some i) := fun e => q (Option.some.inj e)
      simp only [if_neg q']
      rw [gt_set_ne (Ne.symm q), List.getElem?_set_ne (Ne.symm q)]
      exact h1 j
  · simp [TmpR]
  · by_cases q : j = some i
    · simp only [q, if_true] at ha; exact h3 _ a ha
    · simp only [if_neg q] at ha
      by_cases q2 : j = none
      · simp [q2] at ha
      · simp only [if_neg q2] at ha; exact h3 _ a ha
  · have key : ∀ j, a ∈ (if j = some i then fp none else if j = none then [] else fp j) → (j = some i ∧ a ∈ fp none) ∨ (j ≠ some i ∧ j ≠ none ∧ a ∈ fp j) := fun j hj => by
      by_cases q : j = some i
      · simp only [if_pos q] at hj; exact .inl ⟨q, hj⟩
      · simp only [if_neg q] at hj
        by_cases q2 : j = none
        · simp [q2] at hj
        · simp only [if_neg q2] at hj; exact .inr ⟨q, q2, hj⟩
    rcases key j hj with ⟨q, m⟩ | ⟨q, q', m⟩ <;> rcases key k hk with ⟨p, n⟩ | ⟨p, p', n⟩
    · rw [q, p]
    · exact absurd (h4 _ _ a m n) (Ne.symm p')
    · exact absurd (h4 _ _ a m n) q'
    · exact h4 _ _ a m n
/-- a slot is forgotten -/
theorem RepSt.setNo {i : Nat} {w : Option V} (R : RepSt F Z B S σ H t) : RepSt F Z B (S.set i .no) (σ.set i w) H t := by
  obtain ⟨hl, eF, eZ, dj, fp, h1, h2, h3, h4⟩ := R
  refine ⟨by simp [hl], eF, eZ, dj, fun j => if j = some i then [] else fp j, fun j => ?_, ?_, fun j a ha => ?_, fun j k a hj hk => ?_⟩
  · by_cases q : j = i
    · subst q
      simp only [if_true]
      have : gt (S.set j .no) j = .no := by
        by_cases hi : j < S.length
        · exact gt_set_same hi
        · unfold gt; rw [List.getD, List.getElem?_eq_none (by simpa using Nat.le_of_not_lt hi)]; rfl
      rw [this]; rfl
    · have q' : ¬ (some j = some i) := fun e => q (Option.some.inj e)
      simp only [if_neg q']
      rw [gt_set_ne (Ne.symm q), List.getElem?_set_ne (Ne.symm q)]
      exact h1 j
  · simpa using h2
  · by_cases q : j = some i
    · simp [q] at ha
    · simp only [if_neg q] at ha; exact h3 j a ha
  · by_cases q : j = some i
    · simp [q] at hj
    · by_cases q2 : k = some i
      · simp [q2] at hk
      · simp only [if_neg q] at hj
        simp only [if_neg q2] at hk
        exact h4 _ _ a hj hk
theorem RepSt.setD {i : Nat} {v : V} {x : D} (R : RepSt F Z B S σ H t) (r : Rep Z v x) : RepSt F Z B (S.set i (.d x)) (σ.set i (some v)) H t := by
  by_cases hi : i < S.length
  · exact R.setD0 r hi
  · rw [List.set_eq_of_length_le (Nat.le_of_not_lt hi), List.set_eq_of_length_le (by rw [← R.len]; exact Nat.le_of_not_lt hi)]; exact R
theorem RepSt.setO {i : Nat} {v : V} {o : Ob} (R : RepSt F Z B S σ H (some (v, o))) : RepSt F Z B (S.set i (.own false o)) (σ.set i (some v)) H none := by
  by_cases hi : i < S.length
  · exact R.setO0 hi
  · rw [List.set_eq_of_length_le (Nat.le_of_not_lt hi), List.set_eq_of_length_le (by rw [← R.len]; exact Nat.le_of_not_lt hi)]; exact R.drop
/-- less is known of the callers -/
theorem RepSt.less {F' : Hp} (R : RepSt F Z B S σ H t) (e : Ex F' F) : RepSt F' Z B S σ H t := by
  obtain ⟨hl, eF, eZ, dj, fp, h1, h2, h3, h4⟩ := R
  have nf : ∀ a, F a = none → F' a = none := fun a h => e.free h
  exact ⟨hl, e.trans eF, eZ, fun a ha => dj a fun z => ha (nf a z), fp, h1, h2, fun j a ha => ⟨(h3 j a ha).1, nf a (h3 j a ha).2⟩, h4⟩
/-- the new object is put aside while something else is reckoned -/
theorem RepSt.aside {v : V} {o : Ob} (R : RepSt F Z B S σ H (some (v, o))) : ∃ F1, Ex F F1 ∧ RepSt F1 Z B S σ H none ∧ ∀ Z' S' σ' H', Ex Z Z' → RepSt F1 Z' B S' σ' H' none → RepSt F Z' B S' σ' H' (some (v, o)) := by
  obtain ⟨hl, eF, eZ, dj, fp, h1, h2, h3, h4⟩ := R
  have hth : ∀ a ∈ fp none, H a ≠ none := Holds.there h2
  refine ⟨addZ F H (fp none), ex_addZ fun a ha => (h3 none a ha).2, ⟨hl, ex_addZ2 eF, eZ, fun a ha => ?_, fun j => match j with | none => [] | some i => fp (some i), h1, rfl, fun j a ha => ?_, fun i j a hi hj => ?_⟩, fun Z' S' σ' H' e R2 => ?_⟩
  · by_cases q : a ∈ fp none
    · exact (h3 none a q).1
    · unfold addZ at ha; rw [if_neg q] at ha; exact dj a ha
  · cases j with
    | none => simp at ha
    | some i =>
      refine ⟨(h3 _ a ha).1, ?_⟩
      unfold addZ
      rw [if_neg fun q => by have := h4 _ _ a ha q; cases this]
      exact (h3 _ a ha).2
  · cases i with
    | none => simp at hi
    | some i => cases j with
      | none => simp at hj
      | some j => exact h4 _ _ a hi hj
  · obtain ⟨hl2, eF2, eZ2, dj2, fp2, g1, g2, g3, g4⟩ := R2
    have inF : ∀ a ∈ fp none, H' a = H a ∧ Z' a = none ∧ F a = none ∧ ∀ j, a ∉ fp2 j := fun a ha => by
      have hn := hth a ha
      cases hH : H a with
      | none => exact absurd hH hn
      | some ob =>
        have fa : addZ F H (fp none) a = some ob := by unfold addZ; rw [if_pos ha, hH]
        refine ⟨eF2 a ob fa, dj2 a (by rw [fa]; simp), (h3 none a ha).2, fun j hj => ?_⟩
        have := (g3 j a hj).2
        rw [fa] at this; cases this
    have eFF : Ex F (addZ F H (fp none)) := ex_addZ fun a ha => (h3 none a ha).2
    have g2' : fp2 none = [] := g2
    refine ⟨hl2, eFF.trans eF2, eZ2, fun a ha => dj2 a fun z => ha (eFF.free z), fun j => match j with | none => fp none | some i => fp2 (some i), g1, ?_, fun j a ha => ?_, fun i j a hi hj => ?_⟩
    · exact Holds.at (Holds.mono e h2) fun a ha => (inF a ha).1
    · cases j with
      | none => exact ⟨(inF a ha).2.1, (inF a ha).2.2.1⟩
      | some i => exact ⟨(g3 _ a ha).1, eFF.free (g3 _ a ha).2⟩
    · cases i with
      | none => cases j with
        | none => rfl
        | some j => exact absurd hj ((inF a hi).2.2.2 _)
      | some i => cases j with
        | none => exact absurd hi ((inF a hj).2.2.2 _)
        | some j => exact g4 _ _ a hi hj
/-- a slot's own object is lent to a loop, and given back -/
theorem RepSt.lend {i : Nat} {b : Bool} {o : Ob} (R : RepSt F Z B S σ H none) (hg : gt S i = .own b o) : ∃ F1 B1 v, Ex F F1 ∧ σ[i]? = some (some v) ∧ (∃ fp, Holds Z F1 v o fp) ∧ RepSt F1 Z B1 (S.set i .lent) σ H none ∧
    ∀ Z' S' σ' H' t', Ex Z Z' → gt S' i = .lent → RepSt F1 Z' B1 S' σ' H' t' → RepSt F Z' B (S'.set i (.own b o)) σ' H' t' := by
  have hi : i < S.length := gt_lt (by rw [hg]; intro z; cases z)
  obtain ⟨hl, eF, eZ, dj, fp, h1, h2, h3, h4⟩ := R
  have hs := h1 i
  rw [hg] at hs
  obtain ⟨v, hv, hh, hb⟩ := hs
  have hth : ∀ a ∈ fp (some i), H a ≠ none := Holds.there hh
  have eFF : Ex F (addZ F H (fp (some i))) := ex_addZ fun a ha => (h3 _ a ha).2
  refine ⟨addZ F H (fp (some i)), fun j => if j = i then some v else B j, v, eFF, hv, ⟨fp (some i), hh.at fun a ha => by unfold addZ; rw [if_pos ha]⟩,
    ⟨by simp [hl], ex_addZ2 eF, eZ, fun a ha => ?_, fun j => if j = some i then [] else fp j, fun j => ?_, ?_, fun j a ha => ?_, fun j k a hj hk => ?_⟩, fun Z' S' σ' H' t' e hg' R2 => ?_⟩
  · by_cases q : a ∈ fp (some i)
    · exact (h3 _ a q).1
    · unfold addZ at ha; rw [if_neg q] at ha; exact dj a ha
  · by_cases q : j = i
    · subst q
      simp only [if_true]
      rw [gt_set_same hi]
      exact ⟨rfl, v, hv, rfl⟩
    · have q' : ¬ (some j = some i) := fun e => q (Option.some.inj e)
      simp only [if_neg q', if_neg q]
      rw [gt_set_ne (Ne.symm q)]
      exact h1 j
  · simpa [TmpR] using h2
  · by_cases q : j = some i
    · simp [q] at ha
    · simp only [if_neg q] at ha
      refine ⟨(h3 _ a ha).1, ?_⟩
      unfold addZ
      rw [if_neg fun z => q (h4 _ _ a ha z)]
      exact (h3 _ a ha).2
  · by_cases q : j = some i
    · simp [q] at hj
    · by_cases q2 : k = some i
      · simp [q2] at hk
      · simp only [if_neg q] at hj
        simp only [if_neg q2] at hk
        exact h4 _ _ a hj hk
  · have hi' : i < S'.length := gt_lt (by rw [hg']; intro z; cases z)
    obtain ⟨hl2, eF2, eZ2, dj2, fp2, g1, g2, g3, g4⟩ := R2
    have inF : ∀ a ∈ fp (some i), H' a = H a ∧ Z' a = none ∧ F a = none ∧ ∀ j, a ∉ fp2 j := fun a ha => by
      have hn := hth a ha
      cases hH : H a with
      | none => exact absurd hH hn
      | some ob =>
        have fa : addZ F H (fp (some i)) a = some ob := by unfold addZ; rw [if_pos ha, hH]
        refine ⟨eF2 a ob fa, dj2 a (by rw [fa]; simp), (h3 _ a ha).2, fun j hj => ?_⟩
        have := (g3 j a hj).2
        rw [fa] at this; cases this
    have hsl := g1 i
    rw [hg'] at hsl
    obtain ⟨hfi, w, hw, han⟩ := hsl
    simp only [if_true] at han
    cases han
    refine ⟨by simp [hl2], eFF.trans eF2, eZ2, fun a ha => dj2 a fun z => ha (eFF.free z), fun j => if j = some i then fp (some i) else fp2 j, fun j => ?_, ?_, fun j a ha => ?_, fun j k a hj hk => ?_⟩
    · by_cases q : j = i
      · subst q
        simp only [if_true]
        rw [gt_set_same hi']
        exact ⟨v, hw, Holds.at (Holds.mono e hh) fun a ha => (inF a ha).1, hb⟩
      · have q' : ¬ (some j = some i) := fun e => q (Option.some.inj e)
        simp only [if_neg q']
        rw [gt_set_ne (Ne.symm q)]
        have := g1 j
        simp only [if_neg q] at this
        exact this
    · simpa using g2
    · by_cases q : j = some i
      · simp only [if_pos q] at ha; exact ⟨(inF a ha).2.1, (inF a ha).2.2.1⟩
      · simp only [if_neg q] at ha; exact ⟨(g3 _ a ha).1, eFF.free (g3 _ a ha).2⟩
    · by_cases q : j = some i
      · by_cases q2 : k = some i
        · rw [q, q2]
        · simp only [if_pos q] at hj
          simp only [if_neg q2] at hk
          exact absurd hk ((inF a hj).2.2.2 _)
      · by_cases q2 : k = some i
        · simp only [if_neg q] at hj
          simp only [if_pos q2] at hk
          exact absurd hj ((inF a hk).2.2.2 _)
        · simp only [if_neg q] at hj
          simp only [if_neg q2] at hk
          exact g4 _ _ a hj hk
/-- a slot's own object leaves with the result -/
theorem RepSt.take {i : Nat} {o : Ob} (R : RepSt F Z B S σ H none) (hg : gt S i = .own false o) : ∃ v, σ[i]? = some (some v) ∧ RepSt F Z B (S.set i .no) σ H (some (v, o)) := by
  have hi : i < S.length := gt_lt (by rw [hg]; intro z; cases z)
  obtain ⟨hl, eF, eZ, dj, fp, h1, h2, h3, h4⟩ := R
  have hs := h1 i
  rw [hg] at hs
  obtain ⟨v, hv, hh, _⟩ := hs
  have h2' : fp none = [] := h2
  refine ⟨v, hv, by simp [hl], eF, eZ, dj, fun j => match j with | none => fp (some i) | some j => if j = i then [] else fp (some j), fun j => ?_, hh, fun j a ha => ?_, fun j k a hj hk => ?_⟩
  · dsimp only
    by_cases q : j = i
    · subst q
      simp only [if_true]
      rw [gt_set_same hi]
      rfl
    · simp only [if_neg q]
      rw [gt_set_ne (Ne.symm q)]
      exact h1 j
  · cases j with
    | none => exact h3 _ a ha
    | some j =>
      dsimp only at ha
      by_cases q : j = i
      · simp [q] at ha
      · simp only [if_neg q] at ha; exact h3 _ a ha
  · cases j with
    | none =>
      cases k with
      | none => rfl
      | some k =>
        dsimp only at hj hk
        by_cases q : k = i
        · simp [q] at hk
        · simp only [if_neg q] at hk
          have := h4 _ _ a hj hk
          cases this; exact absurd rfl q
    | some j =>
      dsimp only at hj
      by_cases q : j = i
      · simp [q] at hj
      · simp only [if_neg q] at hj
        cases k with
        | none =>
          dsimp only at hk
          have := h4 _ _ a hj hk
          cases this; exact absurd rfl q
        | some k =>
          dsimp only at hk
          by_cases q2 : k = i
          · simp [q2] at hk
          · simp only [if_neg q2] at hk
            exact h4 _ _ a hj hk
end
end Ev

namespace Ev
open PySem PySem.Spec L2

/-! ### results -/
inductive Rs where
  | d (x : D)
  | ref (i : Nat)
  | tmp (o : Ob)
inductive Out (α : Type) where
  | st
  | ok (a : α) (S : Sg)
  | ex (c : Str) (S : Sg)
inductive Fl where
  | nx | bk | ct | rt (r : Rs)
abbrev EM := Sg → Out Rs
abbrev TM := Sg → Out Bool
abbrev AM := Sg → Out (List Rs)
abbrev SM := Sg → Out Fl
def Out.bind {α β : Type} (m : Out α) (k : α → Sg → Out β) : Out β :=
  match m with
  | .st => .st
  | .ok a S => k a S
  | .ex c S => .ex c S
@[simp] theorem bind_ok {α β : Type} (a : α) (S : Sg) (k : α → Sg → Out β) : (Out.ok a S).bind k = k a S := rfl
@[simp] theorem bind_st {α β : Type} (k : α → Sg → Out β) : (Out.st : Out α).bind k = .st := rfl
@[simp] theorem bind_ex {α β : Type} (c : Str) (S : Sg) (k : α → Sg → Out β) : (Out.ex c S : Out α).bind k = .ex c S := rfl
/-- where c does not hold the model is not followed -/
def gd {α : Type} (c : Prop) [Decidable c] (x : Out α) : Out α := if c then x else .st
theorem gd_pos {α : Type} {c : Prop} [Decidable c] (h : c) (x : Out α) : gd c x = x := if_pos h
/-- an operation's result, or none -/
def ofO (o : Option Rs) (S : Sg) : Out Rs := match o with
  | none => .st
  | some r => .ok r S
@[simp] theorem ofO_some (r : Rs) (S : Sg) : ofO (some r) S = .ok r S := rfl
@[simp] theorem ofO_none (S : Sg) : ofO none S = .st := rfl

abbrev WM := Str → L2.St → Hp → Prop
def ResOk (F Z : Hp) (B : Nat → Option V) (S : Sg) (σ : L2.St) (H : Hp) (r : Rs) (v : V) : Prop :=
  match r with
  | .d x => RepSt F Z B S σ H none ∧ Rep Z v x
  | .ref i => RepSt F Z B S σ H none ∧ σ[i]? = some (some v)
  | .tmp o => RepSt F Z B S σ H (some (v, o))
def PostE (F Z : Hp) (B : Nat → Option V) (σ : L2.St) (W : WM) (Q : VK) (o : Out Rs) : Prop :=
  match o with
  | .st => False
  | .ok r S => ∀ Z' H' v, Ex Z Z' → ResOk F Z' B S σ H' r v → Q v H'
  | .ex c S => ∀ Z' H', Ex Z Z' → RepSt F Z' B S σ H' none → W c σ H'
def PostT (F Z : Hp) (B : Nat → Option V) (σ : L2.St) (W : WM) (Q : Bool → Hp → Prop) (o : Out Bool) : Prop :=
  match o with
  | .st => False
  | .ok b S => ∀ Z' H', Ex Z Z' → RepSt F Z' B S σ H' none → Q b H'
  | .ex c S => ∀ Z' H', Ex Z Z' → RepSt F Z' B S σ H' none → W c σ H'
/-- a row of results: at most the last one is new -/
def RessOk (F Z : Hp) (B : Nat → Option V) (S : Sg) (σ : L2.St) (H : Hp) : List Rs → List V → Prop
  | [], vs => vs = [] ∧ RepSt F Z B S σ H none
  | [r], vs => ∃ v, vs = [v] ∧ ResOk F Z B S σ H r v
  | r :: rs, vs => ∃ v ws, vs = v :: ws ∧ (match r with
      | .d x => Rep Z v x
      | .ref i => σ[i]? = some (some v)
      | .tmp _ => False) ∧ RessOk F Z B S σ H rs ws
def PostA (F Z : Hp) (B : Nat → Option V) (σ : L2.St) (W : WM) (Q : List V → Hp → Prop) (o : Out (List Rs)) : Prop :=
  match o with
  | .st => False
  | .ok rs S => ∀ Z' H' vs, Ex Z Z' → RessOk F Z' B S σ H' rs vs → Q vs H'
  | .ex c S => ∀ Z' H', Ex Z Z' → RepSt F Z' B S σ H' none → W c σ H'
def PostS (F Z : Hp) (B : Nat → Option V) (W : WM) (E : Ends) (o : Out Fl) : Prop :=
  match o with
  | .st => False
  | .ok .nx S => ∀ Z' σ' H', Ex Z Z' → RepSt F Z' B S σ' H' none → E.nx σ' H'
  | .ok .bk S => ∀ Z' σ' H', Ex Z Z' → RepSt F Z' B S σ' H' none → E.bk σ' H'
  | .ok .ct S => ∀ Z' σ' H', Ex Z Z' → RepSt F Z' B S σ' H' none → E.ct σ' H'
  | .ok (.rt r) S => ∀ Z' σ' H' v, Ex Z Z' → ResOk F Z' B S σ' H' r v → E.rt v H'
  | .ex c S => ∀ Z' σ' H', Ex Z Z' → RepSt F Z' B S σ' H' none → W c σ' H'

def tE (W : WM) (m : EM) : TE := fun σ H Q => ∃ F Z B S, RepSt F Z B S σ H none ∧ PostE F Z B σ W Q (m S)
def tT (W : WM) (m : TM) : TT := fun σ H Q => ∃ F Z B S, RepSt F Z B S σ H none ∧ PostT F Z B σ W Q (m S)
def tA (W : WM) (m : AM) : TA := fun σ H Q => ∃ F Z B S, RepSt F Z B S σ H none ∧ PostA F Z B σ W Q (m S)
def tS (W : WM) (m : SM) : TS := fun E σ H => ∃ F Z B S, RepSt F Z B S σ H none ∧ PostS F Z B W E (m S)

structure JE (X : Cx) (W : WM) (e : Expr) (m : EM) : Prop where
  run : PE X e (tE W m)
structure JT (X : Cx) (W : WM) (e : Expr) (m : TM) : Prop where
  run : PT X e (tT W m)
structure JA (X : Cx) (W : WM) (es : List Expr) (m : AM) : Prop where
  run : PA X es (tA W m)
structure JS (X : Cx) (W : WM) (st : Stmt) (m : SM) : Prop where
  run : PS X st (tS W m)
structure JB (X : Cx) (W : WM) (st : List Stmt) (m : SM) : Prop where
  run : PSs X st (tS W m)

section
variable {X : Cx} {W : WM} {e : Expr} {t : TE}
/-- from a reading of the layer -/
theorem PE.imp {t t' : TE} (h : PE X e t) (i : ∀ σ H Q, t' σ H Q → t σ H Q) : PE X e t' := ⟨fun pins s σ H Q I hq => h.run pins s σ H Q I (i σ H Q hq)⟩
theorem PT.imp {t t' : TT} (h : PT X e t) (i : ∀ σ H Q, t' σ H Q → t σ H Q) : PT X e t' := ⟨fun pins s σ H Q I hq => h.run pins s σ H Q I (i σ H Q hq)⟩
theorem PA.imp {es : List Expr} {t t' : TA} (h : PA X es t) (i : ∀ σ H Q, t' σ H Q → t σ H Q) : PA X es t' := ⟨fun pos pins s σ H Q I hq => h.run pos pins s σ H Q I (i σ H Q hq)⟩
theorem PS.imp {st : Stmt} {t t' : TS} (h : PS X st t) (i : ∀ E σ H, t' E σ H → t E σ H) : PS X st t' := ⟨fun pins s σ H D I hq => h.run pins s σ H D I (i D σ H hq)⟩
theorem PSs.imp {st : List Stmt} {t t' : TS} (h : PSs X st t) (i : ∀ E σ H, t' E σ H → t E σ H) : PSs X st t' := ⟨fun pins s σ H D I hq => h.run pins s σ H D I (i D σ H hq)⟩
end

section
variable {F Z Z' : Hp} {B : Nat → Option V} {S : Sg} {σ : L2.St} {H : Hp} {W : WM} {Q Q' : VK} {v : V} {r : Rs}
theorem PostE.mono {o : Out Rs} (e : Ex Z Z') (h : PostE F Z B σ W Q o) : PostE F Z' B σ W Q o := by
  cases o with
  | st => exact h
  | ok r S => exact fun Z2 H' v e2 => h Z2 H' v (e.trans e2)
  | ex c S => exact fun Z2 H' e2 => h Z2 H' (e.trans e2)
theorem PostT.mono {Q : Bool → Hp → Prop} {o : Out Bool} (e : Ex Z Z') (h : PostT F Z B σ W Q o) : PostT F Z' B σ W Q o := by
  cases o with
  | st => exact h
  | ok r S => exact fun Z2 H' e2 => h Z2 H' (e.trans e2)
  | ex c S => exact fun Z2 H' e2 => h Z2 H' (e.trans e2)
theorem PostA.mono {Q : List V → Hp → Prop} {o : Out (List Rs)} (e : Ex Z Z') (h : PostA F Z B σ W Q o) : PostA F Z' B σ W Q o := by
  cases o with
  | st => exact h
  | ok r S => exact fun Z2 H' v e2 => h Z2 H' v (e.trans e2)
  | ex c S => exact fun Z2 H' e2 => h Z2 H' (e.trans e2)
theorem PostS.mono {E : Ends} {o : Out Fl} (e : Ex Z Z') (h : PostS F Z B W E o) : PostS F Z' B W E o := by
  cases o with
  | st => exact h
  | ok r S =>
    cases r with
    | nx => exact fun Z2 σ' H' e2 => h Z2 σ' H' (e.trans e2)
    | bk => exact fun Z2 σ' H' e2 => h Z2 σ' H' (e.trans e2)
    | ct => exact fun Z2 σ' H' e2 => h Z2 σ' H' (e.trans e2)
    | rt r => exact fun Z2 σ' H' v e2 => h Z2 σ' H' v (e.trans e2)
  | ex c S => exact fun Z2 σ' H' e2 => h Z2 σ' H' (e.trans e2)

/-- one after the other -/
theorem tE_bind {m : EM} {k : Rs → Sg → Out Rs} {R : VK} (h : tE W (fun S => (m S).bind k) σ H Q) (hk : ∀ F Z B S r v H1, ResOk F Z B S σ H1 r v → PostE F Z B σ W Q (k r S) → R v H1) : tE W m σ H R := by
  obtain ⟨F, Z, B, S, RS, p⟩ := h
  refine ⟨F, Z, B, S, RS, ?_⟩
  revert p
  show PostE F Z B σ W Q ((m S).bind k) → _
  cases m S with
  | st => exact fun p => p
  | ok r S1 => exact fun p Z' H' v e hr => hk F Z' B S1 r v H' hr (p.mono e)
  | ex c S1 => exact fun p => p
theorem tE_bindT {m : EM} {k : Rs → Sg → Out Bool} {Q : Bool → Hp → Prop} {R : VK} (h : tT W (fun S => (m S).bind k) σ H Q) (hk : ∀ F Z B S r v H1, ResOk F Z B S σ H1 r v → PostT F Z B σ W Q (k r S) → R v H1) : tE W m σ H R := by
  obtain ⟨F, Z, B, S, RS, p⟩ := h
  refine ⟨F, Z, B, S, RS, ?_⟩
  revert p
  show PostT F Z B σ W Q ((m S).bind k) → _
  cases m S with
  | st => exact fun p => p
  | ok r S1 => exact fun p Z' H' v e hr => hk F Z' B S1 r v H' hr (p.mono e)
  | ex c S1 => exact fun p => p
theorem tE_bindA {m : EM} {k : Rs → Sg → Out (List Rs)} {Q : List V → Hp → Prop} {R : VK} (h : tA W (fun S => (m S).bind k) σ H Q) (hk : ∀ F Z B S r v H1, ResOk F Z B S σ H1 r v → PostA F Z B σ W Q (k r S) → R v H1) : tE W m σ H R := by
  obtain ⟨F, Z, B, S, RS, p⟩ := h
  refine ⟨F, Z, B, S, RS, ?_⟩
  revert p
  show PostA F Z B σ W Q ((m S).bind k) → _
  cases m S with
  | st => exact fun p => p
  | ok r S1 => exact fun p Z' H' v e hr => hk F Z' B S1 r v H' hr (p.mono e)
  | ex c S1 => exact fun p => p
theorem tE_bindS {m : EM} {k : Rs → Sg → Out Fl} {E : Ends} {R : VK} (h : tS W (fun S => (m S).bind k) E σ H) (hk : ∀ F Z B S r v H1, ResOk F Z B S σ H1 r v → PostS F Z B W E (k r S) → R v H1) : tE W m σ H R := by
  obtain ⟨F, Z, B, S, RS, p⟩ := h
  refine ⟨F, Z, B, S, RS, ?_⟩
  revert p
  show PostS F Z B W E ((m S).bind k) → _
  cases m S with
  | st => exact fun p => p
  | ok r S1 => exact fun p Z' H' v e hr => hk F Z' B S1 r v H' hr (p.mono e)
  | ex c S1 => exact fun p Z' H' e hr => p Z' σ H' e hr
theorem tT_bind {m : TM} {k : Bool → Sg → Out Rs} {R : Bool → Hp → Prop} (h : tE W (fun S => (m S).bind k) σ H Q) (hk : ∀ F Z B S r H1, RepSt F Z B S σ H1 none → PostE F Z B σ W Q (k r S) → R r H1) : tT W m σ H R := by
  obtain ⟨F, Z, B, S, RS, p⟩ := h
  refine ⟨F, Z, B, S, RS, ?_⟩
  revert p
  show PostE F Z B σ W Q ((m S).bind k) → _
  cases m S with
  | st => exact fun p => p
  | ok r S1 => exact fun p Z' H' e hr => hk F Z' B S1 r H' hr (p.mono e)
  | ex c S1 => exact fun p => p
theorem tT_bindT {m : TM} {k : Bool → Sg → Out Bool} {Q : Bool → Hp → Prop} {R : Bool → Hp → Prop} (h : tT W (fun S => (m S).bind k) σ H Q) (hk : ∀ F Z B S r H1, RepSt F Z B S σ H1 none → PostT F Z B σ W Q (k r S) → R r H1) : tT W m σ H R := by
  obtain ⟨F, Z, B, S, RS, p⟩ := h
  refine ⟨F, Z, B, S, RS, ?_⟩
  revert p
  show PostT F Z B σ W Q ((m S).bind k) → _
  cases m S with
  | st => exact fun p => p
  | ok r S1 => exact fun p Z' H' e hr => hk F Z' B S1 r H' hr (p.mono e)
  | ex c S1 => exact fun p => p
theorem tT_bindS {m : TM} {k : Bool → Sg → Out Fl} {E : Ends} {R : Bool → Hp → Prop} (h : tS W (fun S => (m S).bind k) E σ H) (hk : ∀ F Z B S r H1, RepSt F Z B S σ H1 none → PostS F Z B W E (k r S) → R r H1) : tT W m σ H R := by
  obtain ⟨F, Z, B, S, RS, p⟩ := h
  refine ⟨F, Z, B, S, RS, ?_⟩
  revert p
  show PostS F Z B W E ((m S).bind k) → _
  cases m S with
  | st => exact fun p => p
  | ok r S1 => exact fun p Z' H' e hr => hk F Z' B S1 r H' hr (p.mono e)
  | ex c S1 => exact fun p Z' H' e hr => p Z' σ H' e hr
theorem tA_bind {m : AM} {k : List Rs → Sg → Out Rs} {R : List V → Hp → Prop} (h : tE W (fun S => (m S).bind k) σ H Q) (hk : ∀ F Z B S r v H1, RessOk F Z B S σ H1 r v → PostE F Z B σ W Q (k r S) → R v H1) : tA W m σ H R := by
  obtain ⟨F, Z, B, S, RS, p⟩ := h
  refine ⟨F, Z, B, S, RS, ?_⟩
  revert p
  show PostE F Z B σ W Q ((m S).bind k) → _
  cases m S with
  | st => exact fun p => p
  | ok r S1 => exact fun p Z' H' v e hr => hk F Z' B S1 r v H' hr (p.mono e)
  | ex c S1 => exact fun p => p
theorem tA_bindA {m : AM} {k : List Rs → Sg → Out (List Rs)} {Q : List V → Hp → Prop} {R : List V → Hp → Prop} (h : tA W (fun S => (m S).bind k) σ H Q) (hk : ∀ F Z B S r v H1, RessOk F Z B S σ H1 r v → PostA F Z B σ W Q (k r S) → R v H1) : tA W m σ H R := by
  obtain ⟨F, Z, B, S, RS, p⟩ := h
  refine ⟨F, Z, B, S, RS, ?_⟩
  revert p
  show PostA F Z B σ W Q ((m S).bind k) → _
  cases m S with
  | st => exact fun p => p
  | ok r S1 => exact fun p Z' H' v e hr => hk F Z' B S1 r v H' hr (p.mono e)
  | ex c S1 => exact fun p => p
end

/-! ### a new object handed on at once -/
def frzR : Rs → Rs
  | .tmp o => .d o.toD
  | r => r
def frz (m : EM) : EM := fun S => (m S).bind fun r S1 => .ok (frzR r) S1
section
variable {F Z Z' : Hp} {B : Nat → Option V} {S : Sg} {σ : L2.St} {H : Hp} {W : WM} {Q Q' : VK} {v : V} {r : Rs}
theorem ResOk.frz (h : ResOk F Z B S σ H r v) : ∃ Z', Ex Z Z' ∧ ResOk F Z' B S σ H (frzR r) v := by
  cases r with
  | d x => exact ⟨Z, Ex.refl Z, h⟩
  | ref i => exact ⟨Z, Ex.refl Z, h⟩
  | tmp o =>
    obtain ⟨Z', e, h1, h2⟩ := RepSt.freeze h
    exact ⟨Z', e, h1, h2⟩
theorem ResOk.st (h : ResOk F Z B S σ H r v) : ∃ t, RepSt F Z B S σ H t := by
  cases r with
  | d x => exact ⟨_, h.1⟩
  | ref i => exact ⟨_, h.1⟩
  | tmp o => exact ⟨_, h⟩
end
theorem JE.frz {X : Cx} {W : WM} {e : Expr} {m : EM} (h : JE X W e m) : JE X W e (frz m) := by
  refine ⟨PE.imp h.run fun σ H Q hq => tE_bind hq fun F Z B S r v H1 hr p => ?_⟩
  obtain ⟨Z', e, hr'⟩ := hr.frz
  exact p Z' H1 v e hr'

/-! ### what an operation sees -/
def View (Z H : Hp) (v : V) (d : D) : Prop :=
  match d with
  | .list ds => ∃ a xs, v = .ref a ∧ H a = some (.lst xs) ∧ Reps Z xs ds
  | .dict es => ∃ a, v = .ref a ∧ ((∃ kvs, H a = some (.dK kvs) ∧ RepK Z kvs es) ∨ (∃ kvs, H a = some (.dT kvs) ∧ RepT Z kvs es) ∨ ∃ ns o, H a = some (.frz o (.lst (ns.map V.int))) ∧ PyData.dict es = scrD ns)
  | d => Rep Z v d
theorem Rep.view {Z H : Hp} {v : V} {d : D} (e : Ex Z H) (h : Rep Z v d) : View Z H v d := by
  cases h with
  | non => exact .non
  | bl b => exact .bl b
  | int i => exact .int i
  | str x => exact .str x
  | tup h r => exact .tup h r
  | lst h r => exact ⟨_, _, rfl, e _ _ h, r⟩
  | scr h => exact ⟨_, rfl, .inr (.inr ⟨_, _, e _ _ h, rfl⟩)⟩
  | dK h r => exact ⟨_, rfl, .inl ⟨_, e _ _ h, r⟩⟩
  | dT h r => exact ⟨_, rfl, .inr (.inl ⟨_, e _ _ h, r⟩)⟩
theorem View.rep {Z H : Hp} {v : V} {d : D} (e : Ex Z H) (h : View Z H v d) : Rep H v d := by
  cases d with
  | tuple ds => exact Rep.mono e h
  | list ds => obtain ⟨a, xs, rfl, h1, h2⟩ := h; exact .lst h1 (h2.mono e)
  | dict es =>
    obtain ⟨a, rfl, ⟨kvs, h1, h2⟩ | ⟨kvs, h1, h2⟩ | ⟨ns, o, h1, h2⟩⟩ := h
    · exact .dK h1 (h2.mono e)
    · exact .dT h1 (h2.mono e)
    · rw [h2]; exact .scr h1
  | none => exact Rep.mono e h
  | bool b => exact Rep.mono e h
  | int i => exact Rep.mono e h
  | str x => exact Rep.mono e h
theorem Holds.view {Z H : Hp} {v : V} {o : Ob} {fp : List Addr} (h : Holds Z H v o fp) : View Z H v o.toD := by
  cases o with
  | lst ds => obtain ⟨a, xs, rfl, h2, h3, h4⟩ := h; exact ⟨a, xs, rfl, h3, h4⟩
  | dct es =>
    obtain ⟨a, rfl, h2, h3⟩ := h
    rcases h3 with ⟨kvs, h3, h4⟩ | ⟨kvs, h3, h4⟩
    · exact ⟨a, rfl, .inl ⟨kvs, h3, h4⟩⟩
    · exact ⟨a, rfl, .inr (.inl ⟨kvs, h3, h4⟩)⟩
def peek (S : Sg) : Rs → Option D
  | .d x => some x
  | .ref i => match gt S i with
    | .d x => some x
    | .own _ o => some o.toD
    | _ => none
  | .tmp o => some o.toD
section
variable {F Z Z' : Hp} {B : Nat → Option V} {S : Sg} {σ : L2.St} {H : Hp} {t : Option (V × Ob)} {v : V} {r : Rs} {d : D}
theorem RepSt.slot (R : RepSt F Z B S σ H t) (i : Nat) : ∃ fp, SlotR Z H (B i) σ[i]? (gt S i) fp := by
  obtain ⟨hl, eF, eZ, dj, fp, h1, h2, h3, h4⟩ := R
  exact ⟨_, h1 i⟩
theorem peek_ref (R : RepSt F Z B S σ H t) {i : Nat} (hv : σ[i]? = some (some v)) (hp : peek S (.ref i) = some d) : View Z H v d := by
  obtain ⟨fp, h⟩ := R.slot i
  unfold peek at hp
  dsimp only at hp
  cases hg : gt S i with
  | no => rw [hg] at hp; cases hp
  | lent => rw [hg] at hp; cases hp
  | d x =>
    rw [hg] at hp h
    cases hp
    obtain ⟨_, w, hw, hr⟩ := h
    rw [hv] at hw; cases hw
    exact hr.view R.exZ
  | own b o =>
    rw [hg] at hp h
    cases hp
    obtain ⟨w, hw, hr, _⟩ := h
    rw [hv] at hw; cases hw
    exact hr.view
/-- what stays of a result while others are reckoned -/
def Kept (Z : Hp) (σ : L2.St) (r : Rs) (v : V) : Prop := match r with
  | .d x => Rep Z v x
  | .ref i => σ[i]? = some (some v)
  | .tmp _ => False
theorem ResOk.kept (h : ResOk F Z B S σ H (frzR r) v) : RepSt F Z B S σ H none ∧ Kept Z σ (frzR r) v := by
  cases r with
  | d x => exact h
  | ref i => exact h
  | tmp o => exact h
theorem Kept.mono (e : Ex Z Z') (h : Kept Z σ r v) : Kept Z' σ r v := by
  cases r with
  | d x => exact Rep.mono e h
  | ref i => exact h
  | tmp o => exact h
theorem Kept.view (R : RepSt F Z B S σ H t) (h : Kept Z σ r v) (hp : peek S r = some d) : View Z H v d := by
  cases r with
  | d x => cases hp; exact Rep.view R.exZ h
  | ref i => exact peek_ref R h hp
  | tmp o => exact h.elim
end

/-! ### operations on two values -/
/-- f of two values is told by g of what they stand for -/
def OpOk (X : Cx) (f : Value → Value → Sem Value) (g : D → D → Option Rs) : Prop :=
  ∀ (pins : List (Addr × Obj)) (s : Shared) (σ : L2.St) (H : Hp) (x y : V) (v u : Value) (Q : VK) (F Z : Hp) (B : Nat → Option V) (S : Sg) (dx dy : D) (r : Rs), Inv X pins σ H s → RelV x v → RelV y u → RepSt F Z B S σ H none → View Z H x dx → View Z H y dy →
    g dx dy = some r → (∀ Z' H' w, Ex Z Z' → ResOk F Z' B S σ H' r w → Q w H') → wpAny (model X.prog X.w) X.A (f v u) (EP X pins σ Q) X.xe s
def mBin (g : D → D → Option Rs) (a b : EM) : EM := fun S => (frz a S).bind fun r1 S1 => (frz b S1).bind fun r2 S2 =>
  match peek S2 r1, peek S2 r2 with
  | some x, some y => ofO (g x y) S2
  | _, _ => .st
section
variable {X : Cx} {W : WM} {a b : Expr} {ma mb : EM} {g : D → D → Option Rs} {pos : Pos}
/-- two results in a row, then what is wanted of both -/
theorem bin_run {pins : List (Addr × Obj)} {s : Shared} {σ : L2.St} {H : Hp} {f : Value → Value → Sem Value} {Q : VK} (ho : OpOk X f g) (ha : JE X W a ma) (hb : JE X W b mb) (I : Inv X pins σ H s) (h : tE W (mBin g ma mb) σ H Q) :
    wpAny (model X.prog X.w) X.A (eval a X.env) (fun v s₁ => wpAny (model X.prog X.w) X.A (eval b X.env) (fun u s₂ => wpAny (model X.prog X.w) X.A (f v u) (EP X pins σ Q) X.xe s₂) X.xe s₁) X.xe s := by
  have h1 : tE W (frz ma) σ H (fun x H1 => ∃ F Z B S1 r1, RepSt F Z B S1 σ H1 none ∧ Kept Z σ r1 x ∧ PostE F Z B σ W Q ((frz mb S1).bind fun r2 S2 => match peek S2 r1, peek S2 r2 with
      | some x, some y => ofO (g x y) S2
      | _, _ => .st)) := by
    refine tE_bind h fun F Z B S r v H1 hr p => ?_
    cases r with
    | d x => exact ⟨F, Z, B, S, .d x, hr.1, hr.2, p⟩
    | ref i => exact ⟨F, Z, B, S, .ref i, hr.1, hr.2, p⟩
    | tmp o =>
      obtain ⟨Z', e, hr'⟩ := ResOk.frz hr
      -- frz never hands on a new object, but the rule needs no more than this
      cases hp : (frz mb S) with
      | st => rw [hp] at p; exact p.elim
      | ok r2 S2 =>
        rw [hp] at p
        refine ⟨F, Z', B, S, .d o.toD, hr'.1, hr'.2, ?_⟩
        rw [hp]
        exact p.mono e
      | ex c S2 =>
        rw [hp] at p
        refine ⟨F, Z', B, S, .d o.toD, hr'.1, hr'.2, ?_⟩
        rw [hp]
        exact p.mono e
  refine thn (ha.frz.run.run pins s σ H _ I h1) fun v s1 ⟨x, H1, I1, rx, F, Z, B, S1, r1, R1, k1, p1⟩ => ?_
  have h2 : tE W (frz mb) σ H1 (fun y H2 => ∃ F Z B S2 dx dy r, RepSt F Z B S2 σ H2 none ∧ View Z H2 x dx ∧ View Z H2 y dy ∧ g dx dy = some r ∧ ∀ Z' H' w, Ex Z Z' → ResOk F Z' B S2 σ H' r w → Q w H') := by
    refine ⟨F, Z, B, S1, R1, ?_⟩
    revert p1
    cases frz mb S1 with
    | st => exact fun p => p
    | ex c S2 => exact fun p => p
    | ok r2 S2 =>
      intro p Z' H' y e hr
      have k1' := k1.mono e
      have fin : ∀ Z2, Ex Z' Z2 → RepSt F Z2 B S2 σ H' none → ∀ r2', peek S2 r2' = peek S2 r2 → Kept Z2 σ r2' y → ∃ F Z B S2 dx dy r, RepSt F Z B S2 σ H' none ∧ View Z H' x dx ∧ View Z H' y dy ∧ g dx dy = some r ∧ ∀ Z' H' w, Ex Z Z' → ResOk F Z' B S2 σ H' r w → Q w H' := by
        intro Z2 e2 R2 r2' hpk k2
        have p2 := PostE.mono (e.trans e2) p
        dsimp only [Out.bind] at p2
        cases hx : peek S2 r1 with
        | none => rw [hx] at p2; exact p2.elim
        | some dx =>
          cases hy : peek S2 r2 with
          | none => rw [hx, hy] at p2; exact p2.elim
          | some dy =>
            rw [hx, hy] at p2
            dsimp only at p2
            cases hg : g dx dy with
            | none => rw [hg] at p2; exact p2.elim
            | some r =>
              rw [hg] at p2
              exact ⟨F, Z2, B, S2, dx, dy, r, R2, (k1'.mono e2).view R2 hx, k2.view R2 (by rw [hpk, hy]), hg, p2⟩
      cases r2 with
      | d x2 => exact fin Z' (Ex.refl _) hr.1 _ rfl hr.2
      | ref i => exact fin Z' (Ex.refl _) hr.1 _ rfl hr.2
      | tmp o =>
        obtain ⟨Z2, e2, hr'⟩ := ResOk.frz hr
        exact fin Z2 e2 hr'.1 (.d o.toD) rfl hr'.2
  refine thn (hb.frz.run.run pins s1 σ H1 _ I1 h2) fun u s2 ⟨y, H2, I2, ry, F, Z, B, S2, dx, dy, r, R2, vx, vy, hg, q⟩ => ?_
  exact ho pins s2 σ H2 x y v u Q F Z B S2 dx dy r I2 rx ry R2 vx vy hg q
theorem je_bin {op : Operator} (ho : OpOk X (binaryOp op) g) (ha : JE X W a ma) (hb : JE X W b mb) : JE X W (.BinOp a op b pos) (mBin g ma mb) :=
  ⟨⟨fun pins s σ H Q I h => wpAny_BinOp (bin_run ho ha hb I h)⟩⟩
theorem je_cmp {op : CmpOp} (ho : OpOk X (compareOp op) g) (ha : JE X W a ma) (hb : JE X W b mb) (hm : behindInMarks op b = false) : JE X W (.Compare a [op] [b] pos) (mBin g ma mb) :=
  ⟨⟨fun pins s σ H Q I h => wpAny_Compare1 (bin_run ho ha hb I h) hm⟩⟩
/-- a value that is a truth, as a test -/
def asB (m : EM) : TM := fun S => (m S).bind fun r S1 => match r with
  | .d (.bool b) => .ok b S1
  | _ => .st
theorem asB_tE {m : EM} {σ : L2.St} {H : Hp} {Q : Bool → Hp → Prop} (h : tT W (asB m) σ H Q) : tE W m σ H (fun x H1 => ∃ b, x = .bl b ∧ Q b H1) := by
  refine tE_bindT h fun F Z B S r v H1 hr p => ?_
  match r, hr, p with
  | .d (.bool b), hr, p =>
    have hr' := hr.2
    cases hr'
    exact ⟨b, rfl, p Z H1 (Ex.refl Z) hr.1⟩
theorem jt_cmp {op : CmpOp} (ho : OpOk X (compareOp op) g) (ha : JE X W a ma) (hb : JE X W b mb) (hm : behindInMarks op b = false) : JT X W (.Compare a [op] [b] pos) (asB (mBin g ma mb)) := by
  refine ⟨⟨fun pins s σ H Q I h => ?_⟩⟩
  refine wpAny_isTrue_Compare1 (thn (bin_run ho ha hb I (asB_tE h)) fun v s1 h1 => thn h1 fun u s2 h2 => thn h2 fun c s3 ⟨x, H3, I3, rx, b, e, q⟩ => ?_) hm
  subst e
  cases rx
  exact wpAny_truthy_bool ⟨H3, I3, q⟩
end
end Ev

namespace Ev
open PySem PySem.Spec L2

/-- the longest list, text that the model follows -/
abbrev lim : Nat := 16777216
theorem lim_le {n : Nat} (h : n ≤ lim) : n ≤ sizeLine := by rw [sizeLine_eq]; exact h
theorem lim_lt {n : Nat} (h : n < lim) : n < sizeLine := by rw [sizeLine_eq]; exact h

/-! ### names and constants -/
def mV (i : Nat) : EM := fun S => match gt S i with
  | .d x => .ok (.d x) S
  | .own _ _ => .ok (.ref i) S
  | _ => .st
def mC (x : D) : EM := fun S => .ok (.d x) S
section
variable {X : Cx} {W : WM} {pos : Pos}
theorem je_var {i : Nat} {x : Str} (hN : X.N[i]? = some x := by rfl) (hv : Vis X.env.scope x := by first | exact Or.inl rfl | exact Or.inr (Or.inl rfl) | exact Or.inr (Or.inr rfl)) (hd : (x == ("__debug__" : Str)) = false := by decide)
    (hcd : (x == ("__classdict__" : Str)) = false := by decide) : JE X W (.Name x pos) (mV i) := by
  refine ⟨PE.imp (pe_var (i := i) hN hv hd hcd) fun σ H Q h => ?_⟩
  obtain ⟨F, Z, B, S, R, p⟩ := h
  obtain ⟨fp, hs⟩ := R.slot i
  unfold mV at p
  cases hg : gt S i with
  | no => simp only [hg] at p; exact p.elim
  | lent => simp only [hg] at p; exact p.elim
  | d x =>
    simp only [hg] at p; rw [hg] at hs
    obtain ⟨_, v, e, r⟩ := hs
    exact ⟨v, e, p Z H v (Ex.refl Z) ⟨R, r⟩⟩
  | own b o =>
    simp only [hg] at p; rw [hg] at hs
    obtain ⟨v, e, _⟩ := hs
    exact ⟨v, e, p Z H v (Ex.refl Z) ⟨R, e⟩⟩
theorem je_const {e : Expr} {v : V} {x : D} (h : PE X e (tC v)) (r : ∀ Z, Rep Z v x) : JE X W e (mC x) :=
  ⟨PE.imp h fun σ H Q hq => by
    obtain ⟨F, Z, B, S, R, p⟩ := hq
    exact p Z H v (Ex.refl Z) ⟨R, r Z⟩⟩
theorem je_int {i : Int} {j : Nat} : JE X W (.Constant (.int i) j pos) (mC (.int i)) := je_const pe_int fun _ => .int i
theorem je_bl {b : Bool} {j : Nat} : JE X W (.Constant (.bool b) j pos) (mC (.bool b)) := je_const pe_bl fun _ => .bl b
theorem je_non {j : Nat} : JE X W (.Constant .none j pos) (mC .none) := je_const pe_non fun _ => .non
theorem je_str {x : Str} {j : Nat} : JE X W (.Constant (.str x) j pos) (mC (.str x)) := je_const pe_str fun _ => .str x
end

/-! ### two-place operations -/
theorem OpOk.of {X : Cx} {f : Value → Value → Sem Value} {r : R2} {g : D → D → Option Rs} (ho : OpR X f r)
    (h : ∀ F Z B S σ H x y dx dy res (Q : VK), RepSt F Z B S σ H none → View Z H x dx → View Z H y dy → g dx dy = some res → (∀ Z' H' w, Ex Z Z' → ResOk F Z' B S σ H' res w → Q w H') → r x y H Q) : OpOk X f g :=
  fun pins s σ H x y v u Q F Z B S dx dy res I rx ry R vx vy hg q => ho pins s σ H x y v u Q I rx ry (h F Z B S σ H x y dx dy res Q R vx vy hg q)
/-- one of two -/
theorem OpOk.or {X : Cx} {f : Value → Value → Sem Value} {g1 g2 g : D → D → Option Rs} (h1 : OpOk X f g1) (h2 : OpOk X f g2) (h : ∀ a b r, g a b = some r → g1 a b = some r ∨ g2 a b = some r) : OpOk X f g := by
  intro pins s σ H x y v u Q F Z B S dx dy res I rx ry R vx vy hg q
  rcases h dx dy res hg with e | e
  · exact h1 pins s σ H x y v u Q F Z B S dx dy res I rx ry R vx vy e q
  · exact h2 pins s σ H x y v u Q F Z B S dx dy res I rx ry R vx vy e q
section
variable {F Z : Hp} {B : Nat → Option V} {S : Sg} {σ : L2.St} {H : Hp} {v : V} {t : Option (V × Ob)}
theorem view_int {i : Int} (h : View Z H v (.int i)) : v = .int i := by cases (show Rep Z v (.int i) from h); rfl
theorem view_bl {b : Bool} (h : View Z H v (.bool b)) : v = .bl b := by cases (show Rep Z v (.bool b) from h); rfl
theorem view_str {x : Str} (h : View Z H v (.str x)) : v = .str x := by cases (show Rep Z v (.str x) from h); rfl
theorem view_tup {ds : List D} (h : View Z H v (.tuple ds)) : ∃ a xs, v = .ref a ∧ Z a = some (.tup xs) ∧ Reps Z xs ds := by cases (show Rep Z v (.tuple ds) from h) with | tup h1 r => exact ⟨_, _, rfl, h1, r⟩
theorem view_non (h : View Z H v .none) : v = .non := by cases (show Rep Z v .none from h); rfl
/-- a scalar is handed on -/
theorem ResOk.sc {d : D} (R : RepSt F Z B S σ H none) (r : Rep Z v d) : ResOk F Z B S σ H (.d d) v := ⟨R, r⟩
/-- a new tuple, a new list -/
theorem ResOk.tup {p : Addr} {xs : List V} {ds : List D} (R : RepSt F Z B S σ H none) (hp : H p = none) (r : Reps Z xs ds) : ResOk F (upd Z p (.tup xs)) B S σ (upd H p (.tup xs)) (.d (.tuple ds)) (.ref p) :=
  ⟨R.new hp, .tup upd_same (r.mono (Ex.new (R.exZ.free hp)))⟩
theorem ResOk.lst {p : Addr} {xs : List V} {ds : List D} (R : RepSt F Z B S σ H none) (hp : H p = none) (r : Reps Z xs ds) : ResOk F Z B S σ (upd H p (.lst xs)) (.tmp (.lst ds)) (.ref p) :=
  R.tmp hp (holds_lst r)
end

/-- from a rule of ints -/
def gI (C : Int → Int → Prop) [∀ i j, Decidable (C i j)] (k : Int → Int → D) : D → D → Option Rs
  | .int i, .int j => if C i j then some (.d (k i j)) else none
  | _, _ => none
section
variable {X : Cx}
theorem ok_gI {f : Value → Value → Sem Value} {C : Int → Int → Prop} [∀ i j, Decidable (C i j)] {k : Int → Int → V} {kd : Int → Int → D} (ho : OpR X f (rI C k)) (hk : ∀ i j Z, Rep Z (k i j) (kd i j)) : OpOk X f (gI C kd) := by
  refine OpOk.of ho fun F Z B S σ H x y dx dy res Q R vx vy hg q => ?_
  cases dx <;> try (simp [gI] at hg; done)
  cases dy <;> try (simp [gI] at hg; done)
  rename_i i j
  simp only [gI] at hg
  split at hg
  · rename_i hc
    cases hg
    exact ⟨i, j, view_int vx, view_int vy, hc, q Z H _ (Ex.refl Z) (.sc R (hk i j Z))⟩
  · cases hg
theorem rI_of0 {f : Value → Value → Sem Value} {k : Int → Int → V} (ho : OpR X f (rI0 k)) : OpR X f (rI (fun _ _ => True) k) := fun pins s σ H x y v u Q I rx ry ⟨i, j, e1, e2, _, q⟩ => ho pins s σ H x y v u Q I rx ry ⟨i, j, e1, e2, q⟩

/-! #### sums -/
def gAdd : D → D → Option Rs
  | .int i, .int j => some (.d (.int (i + j)))
  | .str x, .str y => if x.length + y.length ≤ lim then some (.d (.str (x ++ y))) else none
  | .tuple xs, .tuple ys => if xs.length + ys.length ≤ lim then some (.d (.tuple (xs ++ ys))) else none
  | .list xs, .list ys => if xs.length + ys.length ≤ lim then some (.tmp (.lst (xs ++ ys))) else none
  | _, _ => none
theorem ok_add : OpOk X (binaryOp .Add) gAdd := by
  intro pins s σ H x y v u Q F Z B S dx dy res I rx ry R vx vy hg q
  match dx, dy, hg, vx, vy with
  | .int i, .int j, hg, vx, vy =>
    cases hg
    exact op_add pins s σ H x y v u Q I rx ry ⟨i, j, view_int vx, view_int vy, q Z H _ (Ex.refl Z) (.sc R (.int _))⟩
  | .str i, .str j, hg, vx, vy =>
    simp only [gAdd] at hg
    split at hg
    · rename_i hl
      cases hg
      exact op_add_str pins s σ H x y v u Q I rx ry ⟨i, j, view_str vx, view_str vy, lim_le hl, q Z H _ (Ex.refl Z) (.sc R (.str _))⟩
    · cases hg
  | .tuple xs, .tuple ys, hg, vx, vy =>
    simp only [gAdd] at hg
    split at hg
    · rename_i hl
      cases hg
      obtain ⟨a, vs, ex, h1, r1⟩ := view_tup vx
      obtain ⟨b, ws, ey, h2, r2⟩ := view_tup vy
      refine op_catA pins s σ H x y v u Q I rx ry ⟨a, b, vs, ws, ex, ey, SqT.of (R.exZ _ _ h1), SqT.of (R.exZ _ _ h2), ?_, fun e => ?_, fun e e2 => ?_, fun e e2 p hp => ?_⟩
      · rw [r1.length, r2.length]; exact lim_le hl
      · subst e; cases r1
        exact q Z H _ (Ex.refl Z) (.sc R (.tup h2 r2))
      · subst e2; cases r2
        rw [List.append_nil] at q
        exact q Z H _ (Ex.refl Z) (.sc R (.tup h1 r1))
      · exact q _ _ _ (Ex.new (R.exZ.free hp)) (.tup R hp (r1.append r2))
    · cases hg
  | .list xs, .list ys, hg, vx, vy =>
    simp only [gAdd] at hg
    split at hg
    · rename_i hl
      cases hg
      obtain ⟨a, vs, ex, h1, r1⟩ := vx
      obtain ⟨b, ws, ey, h2, r2⟩ := vy
      refine op_cat pins s σ H x y v u Q I rx ry ⟨a, b, vs, ws, ex, ey, h1, h2, ?_, fun p hp => ?_⟩
      · rw [r1.length, r2.length]; exact lim_le hl
      · exact q _ _ _ (Ex.refl _) (.lst R hp (r1.append r2))
    · cases hg
def gSub : D → D → Option Rs := gI (fun _ _ => True) fun i j => .int (i - j)
theorem ok_sub : OpOk X (binaryOp .Sub) gSub := ok_gI (rI_of0 op_sub) fun _ _ _ => .int _
def gDiv : D → D → Option Rs := gI (fun _ j => 0 < j ∧ j < 1073741824) fun i j => .int (i / j)
theorem ok_div : OpOk X (binaryOp .FloorDiv) gDiv := ok_gI op_fdiv fun _ _ _ => .int _
def gMod : D → D → Option Rs := gI (fun _ j => 0 < j) fun i j => .int (i % j)
theorem ok_mod : OpOk X (binaryOp .Mod) gMod := ok_gI op_mod fun _ _ _ => .int _

/-! #### comparisons of order -/
def gOrd (p : Int → Int → Bool) (ps : Str → Str → Bool) : D → D → Option Rs
  | .int i, .int j => some (.d (.bool (p i j)))
  | .str x, .str y => some (.d (.bool (ps x y)))
  | _, _ => none
theorem ok_ord {f : Value → Value → Sem Value} {p : Int → Int → Bool} {ps : Str → Str → Bool} (h1 : OpR X f (rI0 fun i j => .bl (p i j))) (h2 : OpR X f (fun x y H Q => ∃ i j, x = .str i ∧ y = .str j ∧ Q (.bl (ps i j)) H)) : OpOk X f (gOrd p ps) := by
  intro pins s σ H x y v u Q F Z B S dx dy res I rx ry R vx vy hg q
  match dx, dy, hg, vx, vy with
  | .int i, .int j, hg, vx, vy =>
    cases hg
    exact h1 pins s σ H x y v u Q I rx ry ⟨i, j, view_int vx, view_int vy, q Z H _ (Ex.refl Z) (.sc R (.bl _))⟩
  | .str i, .str j, hg, vx, vy =>
    cases hg
    exact h2 pins s σ H x y v u Q I rx ry ⟨i, j, view_str vx, view_str vy, q Z H _ (Ex.refl Z) (.sc R (.bl _))⟩
def gLt : D → D → Option Rs := gOrd (fun i j => decide (i < j)) fun x y => decide (x.cps.toList < y.cps.toList)
def gLe : D → D → Option Rs := gOrd (fun i j => decide (i ≤ j)) fun x y => decide (x.cps.toList ≤ y.cps.toList)
def gGt : D → D → Option Rs := gOrd (fun i j => decide (j < i)) fun x y => decide (y.cps.toList < x.cps.toList)
def gGe : D → D → Option Rs := gOrd (fun i j => decide (j ≤ i)) fun x y => decide (y.cps.toList ≤ x.cps.toList)
theorem ok_lt : OpOk X (compareOp .Lt) gLt := ok_ord op_lt op_lt_str
theorem ok_gt : OpOk X (compareOp .Gt) gGt := ok_ord op_gt op_gt_str
theorem le_not_lt (x y : Str) : decide (x.cps.toList ≤ y.cps.toList) = !decide (y.cps.toList < x.cps.toList) := by
  rw [Bool.eq_iff_iff]; simp
theorem ok_le : OpOk X (compareOp .LtE) gLe := ok_ord op_le fun pins s σ H x y v u Q I rx ry ⟨i, j, e1, e2, q⟩ => op_le_str pins s σ H x y v u Q I rx ry ⟨i, j, e1, e2, by rw [← le_not_lt]; exact q⟩
theorem ok_ge : OpOk X (compareOp .GtE) gGe := ok_ord op_ge fun pins s σ H x y v u Q I rx ry ⟨i, j, e1, e2, q⟩ => op_ge_str pins s σ H x y v u Q I rx ry ⟨i, j, e1, e2, by rw [← le_not_lt]; exact q⟩
end

/-! #### data without dicts, not too deep -/
def fineN (n : Nat) (d : D) : Bool := d.plain && decide (d.depth ≤ n)
theorem fineN_non (n : Nat) : fineN n .none = true := by simp [fineN, PyData.plain, PyData.depth]
theorem fineN_bool (n : Nat) (b : Bool) : fineN n (.bool b) = true := by simp [fineN, PyData.plain, PyData.depth]
theorem fineN_int (n : Nat) (i : Int) : fineN n (.int i) = true := by simp [fineN, PyData.plain, PyData.depth]
theorem fineN_str (n : Nat) (x : Str) : fineN n (.str x) = true := by simp [fineN, PyData.plain, PyData.depth]
theorem fineAll (n : Nat) : ∀ xs : List D, (PyData.plainAll xs && decide (PyData.depthAll xs ≤ n)) = xs.all (fineN n)
  | [] => by simp [PyData.plainAll, PyData.depthAll]
  | x :: xs => by
    rw [List.all_cons, ← fineAll n xs]
    simp only [PyData.plainAll, PyData.depthAll, fineN]
    rw [Bool.eq_iff_iff]
    simp [Nat.max_le]
    constructor <;> (rintro ⟨⟨a, b⟩, c, d⟩; exact ⟨⟨a, c⟩, b, d⟩)
theorem fineN_tup (n : Nat) (xs : List D) : fineN (n + 1) (.tuple xs) = xs.all (fineN n) := by
  rw [← fineAll]; simp [fineN, PyData.plain, PyData.depth]
theorem fineN_lst (n : Nat) (xs : List D) : fineN (n + 1) (.list xs) = xs.all (fineN n) := by
  rw [← fineAll]; simp [fineN, PyData.plain, PyData.depth]
mutual
theorem dp_of {K : PySem.W.Frag} {H : Hp} : ∀ {v : V} {d : D}, Rep H v d → d.plain = true → Dp K H v d
  | _, _, .non, _ => .non
  | _, _, .bl b, _ => .bl b
  | _, _, .int i, _ => .int i
  | _, _, .str x, _ => .str x
  | _, _, .tup h r, p => .tup (SqT.of h) (dps_of r p)
  | _, _, .lst h r, p => .lst (SqL.of h) (dps_of r p)
  | _, _, .scr h, p => nomatch p
  | _, _, .dK h r, p => nomatch p
  | _, _, .dT h r, p => nomatch p
theorem dps_of {K : PySem.W.Frag} {H : Hp} : ∀ {vs : List V} {ds : List D}, Reps H vs ds → PyData.plainAll ds = true → DpAll K H vs ds
  | _, _, .nil, _ => .nil
  | _, _, .cons h r, p => by
    simp only [PyData.plainAll, Bool.and_eq_true] at p
    exact .cons (dp_of h p.1) (dps_of r p.2)
end
def gEq (neg : Bool) (x y : D) : Option Rs := if fineN 64 x && fineN 64 y then some (.d (.bool (if neg then !PyData.eqv x y else PyData.eqv x y))) else none
section
variable {X : Cx}
theorem reads_of {pins : List (Addr × Obj)} {s : Shared} {σ : L2.St} {H Z : Hp} {x : V} {v : Value} {d : D} (I : Inv X pins σ H s) (rx : RelV x v) (e : Ex Z H) (vx : View Z H x d) (p : d.plain = true) : ∃ as, Reads s.heap v d as :=
  Dp.reads I d x v (dp_of (vx.rep e) p) rx
theorem ok_eqG (hu : X.A.units + 66 < cLine) : OpOk X (compareOp .Eq) (gEq false) := by
  intro pins s σ H x y v u Q F Z B S dx dy res I rx ry R vx vy hg q
  simp only [gEq] at hg
  split at hg
  · rename_i hf
    simp only [fineN, Bool.and_eq_true, decide_eq_true_eq] at hf
    obtain ⟨⟨p1, d1⟩, p2, d2⟩ := hf
    cases hg
    obtain ⟨as, ra⟩ := reads_of I rx R.exZ vx p1
    obtain ⟨bs, rb⟩ := reads_of I ry R.exZ vy p2
    exact SeqAt.eq_plain ra rb p1 p2 (by omega) ⟨.bl _, H, I, rfl, q Z H _ (Ex.refl Z) (.sc R (.bl _))⟩
  · cases hg
theorem ok_neG (hu : X.A.units + 66 < cLine) : OpOk X (compareOp .NotEq) (gEq true) := by
  intro pins s σ H x y v u Q F Z B S dx dy res I rx ry R vx vy hg q
  simp only [gEq] at hg
  split at hg
  · rename_i hf
    simp only [fineN, Bool.and_eq_true, decide_eq_true_eq] at hf
    obtain ⟨⟨p1, d1⟩, p2, d2⟩ := hf
    cases hg
    obtain ⟨as, ra⟩ := reads_of I rx R.exZ vx p1
    obtain ⟨bs, rb⟩ := reads_of I ry R.exZ vy p2
    exact SeqAt.ne_plain ra rb p1 p2 (by omega) ⟨.bl _, H, I, rfl, q Z H _ (Ex.refl Z) (.sc R (.bl _))⟩
  · cases hg
/-- is None, is True, is False -/
def isNonD : D → Bool
  | .none => true
  | _ => false
def gIs (neg : Bool) (x y : D) : Option Rs := match y with
  | .none => some (.d (.bool (if neg then !isNonD x else isNonD x)))
  | .bool b => match x with
    | .bool a => some (.d (.bool (if neg then !decide (a = b) else decide (a = b))))
    | _ => none
  | _ => none
theorem view_isN {Z H : Hp} {x : V} {d : D} (vx : View Z H x d) : decide (x = .non) = isNonD d := by
  cases d with
  | none => cases view_non vx; rfl
  | bool b => cases view_bl vx; rfl
  | int i => cases view_int vx; rfl
  | str x => cases view_str vx; rfl
  | tuple xs => obtain ⟨a, vs, e, _⟩ := view_tup vx; subst e; rfl
  | list xs => obtain ⟨a, vs, e, _⟩ := vx; subst e; rfl
  | dict es => obtain ⟨a, e, _⟩ := vx; subst e; rfl
theorem ok_is : OpOk X (compareOp .Is) (gIs false) := by
  intro pins s σ H x y v u Q F Z B S dx dy res I rx ry R vx vy hg q
  match dy, hg, vy with
  | .none, hg, vy =>
    cases hg
    exact op_isN pins s σ H x y v u Q I rx ry ⟨view_non vy, by rw [view_isN vx]; exact q Z H _ (Ex.refl Z) (.sc R (.bl _))⟩
  | .bool b, hg, vy =>
    cases dx <;> try (simp [gIs] at hg; done)
    cases hg
    exact op_isBl pins s σ H x y v u Q I rx ry ⟨_, b, view_bl vx, view_bl vy, q Z H _ (Ex.refl Z) (.sc R (.bl _))⟩
theorem ok_isNot : OpOk X (compareOp .IsNot) (gIs true) := by
  intro pins s σ H x y v u Q F Z B S dx dy res I rx ry R vx vy hg q
  match dy, hg, vy with
  | .none, hg, vy =>
    cases hg
    exact op_notN pins s σ H x y v u Q I rx ry ⟨view_non vy, by rw [view_isN vx]; exact q Z H _ (Ex.refl Z) (.sc R (.bl _))⟩
  | .bool b, hg, vy =>
    cases dx <;> try (simp [gIs] at hg; done)
    cases hg
    exact op_notBl pins s σ H x y v u Q I rx ry ⟨_, b, view_bl vx, view_bl vy, q Z H _ (Ex.refl Z) (.sc R (.bl _))⟩
/-- in, not in: a list, a tuple of data; a text; the keys of a dict -/
def subIn (x y : Str) : Bool := !(Builtin.Str.occurrences y x 0 y.length 1).isEmpty
def keyIn (k : D) (es : List (D × D)) : Bool := es.any fun e => PyData.eqv e.1 k
def gIn (neg : Bool) (x y : D) : Option Rs := match y with
  | .list ys => if fineN 64 x && ys.all (fineN 64) then some (.d (.bool (if neg then !(ys.any fun z => PyData.eqv z x) else ys.any fun z => PyData.eqv z x))) else none
  | .tuple ys => if fineN 64 x && ys.all (fineN 64) then some (.d (.bool (if neg then !(ys.any fun z => PyData.eqv z x) else ys.any fun z => PyData.eqv z x))) else none
  | .str y => match x with
    | .str x => some (.d (.bool (if neg then !subIn x y else subIn x y)))
    | _ => none
  | _ => none
theorem ok_in (hu : X.A.units + 66 < cLine) : OpOk X (compareOp .In) (gIn false) := by
  intro pins s σ H x y v u Q F Z B S dx dy res I rx ry R vx vy hg q
  match dy, hg, vy with
  | .list ys, hg, vy =>
    simp only [gIn] at hg
    split at hg
    · rename_i hf
      rw [Bool.and_eq_true, ← fineAll] at hf
      simp only [fineN, Bool.and_eq_true, decide_eq_true_eq] at hf
      obtain ⟨⟨p1, d1⟩, p2, d2⟩ := hf
      cases hg
      obtain ⟨as, ra⟩ := reads_of I rx R.exZ vx p1
      obtain ⟨bs, rb⟩ := reads_of I ry R.exZ vy (by simpa [PyData.plain] using p2)
      exact SeqAt.in_list_data rb ra p2 p1 (by omega) ⟨.bl _, H, I, rfl, q Z H _ (Ex.refl Z) (.sc R (.bl _))⟩
    · cases hg
  | .tuple ys, hg, vy =>
    simp only [gIn] at hg
    split at hg
    · rename_i hf
      rw [Bool.and_eq_true, ← fineAll] at hf
      simp only [fineN, Bool.and_eq_true, decide_eq_true_eq] at hf
      obtain ⟨⟨p1, d1⟩, p2, d2⟩ := hf
      cases hg
      obtain ⟨as, ra⟩ := reads_of I rx R.exZ vx p1
      obtain ⟨bs, rb⟩ := reads_of I ry R.exZ vy (by simpa [PyData.plain] using p2)
      exact SeqAt.in_tuple_data rb ra p2 p1 (by omega) ⟨.bl _, H, I, rfl, q Z H _ (Ex.refl Z) (.sc R (.bl _))⟩
    · cases hg
  | .str z, hg, vy =>
    match dx, hg, vx with
    | .str w, hg, vx =>
      cases hg
      exact op_in_str pins s σ H x y v u Q I rx ry ⟨w, z, view_str vx, view_str vy, q Z H _ (Ex.refl Z) (.sc R (.bl _))⟩
theorem ok_notIn (hu : X.A.units + 66 < cLine) : OpOk X (compareOp .NotIn) (gIn true) := by
  intro pins s σ H x y v u Q F Z B S dx dy res I rx ry R vx vy hg q
  match dy, hg, vy with
  | .list ys, hg, vy =>
    simp only [gIn] at hg
    split at hg
    · rename_i hf
      rw [Bool.and_eq_true, ← fineAll] at hf
      simp only [fineN, Bool.and_eq_true, decide_eq_true_eq] at hf
      obtain ⟨⟨p1, d1⟩, p2, d2⟩ := hf
      cases hg
      obtain ⟨as, ra⟩ := reads_of I rx R.exZ vx p1
      obtain ⟨bs, rb⟩ := reads_of I ry R.exZ vy (by simpa [PyData.plain] using p2)
      exact SeqAt.notIn_list_data rb ra p2 p1 (by omega) ⟨.bl _, H, I, rfl, q Z H _ (Ex.refl Z) (.sc R (.bl _))⟩
    · cases hg
  | .tuple ys, hg, vy =>
    simp only [gIn] at hg
    split at hg
    · rename_i hf
      rw [Bool.and_eq_true, ← fineAll] at hf
      simp only [fineN, Bool.and_eq_true, decide_eq_true_eq] at hf
      obtain ⟨⟨p1, d1⟩, p2, d2⟩ := hf
      cases hg
      obtain ⟨as, ra⟩ := reads_of I rx R.exZ vx p1
      obtain ⟨bs, rb⟩ := reads_of I ry R.exZ vy (by simpa [PyData.plain] using p2)
      exact SeqAt.notIn_tuple_data rb ra p2 p1 (by omega) ⟨.bl _, H, I, rfl, q Z H _ (Ex.refl Z) (.sc R (.bl _))⟩
    · cases hg
  | .str z, hg, vy =>
    match dx, hg, vx with
    | .str w, hg, vx =>
      cases hg
      exact L2.op_notIn_str pins s σ H x y v u Q I rx ry ⟨w, z, view_str vx, view_str vy, q Z H _ (Ex.refl Z) (.sc R (.bl _))⟩
end
end Ev

namespace Ev
open PySem PySem.Spec L2

section
variable {F Z Z' : Hp} {B : Nat → Option V} {S S' : Sg} {σ : L2.St} {H H' : Hp} {t : Option (V × Ob)} {v : V} {r : Rs} {x : D}
/-- a slot's own object is handed on -/
theorem RepSt.freezeSlot {i : Nat} {o : Ob} (R : RepSt F Z B S σ H none) (hg : gt S i = .own false o) : ∃ Z' v, Ex Z Z' ∧ σ[i]? = some (some v) ∧ RepSt F Z' B (S.set i (.d o.toD)) σ H none ∧ Rep Z' v o.toD := by
  have hi : i < S.length := gt_lt (by rw [hg]; intro z; cases z)
  obtain ⟨hl, eF, eZ, dj, fp, h1, h2, h3, h4⟩ := R
  have hz : ∀ a ∈ fp (some i), Z a = none := fun a ha => (h3 _ a ha).1
  have hs := h1 i
  rw [hg] at hs
  obtain ⟨v, e, ho, _⟩ := hs
  have rep := Holds.toD ho hz
  refine ⟨addZ Z H (fp (some i)), v, ex_addZ hz, e, ⟨by simp [hl], eF, ex_addZ2 eZ, fun a ha => by (unfold addZ; rw [if_neg fun q => ha (h3 _ a q).2]; exact dj a ha), fun j => if j = some i then [] else fp j, fun j => ?_, ?_, fun j a ha => ?_, fun j k a hj hk => ?_⟩, rep⟩
  · by_cases q : j = i
    · subst q
      simp only [if_true]
      rw [gt_set_same hi]
      exact ⟨rfl, v, e, rep⟩
    · have q' : ¬ (some j = some i) := fun e => q (Option.some.inj e)
      simp only [if_neg q']
      rw [gt_set_ne (Ne.symm q)]
      exact (h1 j).mono (ex_addZ hz)
  · simpa [TmpR] using h2
  · by_cases q : j = some i
    · simp [q] at ha
    · simp only [if_neg q] at ha
      refine ⟨?_, (h3 _ a ha).2⟩
      unfold addZ
      rw [if_neg fun z => q (h4 _ _ a ha z)]
      exact (h3 _ a ha).1
  · by_cases q : j = some i
    · simp [q] at hj
    · by_cases q2 : k = some i
      · simp [q2] at hk
      · simp only [if_neg q] at hj
        simp only [if_neg q2] at hk
        exact h4 _ _ a hj hk
/-- a slot's own list changes -/
theorem RepSt.mutL {i : Nat} {b : Bool} {ds : List D} (R : RepSt F Z B S σ H none) (hg : gt S i = .own b (.lst ds)) : ∃ a xs, σ[i]? = some (some (.ref a)) ∧ H a = some (.lst xs) ∧ Reps Z xs ds ∧
    ∀ xs' ds', Reps Z xs' ds' → RepSt F Z B (S.set i (.own b (.lst ds'))) σ (upd H a (.lst xs')) none := by
  have hi : i < S.length := gt_lt (by rw [hg]; intro z; cases z)
  obtain ⟨hl, eF, eZ, dj, fp, h1, h2, h3, h4⟩ := R
  have hs := h1 i
  rw [hg] at hs
  obtain ⟨v, e, ⟨a, xs, rfl, hf, ha, hr⟩, hb⟩ := hs
  have hza := h3 (some i) a (by simp [hf])
  refine ⟨a, xs, e, ha, hr, fun xs' ds' hr' => ⟨by simp [hl], eF.mut hza.2, eZ.mut hza.1, dj, fp, fun j => ?_, ?_, h3, h4⟩⟩
  · by_cases q : j = i
    · subst q
      rw [gt_set_same hi]
      exact ⟨_, e, ⟨a, xs', rfl, hf, upd_same, hr'⟩, hb⟩
    · rw [gt_set_ne (Ne.symm q)]
      refine (h1 j).at fun c hc => upd_ne fun z => q ?_
      subst z
      exact Option.some.inj (h4 _ _ c hc (by simp [hf]))
  · exact h2
end

/-! ### a result as data that may be stored -/
def share (r : Rs) (S : Sg) : Option (D × Sg) :=
  match r with
  | .d x => some (x, S)
  | .ref i => match gt S i with
    | .d x => some (x, S)
    | .own false o => some (o.toD, S.set i (.d o.toD))
    | _ => none
  | .tmp o => some (o.toD, S)
def mD (m : EM) : Sg → Out D := fun S => (m S).bind fun r S1 => match share r S1 with
  | some (x, S2) => .ok x S2
  | none => .st
section
variable {F Z Z' : Hp} {B : Nat → Option V} {S S' : Sg} {σ : L2.St} {H H' : Hp} {t : Option (V × Ob)} {v : V} {r : Rs} {x : D} {W : WM} {Q : VK}
theorem share_ok (h : ResOk F Z B S σ H r v) (e : share r S = some (x, S')) : ∃ Z', Ex Z Z' ∧ RepSt F Z' B S' σ H none ∧ Rep Z' v x := by
  cases r with
  | d y => cases e; exact ⟨Z, Ex.refl Z, h.1, h.2⟩
  | tmp o => cases e; exact RepSt.freeze h
  | ref i =>
    obtain ⟨R, hv⟩ := h
    unfold share at e
    dsimp only at e
    cases hg : gt S i with
    | no => rw [hg] at e; cases e
    | lent => rw [hg] at e; cases e
    | d y =>
      rw [hg] at e; cases e
      obtain ⟨fp, hs⟩ := R.slot i
      rw [hg] at hs
      obtain ⟨_, w, hw, hr⟩ := hs
      rw [hv] at hw; cases hw
      exact ⟨Z, Ex.refl Z, R, hr⟩
    | own b o =>
      rw [hg] at e
      cases b with
      | true => cases e
      | false =>
        cases e
        obtain ⟨Z', w, e1, hw, R', hr⟩ := R.freezeSlot hg
        rw [hv] at hw; cases hw
        exact ⟨Z', e1, R', hr⟩
def PostD (F Z : Hp) (B : Nat → Option V) (σ : L2.St) (W : WM) (Q : VK) (o : Out D) : Prop :=
  match o with
  | .st => False
  | .ok x S => ∀ Z' H' v, Ex Z Z' → RepSt F Z' B S σ H' none → Rep Z' v x → Q v H'
  | .ex c S => ∀ Z' H', Ex Z Z' → RepSt F Z' B S σ H' none → W c σ H'
end

/-! ### rows of arguments -/
abbrev DM := Sg → Out (List D)
def PostDs (F Z : Hp) (B : Nat → Option V) (σ : L2.St) (W : WM) (Q : List V → Hp → Prop) (o : Out (List D)) : Prop :=
  match o with
  | .st => False
  | .ok ds S => ∀ Z' H' vs, Ex Z Z' → RepSt F Z' B S σ H' none → Reps Z' vs ds → Q vs H'
  | .ex c S => ∀ Z' H', Ex Z Z' → RepSt F Z' B S σ H' none → W c σ H'
def tDs (W : WM) (m : DM) : TA := fun σ H Q => ∃ F Z B S, RepSt F Z B S σ H none ∧ PostDs F Z B σ W Q (m S)
/-- arguments that are stored as data -/
structure JD (X : Cx) (W : WM) (es : List Expr) (m : DM) : Prop where
  run : PA X es (tDs W m)
def dNil : DM := fun S => .ok [] S
def dCons (a : EM) (r : DM) : DM := fun S => (mD a S).bind fun x S1 => (r S1).bind fun xs S2 => .ok (x :: xs) S2
section
variable {X : Cx} {W : WM} {e : Expr} {es : List Expr} {a : EM} {r : DM}
theorem jd_nil : JD X W [] dNil := ⟨PA.imp pa_nil fun σ H Q h => by
  obtain ⟨F, Z, B, S, R, p⟩ := h
  exact p Z H [] (Ex.refl Z) R .nil⟩
theorem jd_cons (ha : JE X W e a) (hr : JD X W es r) (hs : starEach (e :: es) X.env = (false, eval e X.env) :: starEach es X.env := by rfl) : JD X W (e :: es) (dCons a r) := by
  refine ⟨PA.imp (pa_cons ha.run hr.run hs) fun σ H Q h => ?_⟩
  obtain ⟨F, Z, B, S, R, p⟩ := h
  refine ⟨F, Z, B, S, R, ?_⟩
  revert p
  simp only [dCons, mD]
  cases a S with
  | st => exact fun p => p
  | ex c S1 => exact fun p => p
  | ok q S1 =>
    intro p Z1 H1 v e1 hr1
    simp only [bind_ok] at p
    cases hsh : share q S1 with
    | none => rw [hsh] at p; exact p.elim
    | some y =>
      obtain ⟨x, S2⟩ := y
      rw [hsh] at p
      simp only [bind_ok] at p
      obtain ⟨Z2, e2, R2, rep2⟩ := share_ok hr1 hsh
      refine ⟨F, Z2, B, S2, R2, ?_⟩
      revert p
      cases r S2 with
      | st => exact fun p => p
      | ex c S3 => exact fun p Z' H' e3 => p Z' H' ((e1.trans e2).trans e3)
      | ok xs S3 => exact fun p Z' H' vs e3 R3 reps => p Z' H' (v :: vs) ((e1.trans e2).trans e3) R3 (.cons (rep2.mono e3) reps)
end

/-! ### displays -/
def mTup (m : DM) : EM := fun S => (m S).bind fun ds S1 => gd (ds.length ≤ lim) (.ok (.d (.tuple ds)) S1)
def mLst (m : DM) : EM := fun S => (m S).bind fun ds S1 => gd (ds.length ≤ lim) (.ok (.tmp (.lst ds)) S1)
section
variable {X : Cx} {W : WM} {e : Expr} {es : List Expr} {m : DM} {pos : Pos}
theorem tDs_bind {σ : L2.St} {H : Hp} {Q : VK} {k : List D → Sg → Out Rs} {R : List V → Hp → Prop} (h : tE W (fun S => (m S).bind k) σ H Q) (hk : ∀ F Z B S ds vs H1, RepSt F Z B S σ H1 none → Reps Z vs ds → PostE F Z B σ W Q (k ds S) → R vs H1) : tDs W m σ H R := by
  obtain ⟨F, Z, B, S, RS, p⟩ := h
  refine ⟨F, Z, B, S, RS, ?_⟩
  revert p
  show PostE F Z B σ W Q ((m S).bind k) → _
  cases m S with
  | st => exact fun p => p
  | ok r S1 => exact fun p Z' H' vs e R1 hr => hk F Z' B S1 r vs H' R1 hr (p.mono e)
  | ex c S1 => exact fun p => p
theorem je_tup {k : Nat} (h : JD X W es m) : JE X W (.Tuple es k pos) (mTup m) := by
  refine ⟨PE.imp (pe_tup h.run) fun σ H Q hq => tDs_bind hq fun F Z B S ds vs H1 R hr p => ?_⟩
  by_cases hc : ds.length ≤ lim
  · rw [gd_pos hc] at p
    exact ⟨by rw [hr.length]; exact lim_le hc, fun q hq => p _ _ _ (Ex.new (R.exZ.free hq)) (.tup R hq hr)⟩
  · unfold gd at p; rw [if_neg hc] at p; exact p.elim
theorem je_lst (h : JD X W es m) : JE X W (.List es pos) (mLst m) := by
  refine ⟨PE.imp (pe_lst h.run) fun σ H Q hq => tDs_bind hq fun F Z B S ds vs H1 R hr p => ?_⟩
  by_cases hc : ds.length ≤ lim
  · rw [gd_pos hc] at p
    exact ⟨by rw [hr.length]; exact lim_le hc, fun q hq => p _ _ _ (Ex.refl Z) (.lst R hq hr)⟩
  · unfold gd at p; rw [if_neg hc] at p; exact p.elim
end

/-! ### truth -/
/-- the script's items, if it is that -/
def scrOf (es : List (D × D)) : Option (List D) := match es with
  | [(.none, .list ns)] => some ns
  | _ => none
theorem scrOf_some {es : List (D × D)} {ds : List D} (h : scrOf es = some ds) : es = [(.none, .list ds)] := by
  unfold scrOf at h
  split at h
  · cases h; rfl
  · cases h
def truth : D → Option Bool
  | .none => some false
  | .bool b => some b
  | .int i => some (i != 0)
  | .str x => if x.length ≤ lim then some ((x.length : Int) != 0) else none
  | .list xs => some (!xs.isEmpty)
  | .tuple xs => some (!xs.isEmpty)
  | .dict es => (scrOf es).map fun ns => !ns.isEmpty
theorem scr_inj {ns : List Int} {ds : List D} (h : PyData.dict [(.none, .list ds)] = scrD ns) : ds = ns.map PyData.int := by
  unfold scrD at h; cases h; rfl
theorem repK_no {Z : Hp} {kvs : List (Key × V)} {y : D} {r : List (D × D)} (h : RepK Z kvs ((.none, y) :: r)) : False := by
  cases kvs with
  | nil => cases h
  | cons p q =>
    obtain ⟨k, w⟩ := p
    generalize he : ((PyData.none, y) :: r) = l at h
    cases h with
    | cons a b => cases k <;> cases he
theorem repT_no {Z : Hp} {kvs : List (List Key × V)} {y : D} {r : List (D × D)} (h : RepT Z kvs ((.none, y) :: r)) : False := by
  cases kvs with
  | nil => cases h
  | cons p q =>
    obtain ⟨k, w⟩ := p
    generalize he : ((PyData.none, y) :: r) = l at h
    cases h with
    | cons a b => cases he
theorem view_scr {Z H : Hp} {v : V} {ds : List D} (h : View Z H v (.dict [(.none, .list ds)])) : ∃ (a : Addr) (ns : List Int) (o : Obj), v = .ref a ∧ H a = some (.frz o (.lst (ns.map V.int))) ∧ ds = ns.map PyData.int := by
  obtain ⟨a, e, ⟨kvs, h1, h2⟩ | ⟨kvs, h1, h2⟩ | ⟨ns, o, h1, h2⟩⟩ := h
  · exact (repK_no h2).elim
  · exact (repT_no h2).elim
  · exact ⟨a, ns, o, e, h1, scr_inj h2⟩
theorem isEmpty_reps {Z : Hp} {vs : List V} {ds : List D} (h : Reps Z vs ds) : vs.isEmpty = ds.isEmpty := h.nil_iff
theorem truV_of {K : PySem.W.Frag} {Z H : Hp} {v : V} {d : D} {k : Bool} (e : Ex Z H) (h : View Z H v d) (ht : truth d = some k) : TruV K v H k := by
  cases d with
  | none => cases view_non h; cases ht; rfl
  | bool b => cases view_bl h; cases ht; rfl
  | int i => cases view_int h; cases ht; rfl
  | str x =>
    cases view_str h
    simp only [truth] at ht
    split at ht
    · rename_i hl; cases ht; exact ⟨lim_le hl, rfl⟩
    · cases ht
  | list xs =>
    obtain ⟨a, vs, rfl, h1, h2⟩ := h
    cases ht
    exact .inl ⟨vs, SqL.of h1, by rw [h2.nil_iff]⟩
  | tuple xs =>
    obtain ⟨a, vs, rfl, h1, h2⟩ := view_tup h
    cases ht
    exact .inr (.inl ⟨vs, SqT.of (e _ _ h1), by rw [h2.nil_iff]⟩)
  | dict es =>
    simp only [truth] at ht
    cases hs : scrOf es with
    | none => rw [hs] at ht; cases ht
    | some ns =>
      rw [hs] at ht
      cases ht
      cases scrOf_some hs
      obtain ⟨a, ms, o, rfl, h1, rfl⟩ := view_scr h
      exact .inl ⟨ms.map V.int, .inl (.inr ⟨o, h1⟩), by cases ms <;> rfl⟩
def ofB (o : Option Bool) (S : Sg) : Out Bool := match o with
  | none => .st
  | some b => .ok b S
@[simp] theorem ofB_some (b : Bool) (S : Sg) : ofB (some b) S = .ok b S := rfl
def mTruth (m : EM) : TM := fun S => (frz m S).bind fun r S1 => ofB ((peek S1 r).bind truth) S1
/-- what is seen of a result -/
theorem ResOk.seen {F Z : Hp} {B : Nat → Option V} {S : Sg} {σ : L2.St} {H : Hp} {r : Rs} {v : V} {d : D} (h : ResOk F Z B S σ H r v) (hp : peek S r = some d) : View Z H v d := by
  cases r with
  | d x => cases hp; exact Rep.view h.1.exZ h.2
  | ref i => exact peek_ref h.1 h.2 hp
  | tmp o =>
    cases hp
    obtain ⟨hl, eF, eZ, dj, fp, h1, h2, h3, h4⟩ := h
    exact Holds.view (show Holds Z H v o (fp none) from h2)
section
variable {X : Cx} {W : WM} {e a b : Expr} {m : EM} {ma mb : TM} {rest : List Expr} {pos : Pos}
theorem frz_ok {S S1 : Sg} {r : Rs} (h : frz m S = .ok r S1) : r = frzR r := by
  unfold frz at h
  cases hm : m S with
  | st => rw [hm] at h; cases h
  | ex c s => rw [hm] at h; cases h
  | ok q s => rw [hm] at h; cases h; cases q <;> rfl
theorem tT_truth {σ : L2.St} {H : Hp} {Q : Bool → Hp → Prop} (h : tT W (mTruth m) σ H Q) : tE W (frz m) σ H fun x H' => ∃ k, TruV X.K x H' k ∧ Q k H' := by
  obtain ⟨F, Z, B, S, RS, p⟩ := h
  refine ⟨F, Z, B, S, RS, ?_⟩
  revert p
  simp only [mTruth]
  cases hf : frz m S with
  | st => exact fun p => p
  | ex c S1 => exact fun p => p
  | ok r S1 =>
    intro p Z' H' v e hr
    simp only [bind_ok] at p
    have hr' := hr
    rw [frz_ok hf] at hr'
    obtain ⟨R, k⟩ := hr'.kept
    cases hp : peek S1 r with
    | none => rw [hp] at p; exact p.elim
    | some d =>
      rw [hp] at p
      cases ht : truth d with
      | none => simp only [Option.bind, ht] at p; exact p.elim
      | some c =>
        simp only [Option.bind, ht] at p
        exact ⟨c, truV_of R.exZ (hr.seen hp) ht, p Z' H' e R⟩
theorem jt_truth (h : JE X W e m) (he : ∀ whole, isTrue e X.env whole = (do let v ← whole; standAt e.pos; holding [v] (truthy v)) := by intro _; rfl) : JT X W e (mTruth m) :=
  ⟨PT.imp (pt_truth h.frz.run he) fun _ _ _ hq => tT_truth hq⟩

/-! ### and, or, not, if else -/
structure JW (X : Cx) (W : WM) (e : Expr) (m : TM) : Prop where
  run : PW X e (tT W m)
theorem JW.pt (h : JW X W e ma) : JT X W e ma := ⟨h.run.pt⟩
theorem PW.imp {t t' : TT} (h : PW X e t) (i : ∀ σ H Q, t' σ H Q → t σ H Q) : PW X e t' := ⟨fun wh pins s σ H Q I hq => h.run wh pins s σ H Q I (i σ H Q hq)⟩
def mAnd (a b : TM) : TM := fun S => (a S).bind fun c S1 => if c = true then b S1 else .ok false S1
def mOr (a b : TM) : TM := fun S => (a S).bind fun c S1 => if c = true then .ok true S1 else b S1
def mNot (a : TM) : TM := fun S => (a S).bind fun c S1 => .ok (!c) S1
theorem jw_and1 (ha : JT X W a ma) : JW X W (.BoolOp .And [a] pos) ma := ⟨pw_and1 ha.run⟩
theorem jw_or1 (ha : JT X W a ma) : JW X W (.BoolOp .Or [a] pos) ma := ⟨pw_or1 ha.run⟩
theorem jw_and (ha : JT X W a ma) (hb : JW X W (.BoolOp .And (b :: rest) pos) mb) : JW X W (.BoolOp .And (a :: b :: rest) pos) (mAnd ma mb) :=
  ⟨PW.imp (pw_and ha.run hb.run) fun σ H Q h => tT_bindT h fun F Z B S c H1 R p => by
    cases c with
    | true => exact iteT ⟨F, Z, B, S, R, p⟩
    | false => exact iteF (p Z H1 (Ex.refl Z) R)⟩
theorem jw_or (ha : JT X W a ma) (hb : JW X W (.BoolOp .Or (b :: rest) pos) mb) : JW X W (.BoolOp .Or (a :: b :: rest) pos) (mOr ma mb) :=
  ⟨PW.imp (pw_or ha.run hb.run) fun σ H Q h => tT_bindT h fun F Z B S c H1 R p => by
    cases c with
    | true => exact iteT (p Z H1 (Ex.refl Z) R)
    | false => exact iteF ⟨F, Z, B, S, R, p⟩⟩
theorem jt_not (ha : JT X W a ma) : JT X W (.UnaryOp .Not a pos) (mNot ma) :=
  ⟨PT.imp (pt_not ha.run) fun σ H Q h => tT_bindT h fun F Z B S c H1 R p => p Z H1 (Ex.refl Z) R⟩
def mIte {α : Type} (c : TM) (a b : Sg → Out α) : Sg → Out α := fun S => (c S).bind fun k S1 => if k = true then a S1 else b S1
theorem je_if {mx my : EM} {c : Expr} (hc : JT X W c ma) (ha : JE X W a mx) (hb : JE X W b my) : JE X W (.IfExp c a b pos) (mIte ma mx my) :=
  ⟨PE.imp (pe_ifExp hc.run ha.run hb.run) fun σ H Q h => tT_bind h fun F Z B S c H1 R p => by
    cases c with
    | true => exact iteT ⟨F, Z, B, S, R, p⟩
    | false => exact iteF ⟨F, Z, B, S, R, p⟩⟩
/-- .. as values: by truth -/
def mAndV (a b : EM) : EM := fun S => (frz a S).bind fun r S1 => match (peek S1 r).bind truth with
  | none => .st
  | some k => if k = true then b S1 else .ok r S1
def mOrV (a b : EM) : EM := fun S => (frz a S).bind fun r S1 => match (peek S1 r).bind truth with
  | none => .st
  | some k => if k = true then .ok r S1 else b S1
def mNotV (a : EM) : EM := fun S => (frz a S).bind fun r S1 => match (peek S1 r).bind truth with
  | none => .st
  | some k => .ok (.d (.bool (!k))) S1
theorem tE_truthK {mx : EM} {k : Bool → Rs → Sg → Out Rs} {σ : L2.St} {H : Hp} {Q R : VK} (h : tE W (fun S => (frz mx S).bind fun r S1 => match (peek S1 r).bind truth with | none => .st | some b => k b r S1) σ H Q)
    (hk : ∀ F Z B S r v H1 b, ResOk F Z B S σ H1 r v → RepSt F Z B S σ H1 none → TruV X.K v H1 b → PostE F Z B σ W Q (k b r S) → R v H1) : tE W (frz mx) σ H R := by
  obtain ⟨F, Z, B, S, RS, p⟩ := h
  refine ⟨F, Z, B, S, RS, ?_⟩
  revert p
  dsimp only
  cases hf : frz mx S with
  | st => exact fun p => p
  | ex c S1 => exact fun p => p
  | ok r S1 =>
    intro p Z' H' v e hr
    simp only [bind_ok] at p
    have hr' := hr
    rw [frz_ok hf] at hr'
    obtain ⟨R', _⟩ := hr'.kept
    cases hp : peek S1 r with
    | none => rw [hp] at p; exact p.elim
    | some d =>
      rw [hp] at p
      cases ht : truth d with
      | none => simp only [Option.bind, ht] at p; exact p.elim
      | some c =>
        simp only [Option.bind, ht] at p
        exact hk F Z' B S1 r v H' c hr R' (truV_of R'.exZ (hr.seen hp) ht) (p.mono e)
theorem je_andV {mx my : EM} (ha : JE X W a mx) (hb : JE X W (.BoolOp .And (b :: rest) pos) my) : JE X W (.BoolOp .And (a :: b :: rest) pos) (mAndV mx my) :=
  ⟨PE.imp (pe_andT ha.frz.run hb.run) fun σ H Q h => tE_truthK (k := fun k r S1 => if k = true then my S1 else .ok r S1) h fun F Z B S r v H1 c hr R tr p => by
    refine ⟨c, tr, ?_⟩
    cases c with
    | true => exact iteT ⟨F, Z, B, S, R, p⟩
    | false => exact iteF (p Z H1 v (Ex.refl Z) hr)⟩
theorem je_orV {mx my : EM} (ha : JE X W a mx) (hb : JE X W (.BoolOp .Or (b :: rest) pos) my) : JE X W (.BoolOp .Or (a :: b :: rest) pos) (mOrV mx my) :=
  ⟨PE.imp (pe_orT ha.frz.run hb.run) fun σ H Q h => tE_truthK (k := fun k r S1 => if k = true then .ok r S1 else my S1) h fun F Z B S r v H1 c hr R tr p => by
    refine ⟨c, tr, ?_⟩
    cases c with
    | true => exact iteT (p Z H1 v (Ex.refl Z) hr)
    | false => exact iteF ⟨F, Z, B, S, R, p⟩⟩
theorem je_oneV {op : BoolOp} {mx : EM} (ha : JE X W a mx) : JE X W (.BoolOp op [a] pos) mx := ⟨pe_one ha.run⟩
theorem je_notV {mx : EM} (ha : JE X W a mx) : JE X W (.UnaryOp .Not a pos) (mNotV mx) :=
  ⟨PE.imp (pe_notT ha.frz.run) fun σ H Q h => tE_truthK (k := fun k r S1 => .ok (.d (.bool (!k))) S1) h fun F Z B S r v H1 c hr R tr p => ⟨c, tr, p Z H1 _ (Ex.refl Z) (.sc R (.bl _))⟩⟩
/-- -a -/
def gNeg : D → Option Rs
  | .int i => some (.d (.int (-i)))
  | _ => none
def mUn (g : D → Option Rs) (a : EM) : EM := fun S => (frz a S).bind fun r S1 => match peek S1 r with
  | some x => ofO (g x) S1
  | none => .st
theorem tE_un {g : D → Option Rs} {mx : EM} {σ : L2.St} {H : Hp} {Q R : VK} (h : tE W (mUn g mx) σ H Q)
    (hk : ∀ F Z B S v H1 d res, RepSt F Z B S σ H1 none → View Z H1 v d → g d = some res → (∀ Z' H' w, Ex Z Z' → ResOk F Z' B S σ H' res w → Q w H') → R v H1) : tE W (frz mx) σ H R := by
  obtain ⟨F, Z, B, S, RS, p⟩ := h
  refine ⟨F, Z, B, S, RS, ?_⟩
  revert p
  simp only [mUn]
  cases hf : frz mx S with
  | st => exact fun p => p
  | ex c S1 => exact fun p => p
  | ok r S1 =>
    intro p Z' H' v e hr
    simp only [bind_ok] at p
    have hr' := hr
    rw [frz_ok hf] at hr'
    obtain ⟨R', _⟩ := hr'.kept
    cases hp : peek S1 r with
    | none => rw [hp] at p; exact p.elim
    | some d =>
      rw [hp] at p
      dsimp only at p
      cases ht : g d with
      | none => rw [ht] at p; exact p.elim
      | some res =>
        rw [ht] at p
        exact hk F Z' B S1 v H' d res R' (hr.seen hp) ht fun Z2 H2 w e2 => p Z2 H2 w (e.trans e2)
theorem je_neg {mx : EM} (ha : JE X W a mx) : JE X W (.UnaryOp .USub a pos) (mUn gNeg mx) :=
  ⟨PE.imp (pe_un un_neg ha.frz.run) fun σ H Q h => tE_un h fun F Z B S v H1 d res R vw hg p => by
    cases d <;> try (simp [gNeg] at hg; done)
    cases hg
    exact ⟨_, view_int vw, p Z H1 _ (Ex.refl Z) (.sc R (.int _))⟩⟩
end
end Ev

namespace Ev
open PySem PySem.Spec L2

/-! ### what a def is worth -/
inductive FO where
  | st
  | ok (r : Rs) (outs : List Sl)
  | ex (c : Str) (outs : List Sl)
abbrev FM := List Sl → FO
def notRef : Rs → Bool
  | .ref _ => false
  | _ => true
def ancs (vs : List V) : Nat → Option V := fun i => vs[i]?
def PostF (mg : Str → Option Value) (F Z : Hp) (vs : List V) (Q : VK) (E : XK) (o : FO) : Prop :=
  match o with
  | .st => False
  | .ok r outs => ∀ Z' H' v, Ex Z Z' → ResOk F Z' (ancs vs) outs (vs.map some) H' r v → notRef r = true → Q v H'
  | .ex c outs => ∀ Z' H', Ex Z Z' → RepSt F Z' (ancs vs) outs (vs.map some) H' none → ∀ C, mg c = some (.ref C) → E (.ref C) none H'
/-- the promise of a def whose worth is f -/
def spF (mg : Str → Option Value) (np : Nat) (f : FM) : Sp := fun vs H Q E => ∃ F Z sl, vs.length = np ∧ RepSt F Z (ancs vs) sl (vs.map some) H none ∧ PostF mg F Z vs Q E (f sl)

/-! ### arguments of a call -/
def aNil : AM := fun S => .ok [] S
def aLast (a : EM) : AM := fun S => (a S).bind fun r S1 => .ok [r] S1
def aCons (a : EM) (r : AM) : AM := fun S => (frz a S).bind fun x S1 => (r S1).bind fun xs S2 => .ok (x :: xs) S2
section
variable {X : Cx} {W : WM} {e : Expr} {es : List Expr} {a : EM} {r : AM}
theorem ja_nil : JA X W [] aNil := ⟨PA.imp pa_nil fun σ H Q h => by
  obtain ⟨F, Z, B, S, R, p⟩ := h
  exact p Z H [] (Ex.refl Z) ⟨rfl, R⟩⟩
theorem ja_last (ha : JE X W e a) (hs : starEach [e] X.env = (false, eval e X.env) :: starEach [] X.env := by rfl) : JA X W [e] (aLast a) :=
  ⟨PA.imp (pa_cons ha.run pa_nil hs) fun σ H Q h => tE_bindA h fun F Z B S r v H1 hr p => p Z H1 [v] (Ex.refl Z) ⟨v, rfl, hr⟩⟩
theorem RessOk.cons {F Z Z' : Hp} {B : Nat → Option V} {S : Sg} {σ : L2.St} {H : Hp} {q x : Rs} {v w : V} {rs : List Rs} {vs : List V} (k : Kept Z σ q v) (e : Ex Z Z') (h : RessOk F Z' B S σ H (x :: rs) (w :: vs)) : RessOk F Z' B S σ H (q :: x :: rs) (v :: w :: vs) := by
  refine ⟨v, w :: vs, rfl, ?_, h⟩
  cases q with
  | d y => exact Rep.mono e k
  | ref i => exact k
  | tmp o => exact k
theorem RessOk.len {F Z : Hp} {B : Nat → Option V} {S : Sg} {σ : L2.St} {H : Hp} : ∀ {rs : List Rs} {vs : List V}, RessOk F Z B S σ H rs vs → vs.length = rs.length
  | [], vs, h => by rw [h.1]; rfl
  | [r], vs, h => by obtain ⟨v, e, _⟩ := h; rw [e]; rfl
  | r :: q :: rs, vs, h => by
    obtain ⟨v, ws, e, _, h2⟩ := h
    rw [e, List.length_cons, List.length_cons, RessOk.len h2]
theorem ja_cons {e2 : Expr} (ha : JE X W e a) (hr : JA X W (e2 :: es) r) (hne : ∀ S S' rs, r S = .ok rs S' → rs ≠ []) (hs : starEach (e :: e2 :: es) X.env = (false, eval e X.env) :: starEach (e2 :: es) X.env := by rfl) : JA X W (e :: e2 :: es) (aCons a r) := by
  refine ⟨PA.imp (pa_cons ha.frz.run hr.run hs) fun σ H Q h => ?_⟩
  obtain ⟨F, Z, B, S, R, p⟩ := h
  refine ⟨F, Z, B, S, R, ?_⟩
  revert p
  simp only [aCons]
  cases hf : frz a S with
  | st => exact fun p => p
  | ex c S1 => exact fun p => p
  | ok q S1 =>
    intro p Z1 H1 v e1 hr1
    simp only [bind_ok] at p
    have hr' := hr1
    rw [frz_ok hf] at hr'
    obtain ⟨R1, k1⟩ := hr'.kept
    rw [← frz_ok hf] at k1
    refine ⟨F, Z1, B, S1, R1, ?_⟩
    revert p
    cases hq : r S1 with
    | st => exact fun p => p
    | ex c S3 => exact fun p Z' H' e3 => p Z' H' (e1.trans e3)
    | ok xs S3 =>
      intro p Z' H' vs e3 hxs
      cases xs with
      | nil => exact absurd rfl (hne _ _ _ hq)
      | cons y ys =>
        cases vs with
        | nil => exact absurd hxs.len (by simp)
        | cons w ws => exact p Z' H' (v :: w :: ws) (e1.trans e3) (RessOk.cons k1 e3 hxs)
theorem ne_last {a : EM} : ∀ S S' rs, aLast a S = .ok rs S' → rs ≠ [] := by
  intro S S' rs h
  unfold aLast at h
  cases hm : a S with
  | st => rw [hm] at h; cases h
  | ex c s => rw [hm] at h; cases h
  | ok q s => rw [hm] at h; cases h; simp
theorem ne_cons {a : EM} {r : AM} : ∀ S S' rs, aCons a r S = .ok rs S' → rs ≠ [] := by
  intro S S' rs h
  unfold aCons at h
  cases hm : frz a S with
  | st => rw [hm] at h; cases h
  | ex c s => rw [hm] at h; cases h
  | ok q s =>
    rw [hm] at h
    simp only [bind_ok] at h
    cases hr : r s with
    | st => rw [hr] at h; cases h
    | ex c s => rw [hr] at h; cases h
    | ok xs s2 => rw [hr] at h; cases h; simp
end

/-! ### the call -/
def argSl (S : Sg) : Rs → Option Sl
  | .d x => some (.d x)
  | .ref i => match gt S i with
    | .d x => some (.d x)
    | .own _ o => some (.own true o)
    | _ => none
  | .tmp o => some (.own true o)
def argSls (S : Sg) : List Rs → Option (List Sl)
  | [] => some []
  | r :: rs => match argSl S r, argSls S rs with
    | some x, some xs => some (x :: xs)
    | _, _ => none
/-- the slots whose own objects are handed over -/
def ownRefs (S : Sg) : List Rs → List Nat
  | [] => []
  | .ref i :: rs => match gt S i with
    | .own _ _ => i :: ownRefs S rs
    | _ => ownRefs S rs
  | _ :: rs => ownRefs S rs
def nodupB : List Nat → Bool
  | [] => true
  | x :: xs => !xs.contains x && nodupB xs
theorem nodupB_iff : ∀ {l : List Nat}, nodupB l = true → l.Nodup
  | [], _ => List.nodup_nil
  | x :: xs, h => by
    simp only [nodupB, Bool.and_eq_true, Bool.not_eq_true', List.contains_eq_mem, decide_eq_false_iff_not] at h
    exact List.nodup_cons.mpr ⟨h.1, nodupB_iff h.2⟩
/-- one result written back -/
def wb1 (S : Sg) : Rs → Sl → Option Sg
  | .ref i, x => match gt S i with
    | .own b _ => match x with
      | .own _ o => some (S.set i (.own b o))
      | _ => none
    | _ => some S
  | _, _ => some S
def wb (S : Sg) : List Rs → List Sl → Option Sg
  | [], [] => some S
  | r :: rs, x :: xs => (wb1 S r x).bind fun S1 => wb S1 rs xs
  | _, _ => none
def mCall (f : FM) (as : AM) : EM := fun S => (as S).bind fun rs S1 =>
  match argSls S1 rs with
  | none => .st
  | some sl => if nodupB (ownRefs S1 rs) then (match f sl with
    | .st => .st
    | .ok r outs => if notRef r then (match wb S1 rs outs with
      | some S2 => .ok r S2
      | none => .st) else .st
    | .ex c outs => match wb S1 rs outs with
      | some S2 => .ex c S2
      | none => .st) else .st

def isOwn : Sl → Bool
  | .own _ _ => true
  | _ => false
theorem mem_ownRefs {S : Sg} {i : Nat} : ∀ {rs : List Rs}, i ∈ ownRefs S rs ↔ (∃ k : Nat, rs[k]? = some (Rs.ref i)) ∧ isOwn (gt S i) = true
  | [] => by simp [ownRefs]
  | r :: rs => by
    have ih := mem_ownRefs (S := S) (i := i) (rs := rs)
    cases r with
    | d x =>
      simp only [ownRefs]; rw [ih]
      constructor
      · rintro ⟨⟨k, e⟩, o⟩; exact ⟨⟨k + 1, by simpa using e⟩, o⟩
      · rintro ⟨⟨k, e⟩, o⟩
        cases k with
        | zero => simp at e
        | succ k => exact ⟨⟨k, by simpa using e⟩, o⟩
    | tmp x =>
      simp only [ownRefs]; rw [ih]
      constructor
      · rintro ⟨⟨k, e⟩, o⟩; exact ⟨⟨k + 1, by simpa using e⟩, o⟩
      · rintro ⟨⟨k, e⟩, o⟩
        cases k with
        | zero => simp at e
        | succ k => exact ⟨⟨k, by simpa using e⟩, o⟩
    | ref j =>
      have key : i ∈ ownRefs S (.ref j :: rs) ↔ (isOwn (gt S j) = true ∧ i = j) ∨ i ∈ ownRefs S rs := by
        simp only [ownRefs]
        cases gt S j with
        | no => simp [isOwn]
        | lent => simp [isOwn]
        | d x => simp [isOwn]
        | own b o => simp [isOwn]
      rw [key, ih]
      constructor
      · rintro (⟨o, rfl⟩ | ⟨⟨k, e⟩, o⟩)
        · exact ⟨⟨0, by simp⟩, o⟩
        · exact ⟨⟨k + 1, by simpa using e⟩, o⟩
      · rintro ⟨⟨k, e⟩, o⟩
        cases k with
        | zero => simp at e; subst e; exact .inl ⟨o, rfl⟩
        | succ k => exact .inr ⟨⟨k, by simpa using e⟩, o⟩
theorem ownRefs_uniq {S : Sg} {i : Nat} (ho : isOwn (gt S i) = true) : ∀ {rs : List Rs} {k l : Nat}, (ownRefs S rs).Nodup → rs[k]? = some (.ref i) → rs[l]? = some (.ref i) → k = l
  | [], k, l, _, h, _ => by simp at h
  | r :: rs, k, l, nd, h1, h2 => by
    have nd' : (ownRefs S rs).Nodup := by
      cases r with
      | d x => exact nd
      | tmp x => exact nd
      | ref j =>
        simp only [ownRefs] at nd
        cases hj : gt S j with
        | no => rw [hj] at nd; exact nd
        | lent => rw [hj] at nd; exact nd
        | d x => rw [hj] at nd; exact nd
        | own b o => rw [hj] at nd; exact (List.nodup_cons.mp nd).2
    have hd : r = Rs.ref i → ∀ m : Nat, rs[m]? = some (Rs.ref i) → False := fun e m hm => by
      subst e
      simp only [ownRefs] at nd
      cases hj : gt S i with
      | no => rw [hj] at ho; cases ho
      | lent => rw [hj] at ho; cases ho
      | d x => rw [hj] at ho; cases ho
      | own b o =>
        rw [hj] at nd
        exact (List.nodup_cons.mp nd).1 (mem_ownRefs.mpr ⟨⟨m, hm⟩, ho⟩)
    cases k with
    | zero =>
      simp at h1
      cases l with
      | zero => rfl
      | succ l => exact (hd h1 l (by simpa using h2)).elim
    | succ k =>
      cases l with
      | zero => simp at h2; exact (hd h2 k (by simpa using h1)).elim
      | succ l => exact congrArg (· + 1) (ownRefs_uniq (k := k) (l := l) ho nd' (by simpa using h1) (by simpa using h2))
theorem wb1_spec {S S1 : Sg} {r : Rs} {x : Sl} (h : wb1 S r x = some S1) : S1.length = S.length ∧ (∀ i, isOwn (gt S1 i) = isOwn (gt S i)) ∧ (∀ i, r ≠ .ref i ∨ isOwn (gt S i) = false → gt S1 i = gt S i) ∧
    ∀ i b o, r = .ref i → gt S i = .own b o → ∃ b' o', x = .own b' o' ∧ gt S1 i = .own b o' := by
  cases r with
  | d y => cases h; exact ⟨rfl, fun _ => rfl, fun _ _ => rfl, fun i b o e => nomatch e⟩
  | tmp y => cases h; exact ⟨rfl, fun _ => rfl, fun _ _ => rfl, fun i b o e => nomatch e⟩
  | ref j =>
    simp only [wb1] at h
    cases hg : gt S j with
    | no => rw [hg] at h; cases h; exact ⟨rfl, fun _ => rfl, fun _ _ => rfl, fun i b o e e2 => by cases e; rw [hg] at e2; cases e2⟩
    | lent => rw [hg] at h; cases h; exact ⟨rfl, fun _ => rfl, fun _ _ => rfl, fun i b o e e2 => by cases e; rw [hg] at e2; cases e2⟩
    | d y => rw [hg] at h; cases h; exact ⟨rfl, fun _ => rfl, fun _ _ => rfl, fun i b o e e2 => by cases e; rw [hg] at e2; cases e2⟩
    | own b o =>
      rw [hg] at h
      cases x with
      | no => cases h
      | lent => cases h
      | d y => cases h
      | own b2 o2 =>
        cases h
        have hj : j < S.length := gt_lt (by rw [hg]; intro z; cases z)
        refine ⟨by simp, fun i => ?_, fun i hi => ?_, fun i b' o' e e2 => ?_⟩
        · by_cases q : j = i
          · subst q; rw [gt_set_same hj, hg]; rfl
          · rw [gt_set_ne q]
        · rcases hi with hi | hi
          · exact gt_set_ne fun q => hi (by rw [q])
          · refine gt_set_ne fun q => ?_
            subst q; rw [hg] at hi; cases hi
        · cases e; rw [hg] at e2; cases e2
          exact ⟨b2, o2, rfl, gt_set_same hj⟩
theorem ownRefs_congr {S S1 : Sg} (h : ∀ i, isOwn (gt S1 i) = isOwn (gt S i)) : ∀ rs, ownRefs S1 rs = ownRefs S rs
  | [] => rfl
  | .d x :: rs => by simp only [ownRefs]; exact ownRefs_congr h rs
  | .tmp x :: rs => by simp only [ownRefs]; exact ownRefs_congr h rs
  | .ref j :: rs => by
    simp only [ownRefs]
    rw [ownRefs_congr h rs]
    have := h j
    cases h1 : gt S1 j <;> cases h2 : gt S j <;> rw [h1, h2] at this <;> simp [isOwn] at this <;> rfl
theorem wb_spec : ∀ {rs : List Rs} {outs : List Sl} {S S' : Sg}, wb S rs outs = some S' → (ownRefs S rs).Nodup → outs.length = rs.length ∧ S'.length = S.length ∧ (∀ i, i ∉ ownRefs S rs → gt S' i = gt S i) ∧
    ∀ (k i : Nat) b o, rs[k]? = some (.ref i) → gt S i = .own b o → ∃ b' o', outs[k]? = some (.own b' o') ∧ gt S' i = .own b o'
  | [], [], S, S', h, _ => by cases h; exact ⟨rfl, rfl, fun _ _ => rfl, fun k i b o e => by simp at e⟩
  | [], _ :: _, _, _, h, _ => nomatch h
  | _ :: _, [], _, _, h, _ => nomatch h
  | r :: rs, x :: xs, S, S', h, nd => by
    simp only [wb] at h
    cases h1 : wb1 S r x with
    | none => rw [h1] at h; cases h
    | some S1 =>
      rw [h1] at h
      obtain ⟨l1, o1, n1, s1⟩ := wb1_spec h1
      have nd' : (ownRefs S rs).Nodup := by
        cases r with
        | d x => exact nd
        | tmp x => exact nd
        | ref j =>
          simp only [ownRefs] at nd
          cases hj : gt S j with
          | no => rw [hj] at nd; exact nd
          | lent => rw [hj] at nd; exact nd
          | d x => rw [hj] at nd; exact nd
          | own b o => rw [hj] at nd; exact (List.nodup_cons.mp nd).2
      obtain ⟨l2, l3, n2, s2⟩ := wb_spec (S := S1) (show wb S1 rs xs = some S' from h) (by rw [ownRefs_congr o1]; exact nd')
      rw [ownRefs_congr o1] at n2
      have hno : ∀ i, i ∉ ownRefs S (r :: rs) → i ∉ ownRefs S rs ∧ (r ≠ .ref i ∨ isOwn (gt S i) = false) := fun i hi => by
        rw [mem_ownRefs] at hi
        refine ⟨fun z => hi ?_, ?_⟩
        · obtain ⟨⟨k, e⟩, o⟩ := mem_ownRefs.mp z
          exact ⟨⟨k + 1, by simpa using e⟩, o⟩
        · by_cases q : r = .ref i
          · refine .inr ?_
            cases ho : isOwn (gt S i) with
            | false => rfl
            | true => exact absurd ⟨⟨0, by rw [q]; rfl⟩, ho⟩ hi
          · exact .inl q
      refine ⟨by simp [l2], l3.trans l1, fun i hi => ?_, fun k i b o hk hg => ?_⟩
      · obtain ⟨a1, a2⟩ := hno i hi
        rw [n2 i a1, n1 i a2]
      · cases k with
        | zero =>
          simp at hk
          obtain ⟨b', o', e1, e2⟩ := s1 i b o hk hg
          have : i ∉ ownRefs S rs := fun z => by
            obtain ⟨⟨m, hm⟩, ho⟩ := mem_ownRefs.mp z
            have := ownRefs_uniq (k := 0) (l := m + 1) ho nd (by simpa using hk) (by simpa using hm)
            cases this
          exact ⟨b', o', by simp [e1], by rw [n2 i this, e2]⟩
        | succ k =>
          have hk' : rs[k]? = some (.ref i) := by simpa using hk
          have ho : isOwn (gt S i) = true := by rw [hg]; rfl
          have hr : r ≠ .ref i := fun z => by
            have := ownRefs_uniq (k := 0) (l := k + 1) ho nd (by rw [z]; rfl) hk
            cases this
          have g1 : gt S1 i = .own b o := by rw [n1 i (.inl hr), hg]
          obtain ⟨b', o', e1, e2⟩ := s2 k i b o hk' g1
          exact ⟨b', o', by simpa using e1, e2⟩
theorem argSls_len {S : Sg} : ∀ {rs : List Rs} {sl : List Sl}, argSls S rs = some sl → sl.length = rs.length
  | [], sl, h => by cases h; rfl
  | r :: rs, sl, h => by
    simp only [argSls] at h
    cases h1 : argSl S r with
    | none => rw [h1] at h; cases h
    | some x =>
      cases h2 : argSls S rs with
      | none => rw [h1, h2] at h; cases h
      | some xs => rw [h1, h2] at h; cases h; simp [argSls_len h2]
theorem argSls_get {S : Sg} : ∀ {rs : List Rs} {sl : List Sl} {k : Nat} {r : Rs}, argSls S rs = some sl → rs[k]? = some r → ∃ x, argSl S r = some x ∧ gt sl k = x
  | [], sl, k, r, h, e => by simp at e
  | q :: rs, sl, k, r, h, e => by
    simp only [argSls] at h
    cases h1 : argSl S q with
    | none => rw [h1] at h; cases h
    | some x =>
      cases h2 : argSls S rs with
      | none => rw [h1, h2] at h; cases h
      | some xs =>
        rw [h1, h2] at h; cases h
        cases k with
        | zero => simp at e; subst e; exact ⟨x, h1, rfl⟩
        | succ k =>
          obtain ⟨y, e1, e2⟩ := argSls_get h2 (show rs[k]? = some r by simpa using e)
          exact ⟨y, e1, by unfold gt at e2 ⊢; simpa [List.getD] using e2⟩
def ArgAt (Z : Hp) (σ : L2.St) (t : Option (V × Ob)) (n k : Nat) (r : Rs) (v : V) : Prop := match r with
  | .d x => Rep Z v x
  | .ref i => σ[i]? = some (some v)
  | .tmp o => t = some (v, o) ∧ k + 1 = n
theorem RessOk.flat {F Z : Hp} {B : Nat → Option V} {S : Sg} {σ : L2.St} {H : Hp} : ∀ {rs : List Rs} {vs : List V}, RessOk F Z B S σ H rs vs → ∃ t, RepSt F Z B S σ H t ∧ ∀ k r v, rs[k]? = some r → vs[k]? = some v → ArgAt Z σ t rs.length k r v
  | [], vs, h => ⟨none, h.2, fun k r v e => by simp at e⟩
  | [q], vs, h => by
    obtain ⟨v, e, hr⟩ := h
    subst e
    have key : ∀ {k : Nat} {r : Rs} {w : V}, [q][k]? = some r → [v][k]? = some w → k = 0 ∧ q = r ∧ v = w := fun {k r w} e1 e2 => by
      cases k with
      | zero => simp at e1 e2; exact ⟨rfl, e1, e2⟩
      | succ k => simp at e1
    cases q with
    | d x => exact ⟨none, hr.1, fun k r w e1 e2 => by obtain ⟨rfl, rfl, rfl⟩ := key e1 e2; exact hr.2⟩
    | ref i => exact ⟨none, hr.1, fun k r w e1 e2 => by obtain ⟨rfl, rfl, rfl⟩ := key e1 e2; exact hr.2⟩
    | tmp o => exact ⟨some (v, o), hr, fun k r w e1 e2 => by obtain ⟨rfl, rfl, rfl⟩ := key e1 e2; exact ⟨rfl, rfl⟩⟩
  | q :: p :: rs, vs, h => by
    obtain ⟨v, ws, e, k1, h2⟩ := h
    subst e
    obtain ⟨t, R, ih⟩ := RessOk.flat h2
    refine ⟨t, R, fun k r w e1 e2 => ?_⟩
    cases k with
    | zero =>
      simp at e1 e2; subst e1; subst e2
      cases q with
      | d x => exact k1
      | ref i => exact k1
      | tmp o => exact k1.elim
    | succ k =>
      have := ih k r w (by simpa using e1) (by simpa using e2)
      cases r with
      | d x => exact this
      | ref i => exact this
      | tmp o => exact ⟨this.1, by rw [List.length_cons, ← this.2]⟩
open Classical in
/-- over to the callee, and back -/
theorem call_split {F Z : Hp} {B : Nat → Option V} {S : Sg} {σ : L2.St} {H : Hp} {rs : List Rs} {vs : List V} {sl : List Sl} (h : RessOk F Z B S σ H rs vs) (hs : argSls S rs = some sl) (nd : (ownRefs S rs).Nodup) :
    ∃ F', RepSt F' Z (ancs vs) sl (vs.map some) H none ∧ ∀ Z' H' outs t S', Ex Z Z' → RepSt F' Z' (ancs vs) outs (vs.map some) H' t → wb S rs outs = some S' → RepSt F Z' B S' σ H' t := by
  have hlen := h.len
  have hsl := argSls_len hs
  obtain ⟨t0, R, at_⟩ := h.flat
  obtain ⟨hl, eF, eZ, dj, fp, h1, h2, h3, h4⟩ := R
  obtain ⟨fpc, hfpc⟩ : ∃ fpc : Nat → List Addr, fpc = fun k => match rs[k]? with
    | some (.ref i) => if isOwn (gt S i) then fp (some i) else []
    | some (.tmp _) => fp none
    | _ => [] := ⟨_, rfl⟩
  have fpc_in : ∀ k a, a ∈ fpc k → (∃ i, rs[k]? = some (.ref i) ∧ isOwn (gt S i) = true ∧ a ∈ fp (some i)) ∨ ((∃ o, rs[k]? = some (.tmp o)) ∧ a ∈ fp none) := fun k a ha => by
    rw [hfpc] at ha
    dsimp only at ha
    split at ha
    · rename_i i e
      split at ha
      · rename_i o; exact .inl ⟨i, e, o, ha⟩
      · cases ha
    · rename_i o e; exact .inr ⟨⟨o, e⟩, ha⟩
    · cases ha
  have vat : ∀ k r, rs[k]? = some r → ∃ v, vs[k]? = some v := fun k r e => by
    have : k < vs.length := by rw [hlen]; exact (List.getElem?_eq_some_iff.mp e).1
    exact ⟨_, List.getElem?_eq_getElem this⟩
  have tmp_last : ∀ k o, rs[k]? = some (.tmp o) → k + 1 = rs.length := fun k o e => by
    obtain ⟨v, hv⟩ := vat k _ e
    exact (at_ k _ v e hv).2
  refine ⟨fun a => if ∃ i, a ∈ fp (some i) ∧ i ∉ ownRefs S rs then H a else F a, ?_, ?_⟩
  · have nF' : ∀ j a, (j = none ∨ ∃ i, j = some i ∧ i ∈ ownRefs S rs) → a ∈ fp j → (if ∃ i, a ∈ fp (some i) ∧ i ∉ ownRefs S rs then H a else F a) = none := fun j a hj ha => by
      rw [if_neg]
      · exact (h3 j a ha).2
      · rintro ⟨i, hi, hn⟩
        have := h4 _ _ a ha hi
        rcases hj with rfl | ⟨i', rfl, hi'⟩
        · cases this
        · cases this; exact hn hi'
    refine ⟨by rw [hsl, List.length_map, hlen], fun a o e => ?_, eZ, fun a ha => ?_, fun j => match j with | none => [] | some k => fpc k, fun k => ?_, rfl, fun j a ha => ?_, fun i j a hi hj => ?_⟩
    · by_cases q : ∃ i, a ∈ fp (some i) ∧ i ∉ ownRefs S rs
      · simp only [if_pos q] at e; exact e
      · simp only [if_neg q] at e; exact eF a o e
    · by_cases q : ∃ i, a ∈ fp (some i) ∧ i ∉ ownRefs S rs
      · obtain ⟨i, hi, _⟩ := q; exact (h3 _ a hi).1
      · simp only [if_neg q] at ha; exact dj a ha
    · cases hr : rs[k]? with
      | none =>
        have g0 : gt sl k = .no := by
          unfold gt; rw [List.getD, List.getElem?_eq_none (by rw [hsl]; exact List.getElem?_eq_none_iff.mp hr)]; rfl
        rw [g0]
        show fpc k = []
        rw [hfpc]; dsimp only; rw [hr]
      | some r =>
        obtain ⟨x, ex, gx⟩ := argSls_get hs hr
        obtain ⟨v, hv⟩ := vat k r hr
        have hat := at_ k r v hr hv
        have hvm : (vs.map some)[k]? = some (some v) := by rw [List.getElem?_map, hv]; rfl
        rw [gx]
        cases r with
        | d y =>
          cases ex
          refine ⟨?_, v, hvm, hat⟩
          show fpc k = []
          rw [hfpc]; dsimp only; rw [hr]
        | tmp o =>
          cases ex
          have hfk : fpc k = fp none := by rw [hfpc]; dsimp only; rw [hr]
          refine ⟨v, hvm, ?_, fun _ => hv⟩
          show Holds Z H v o (fpc k)
          rw [hfk]
          rw [hat.1] at h2
          exact h2
        | ref i =>
          simp only [argSl] at ex
          have hat : σ[i]? = some (some v) := hat
          have hsi := h1 i
          cases hg : gt S i with
          | no => rw [hg] at ex; cases ex
          | lent => rw [hg] at ex; cases ex
          | d y =>
            rw [hg] at ex hsi; cases ex
            obtain ⟨_, w, hw, hr'⟩ := hsi
            rw [hat] at hw; cases hw
            refine ⟨?_, v, hvm, hr'⟩
            show fpc k = []
            rw [hfpc]; dsimp only; rw [hr]
            dsimp only
            rw [hg]; rfl
          | own b o =>
            rw [hg] at ex hsi; cases ex
            obtain ⟨w, hw, hr', _⟩ := hsi
            rw [hat] at hw; cases hw
            have hfk : fpc k = fp (some i) := by rw [hfpc]; dsimp only; rw [hr]; dsimp only; rw [hg]; rfl
            refine ⟨v, hvm, ?_, fun _ => hv⟩
            show Holds Z H v o (fpc k)
            rw [hfk]; exact hr'
    · cases j with
      | none => simp at ha
      | some k =>
        rcases fpc_in k a ha with ⟨i, e, o, hi⟩ | ⟨⟨o, e⟩, hi⟩
        · exact ⟨(h3 _ a hi).1, nF' (some i) a (.inr ⟨i, rfl, mem_ownRefs.mpr ⟨⟨k, e⟩, o⟩⟩) hi⟩
        · exact ⟨(h3 _ a hi).1, nF' none a (.inl rfl) hi⟩
    · cases i with
      | none => simp at hi
      | some k =>
        cases j with
        | none => simp at hj
        | some l =>
          rcases fpc_in k a hi with ⟨i1, e1, o1, m1⟩ | ⟨⟨o1, e1⟩, m1⟩ <;> rcases fpc_in l a hj with ⟨i2, e2, o2, m2⟩ | ⟨⟨o2, e2⟩, m2⟩
          · have := h4 _ _ a m1 m2
            cases this
            rw [ownRefs_uniq o1 nd e1 e2]
          · have := h4 _ _ a m1 m2; cases this
          · have := h4 _ _ a m1 m2; cases this
          · have a1 := tmp_last k o1 e1
            have a2 := tmp_last l o2 e2
            have : k = l := by omega
            rw [this]
  · intro Z' H' outs t S' eZZ R2 hwb
    obtain ⟨w1, w2, w3, w4⟩ := wb_spec hwb nd
    obtain ⟨hl2, eF2, eZ2, dj2, fp2, g1, g2, g3, g4⟩ := R2
    obtain ⟨fp3, hfp3⟩ : ∃ fp3 : Option Nat → List Addr, fp3 = fun j => match j with
      | none => fp2 none
      | some i => if q : (∃ k : Nat, rs[k]? = some (Rs.ref i)) ∧ isOwn (gt S i) = true then fp2 (some (Classical.choose q.1)) else fp (some i) := ⟨_, rfl⟩
    have inF : ∀ i a, i ∉ ownRefs S rs → a ∈ fp (some i) → H' a = H a ∧ H a ≠ none ∧ Z' a = none ∧ F a = none := fun i a hi ha => by
      have q : ∃ i, a ∈ fp (some i) ∧ i ∉ ownRefs S rs := ⟨i, ha, hi⟩
      have hn : H a ≠ none := (h1 i).there a ha
      cases hH : H a with
      | none => exact absurd hH hn
      | some o =>
        have e1 := eF2 a o (by simp only [if_pos q]; exact hH)
        exact ⟨e1, by simp, dj2 a (by simp only [if_pos q, hH]; simp), (h3 _ a ha).2⟩
    have f2F : ∀ j a, a ∈ fp2 j → F a = none ∧ ∀ i, i ∉ ownRefs S rs → a ∉ fp (some i) := fun j a ha => by
      have z := (g3 j a ha).2
      by_cases q : ∃ i, a ∈ fp (some i) ∧ i ∉ ownRefs S rs
      · simp only [if_pos q] at z
        obtain ⟨i, hi, hn⟩ := q
        exact absurd z ((h1 i).there a hi)
      · simp only [if_neg q] at z
        exact ⟨z, fun i hi hm => q ⟨i, hm, hi⟩⟩
    have cases3 : ∀ j a, a ∈ fp3 j → (∃ m, a ∈ fp2 m ∧ ((j = none ∧ m = none) ∨ ∃ i k, j = some i ∧ m = some k ∧ rs[k]? = some (.ref i) ∧ isOwn (gt S i) = true)) ∨ (∃ i, j = some i ∧ i ∉ ownRefs S rs ∧ a ∈ fp (some i)) := fun j a ha => by
      rw [hfp3] at ha
      cases j with
      | none => exact .inl ⟨none, ha, .inl ⟨rfl, rfl⟩⟩
      | some i =>
        dsimp only at ha
        by_cases q : (∃ k : Nat, rs[k]? = some (Rs.ref i)) ∧ isOwn (gt S i) = true
        · rw [dif_pos q] at ha
          exact .inl ⟨_, ha, .inr ⟨i, _, rfl, rfl, Classical.choose_spec q.1, q.2⟩⟩
        · rw [dif_neg q] at ha
          exact .inr ⟨i, rfl, fun z => q (mem_ownRefs.mp z), ha⟩
    refine ⟨by rw [w2, hl], fun a o e => eF2 a o ?_, eZ2, fun a ha => ?_, fp3, fun i => ?_, ?_, fun j a ha => ?_, fun i j a hi hj => ?_⟩
    · by_cases q : ∃ i, a ∈ fp (some i) ∧ i ∉ ownRefs S rs
      · obtain ⟨i, hi, _⟩ := q
        rw [(h3 _ a hi).2] at e; cases e
      · simp only [if_neg q]; exact e
    · refine dj2 a ?_
      by_cases q : ∃ i, a ∈ fp (some i) ∧ i ∉ ownRefs S rs
      · obtain ⟨i, hi, _⟩ := q
        exact absurd (h3 _ a hi).2 ha
      · simp only [if_neg q]; exact ha
    · by_cases q : (∃ k : Nat, rs[k]? = some (Rs.ref i)) ∧ isOwn (gt S i) = true
      · have hf3 : fp3 (some i) = fp2 (some (Classical.choose q.1)) := by rw [hfp3]; dsimp only; rw [dif_pos q]
        have hk := Classical.choose_spec q.1
        generalize hck : Classical.choose q.1 = k at hf3 hk
        rw [hf3]
        obtain ⟨v, hv⟩ := vat k _ hk
        have hat : σ[i]? = some (some v) := at_ k _ v hk hv
        have hvm : (vs.map some)[k]? = some (some v) := by rw [List.getElem?_map, hv]; rfl
        cases hg : gt S i with
        | no => rw [hg] at q; cases q.2
        | lent => rw [hg] at q; cases q.2
        | d y => rw [hg] at q; cases q.2
        | own b o =>
          obtain ⟨b', o', e1, e2⟩ := w4 k i b o hk hg
          have hsk := g1 k
          have : gt outs k = .own b' o' := by unfold gt; rw [List.getD, e1]; rfl
          rw [this] at hsk
          obtain ⟨w, hw, hh, _⟩ := hsk
          rw [hvm] at hw; cases hw
          rw [e2]
          have hsi := h1 i
          rw [hg] at hsi
          obtain ⟨w', hw', _, han⟩ := hsi
          rw [hat] at hw'; cases hw'
          exact ⟨v, hat, hh, han⟩
      · have hf3 : fp3 (some i) = fp (some i) := by rw [hfp3]; dsimp only; rw [dif_neg q]
        have hni : i ∉ ownRefs S rs := fun z => q (mem_ownRefs.mp z)
        rw [hf3, w3 i hni]
        exact ((h1 i).mono eZZ).at fun a ha => (inF i a hni ha).1
    · rw [hfp3]; exact g2
    · rcases cases3 j a ha with ⟨m, hm, _⟩ | ⟨i, rfl, hn, hi⟩
      · exact ⟨(g3 m a hm).1, (f2F m a hm).1⟩
      · obtain ⟨_, _, c, d⟩ := inF i a hn hi
        exact ⟨c, d⟩
    · rcases cases3 i a hi with ⟨m, hm, cm⟩ | ⟨i1, rfl, hn, hi1⟩ <;> rcases cases3 j a hj with ⟨m', hm', cm'⟩ | ⟨i2, rfl, hn', hi2⟩
      · have := g4 _ _ a hm hm'
        subst this
        rcases cm with ⟨rfl, rfl⟩ | ⟨i1, k1, rfl, rfl, e1, _⟩ <;> rcases cm' with ⟨rfl, e⟩ | ⟨i2, k2, rfl, e, e2, _⟩
        · rfl
        · cases e
        · cases e
        · cases e; rw [e1] at e2; cases e2; rfl
      · exact absurd hi2 ((f2F m a hm).2 i2 hn')
      · exact absurd hi1 ((f2F m' a hm').2 i1 hn)
      · exact h4 _ _ a hi1 hi2
end Ev

namespace Ev
open PySem PySem.Spec L2

/-! ### exceptions -/
def WXof (mg : Str → Option Value) (W : WM) : WX := fun cls d σ H => ∃ c C, mg c = some (.ref C) ∧ cls = .ref C ∧ d = none ∧ W c σ H
abbrev Tk (X : Cx) (W : WM) : Prop := Takes X (WXof X.mg W)
abbrev W0 : WM := fun _ _ _ => False
theorem tk0 {X : Cx} : Tk X W0 := takes0.imp fun c d σ H ⟨_, _, _, _, _, h⟩ => h
/-- in a def: what it may let out -/
def Wf (mg : Str → Option Value) (E : XK) : WM := fun c _ H => ∀ C, mg c = some (.ref C) → E (.ref C) none H

/-! ### calls -/
structure JL (X : Cx) (W : WM) (es : List Expr) (m : AM) : Prop where
  run : JA X W es m
  len : ∀ S S' rs, m S = .ok rs S' → rs.length = es.length
section
variable {X : Cx} {W : WM} {e e2 : Expr} {es : List Expr} {a : EM} {r : AM}
theorem jl_nil : JL X W [] aNil := ⟨ja_nil, fun S S' rs h => by cases h; rfl⟩
theorem jl_last (ha : JE X W e a) (hs : starEach [e] X.env = (false, eval e X.env) :: starEach [] X.env := by rfl) : JL X W [e] (aLast a) := ⟨ja_last ha hs, fun S S' rs h => by
  unfold aLast at h
  cases hm : a S with
  | st => rw [hm] at h; cases h
  | ex c s => rw [hm] at h; cases h
  | ok q s => rw [hm] at h; cases h; rfl⟩
theorem jl_cons (ha : JE X W e a) (hr : JL X W (e2 :: es) r) (hs : starEach (e :: e2 :: es) X.env = (false, eval e X.env) :: starEach (e2 :: es) X.env := by rfl) : JL X W (e :: e2 :: es) (aCons a r) :=
  ⟨ja_cons ha hr.run (fun S S' rs h => by have := hr.len S S' rs h; intro z; rw [z] at this; cases this) hs, fun S S' rs h => by
    unfold aCons at h
    cases hm : frz a S with
    | st => rw [hm] at h; cases h
    | ex c s => rw [hm] at h; cases h
    | ok q s =>
      rw [hm] at h
      simp only [bind_ok] at h
      cases hq : r s with
      | st => rw [hq] at h; cases h
      | ex c s => rw [hq] at h; cases h
      | ok xs s2 => rw [hq] at h; cases h; rw [List.length_cons, hr.len _ _ _ hq]; rfl⟩
end
theorem ResOk.of_callee {F F' Z' : Hp} {B : Nat → Option V} {S' : Sg} {σ : L2.St} {H' : Hp} {vs : List V} {outs : List Sl} {r : Rs} {v : V} (hn : notRef r = true) (h : ResOk F' Z' (ancs vs) outs (vs.map some) H' r v)
    (back : ∀ t, RepSt F' Z' (ancs vs) outs (vs.map some) H' t → RepSt F Z' B S' σ H' t) : ResOk F Z' B S' σ H' r v := by
  cases r with
  | d x => exact ⟨back _ h.1, h.2⟩
  | ref i => cases hn
  | tmp o => exact back _ h
theorem call_sp {X : Cx} {W : WM} {np : Nat} {f : FM} {as : AM} {σ : L2.St} {H : Hp} {Q : VK} (hl : ∀ S S' rs, as S = .ok rs S' → rs.length = np) (h : tE W (mCall f as) σ H Q) : tA W as σ H fun vs H1 => spF X.mg np f vs H1 Q fun cls d H' => WXof X.mg W cls d σ H' := by
  obtain ⟨F, Z, B, S, R, p⟩ := h
  refine ⟨F, Z, B, S, R, ?_⟩
  revert p
  simp only [mCall]
  cases ha : as S with
  | st => exact fun p => p
  | ex c S1 => exact fun p => p
  | ok rs S1 =>
    intro p Z1 H1 vs e1 hr
    simp only [bind_ok] at p
    cases hs : argSls S1 rs with
    | none => rw [hs] at p; exact p.elim
    | some sl =>
      rw [hs] at p
      dsimp only at p
      by_cases hnd : nodupB (ownRefs S1 rs) = true
      · rw [if_pos hnd] at p
        obtain ⟨F', R', back⟩ := call_split hr hs (nodupB_iff hnd)
        refine ⟨F', Z1, sl, by rw [hr.len, hl _ _ _ ha], R', ?_⟩
        revert p
        cases f sl with
        | st => exact fun p => p
        | ok r outs =>
          intro p Z2 H2 v e2 hres hn
          dsimp only at p
          rw [if_pos hn] at p
          cases hw : wb S1 rs outs with
          | none => rw [hw] at p; exact p.elim
          | some S2 =>
            rw [hw] at p
            exact p Z2 H2 v (e1.trans e2) (hres.of_callee hn fun t R2 => back Z2 H2 outs t S2 e2 R2 hw)
        | ex c outs =>
          intro p Z2 H2 e2 R2 C hC
          dsimp only at p
          cases hw : wb S1 rs outs with
          | none => rw [hw] at p; exact p.elim
          | some S2 =>
            rw [hw] at p
            exact ⟨c, C, hC, rfl, rfl, p Z2 H2 (e1.trans e2) (back Z2 H2 outs none S2 e2 R2 hw)⟩
      · rw [if_neg hnd] at p; exact p.elim
section
variable {X : Cx} {W : WM} {k np : Nat} {f : Addr} {fd : FuncData} {ps : List Str} {fm : FM} {x : Str} {p pos : Pos} {e : Expr} {es : List Expr} {as : AM}
/-- f(e, ..) -/
theorem je_call (F : FnOk X.prog X.w X.K X.mg X.base (L2.CX X.prog X.w) k f fd ps (spF X.mg np fm)) (hr : Room k X.A) (hm : X.mg x = some (.ref f)) (hk : PySem.W.keepIn X.K (.ref f) = true) (hb : Binds X.K fd ps []) (tk : Tk X W) (hg : Gl X x)
    (ha : JL X W (e :: es) as) (hnp : (e :: es).length = np) (hdb : (x == ("__debug__" : Str)) = false := by decide) (he : starEach (e :: es) X.env = (false, eval e X.env) :: starEach es X.env := by rfl) (hpl : (backTo pos (starEach es X.env)).any (·.1) = false := by rfl) :
    JE X W (.Call (.Name x p) (e :: es) [] pos) (mCall fm as) :=
  ⟨PE.imp (pe_callS (E := fun σ => L2.WE (WXof X.mg W) σ) F hr hg hm hk hb (fun σ => passAt tk σ) ha.run.run hdb he hpl) fun σ H Q h => call_sp (fun S S' rs h => by rw [ha.len S S' rs h, hnp]) h⟩
end

/-! ### statements -/
def mSeq (a b : SM) : SM := fun S => match a S with
  | .ok .nx S1 => b S1
  | o => o
def mNx : SM := fun S => .ok .nx S
def mBk : SM := fun S => .ok .bk S
def mCt : SM := fun S => .ok .ct S
def mDrop (m : EM) : SM := fun S => (m S).bind fun _ S1 => .ok .nx S1
section
variable {X : Cx} {W : WM} {st : Stmt} {rest : List Stmt} {a b : SM} {e : Expr} {m : EM} {pos : Pos} {c : Expr} {mc : TM}
theorem jb_nil : JB X W [] mNx := ⟨PSs.imp pss_nil fun E σ H h => by
  obtain ⟨F, Z, B, S, R, p⟩ := h
  exact p Z σ H (Ex.refl Z) R⟩
theorem jb_cons (h1 : JS X W st a) (h2 : JB X W rest b) : JB X W (st :: rest) (mSeq a b) := by
  refine ⟨PSs.imp (pss_cons h1.run h2.run) fun E σ H h => ?_⟩
  obtain ⟨F, Z, B, S, R, p⟩ := h
  refine ⟨F, Z, B, S, R, ?_⟩
  revert p
  simp only [mSeq]
  cases a S with
  | st => exact fun p => p
  | ex c S1 => exact fun p => p
  | ok fl S1 =>
    cases fl with
    | nx => exact fun p Z' σ' H' e R' => ⟨F, Z', B, S1, R', p.mono e⟩
    | bk => exact fun p => p
    | ct => exact fun p => p
    | rt r => exact fun p => p
theorem jb_one (h1 : JS X W st a) : JB X W [st] a := ⟨pss_one h1.run⟩
theorem js_pass : JS X W (.Pass pos) mNx := ⟨PS.imp ps_pass fun E σ H h => by
  obtain ⟨F, Z, B, S, R, p⟩ := h
  exact p Z σ H (Ex.refl Z) R⟩
theorem js_break : JS X W (.Break pos) mBk := ⟨PS.imp ps_break fun E σ H h => by
  obtain ⟨F, Z, B, S, R, p⟩ := h
  exact p Z σ H (Ex.refl Z) R⟩
theorem js_continue : JS X W (.Continue pos) mCt := ⟨PS.imp ps_continue fun E σ H h => by
  obtain ⟨F, Z, B, S, R, p⟩ := h
  exact p Z σ H (Ex.refl Z) R⟩
theorem ResOk.any {F Z : Hp} {B : Nat → Option V} {S : Sg} {σ : L2.St} {H : Hp} {r : Rs} {v : V} (h : ResOk F Z B S σ H r v) : RepSt F Z B S σ H none := by
  cases r with
  | d x => exact h.1
  | ref i => exact h.1
  | tmp o => exact RepSt.drop h
theorem js_expr (he : JE X W e m) (hs : swapsWith e none pos.line X.env = pure false := by rfl) : JS X W (.Expr e pos) (mDrop m) :=
  ⟨PS.imp (ps_expr he.run hs) fun E σ H h => tE_bindS h fun F Z B S r v H1 hr p => p Z σ H1 (Ex.refl Z) hr.any⟩
theorem js_if {x y : List Stmt} (hc : JT X W c mc) (ha : JB X W x a) (hb : JB X W y b) : JS X W (.If c x y pos) (mIte mc a b) :=
  ⟨PS.imp (ps_if hc.run ha.run hb.run) fun E σ H h => tT_bindS h fun F Z B S k H1 R p => by
    cases k with
    | true => exact iteT ⟨F, Z, B, S, R, p⟩
    | false => exact iteF ⟨F, Z, B, S, R, p⟩⟩

/-! #### return -/
def giveR (r : Rs) (S : Sg) : Option (Rs × Sg) := match r with
  | .d x => some (.d x, S)
  | .tmp o => some (.tmp o, S)
  | .ref i => match gt S i with
    | .d x => some (.d x, S)
    | .own false o => some (.tmp o, S.set i .no)
    | _ => none
def mRet (m : EM) : SM := fun S => (m S).bind fun r S1 => match giveR r S1 with
  | some (r2, S2) => .ok (.rt r2) S2
  | none => .st
theorem give_ok {F Z : Hp} {B : Nat → Option V} {S S2 : Sg} {σ : L2.St} {H : Hp} {r r2 : Rs} {v : V} (h : ResOk F Z B S σ H r v) (e : giveR r S = some (r2, S2)) : ResOk F Z B S2 σ H r2 v := by
  cases r with
  | d x => cases e; exact h
  | tmp o => cases e; exact h
  | ref i =>
    obtain ⟨R, hv⟩ := h
    simp only [giveR] at e
    cases hg : gt S i with
    | no => rw [hg] at e; cases e
    | lent => rw [hg] at e; cases e
    | d x =>
      rw [hg] at e; cases e
      obtain ⟨fp, hs⟩ := R.slot i
      rw [hg] at hs
      obtain ⟨_, w, hw, hr⟩ := hs
      rw [hv] at hw; cases hw
      exact ⟨R, hr⟩
    | own b o =>
      rw [hg] at e
      cases b with
      | true => cases e
      | false =>
        cases e
        obtain ⟨w, hw, R'⟩ := R.take hg
        rw [hv] at hw; cases hw
        exact R'
theorem js_ret (he : JE X W e m) : JS X W (.Return (some e) pos) (mRet m) :=
  ⟨PS.imp (ps_ret he.run) fun E σ H h => tE_bindS h fun F Z B S r v H1 hr p => by
    cases hg : giveR r S with
    | none => rw [hg] at p; exact p.elim
    | some q =>
      obtain ⟨r2, S2⟩ := q
      rw [hg] at p
      exact p Z σ H1 v (Ex.refl Z) (give_ok hr hg)⟩
def mRetN : SM := fun S => .ok (.rt (.d .none)) S
theorem js_retN : JS X W (.Return none pos) mRetN := ⟨PS.imp ps_retN fun E σ H h => by
  obtain ⟨F, Z, B, S, R, p⟩ := h
  exact p Z σ H .non (Ex.refl Z) ⟨R, .non⟩⟩

/-! #### names stored -/
/-- may the slot be stored to -/
def free : Sl → Bool
  | .own true _ => false
  | .lent => false
  | _ => true
def setD (i : Nat) (x : D) (S : Sg) : Option Sg := if free (gt S i) then some (S.set i (.d x)) else none
def setR (i : Nat) (r : Rs) (S : Sg) : Option Sg := match r with
  | .tmp o => if free (gt S i) then some (S.set i (.own false o)) else none
  | r => match share r S with
    | some (x, S1) => setD i x S1
    | none => none
def mSet (i : Nat) (m : EM) : SM := fun S => (m S).bind fun r S1 => match setR i r S1 with
  | some S2 => .ok .nx S2
  | none => .st
theorem setD_ok {F Z : Hp} {B : Nat → Option V} {S S2 : Sg} {σ : L2.St} {H : Hp} {i : Nat} {x : D} {v : V} {t : Option (V × Ob)} (R : RepSt F Z B S σ H t) (r : Rep Z v x) (h : setD i x S = some S2) : RepSt F Z B S2 (σ.set i (some v)) H t := by
  unfold setD at h
  split at h
  · cases h; exact R.setD r
  · cases h
theorem setR_ok {F Z : Hp} {B : Nat → Option V} {S S2 : Sg} {σ : L2.St} {H : Hp} {i : Nat} {r : Rs} {v : V} (hr : ResOk F Z B S σ H r v) (h : setR i r S = some S2) : ∃ Z', Ex Z Z' ∧ RepSt F Z' B S2 (σ.set i (some v)) H none := by
  cases r with
  | tmp o =>
    simp only [setR] at h
    split at h
    · cases h; exact ⟨Z, Ex.refl Z, RepSt.setO hr⟩
    · cases h
  | d x =>
    simp only [setR, share] at h
    exact ⟨Z, Ex.refl Z, setD_ok hr.1 hr.2 h⟩
  | ref j =>
    simp only [setR] at h
    cases hs : share (.ref j) S with
    | none => rw [hs] at h; cases h
    | some q =>
      obtain ⟨x, S1⟩ := q
      rw [hs] at h
      obtain ⟨Z', e, R', rep⟩ := share_ok hr hs
      exact ⟨Z', e, setD_ok R' rep h⟩
theorem js_set {i : Nat} {x : Str} {pos' : Pos} (hN : X.N.Nodup) (he : JE X W e m) (hi : X.N[i]? = some x := by rfl) (hx : Loc X.env.scope x := by first | exact Or.inl rfl | exact Or.inr rfl) (hs : swapsWith e (some (.Name x pos')) pos.line X.env = pure false := by rfl) (hf : X.fn x = true ∨ X.env.scope.names.lookup x = some .local := by first | exact .inl rfl | exact .inr rfl | assumption) :
    JS X W (.Assign [.Name x pos'] e pos) (mSet i m) :=
  ⟨PS.imp (ps_set hN hi hx he.run hs hf) fun E σ H h => tE_bindS h fun F Z B S r v H1 hr p => by
    cases hg : setR i r S with
    | none => rw [hg] at p; exact p.elim
    | some S2 =>
      rw [hg] at p
      obtain ⟨Z', e, R'⟩ := setR_ok hr hg
      exact p Z' _ H1 e R'⟩
end
end Ev

namespace Ev
open PySem PySem.Spec L2

/-! ### targets -/
abbrev GM := D → Sg → Option Sg
/-- nothing but the slots is differs -/
def Off (is : List Nat) (σ σ' : L2.St) : Prop := σ'.length = σ.length ∧ ∀ i, i ∉ is → σ'[i]? = σ[i]?
theorem Off.refl {is : List Nat} {σ : L2.St} : Off is σ σ := ⟨rfl, fun _ _ => rfl⟩
theorem Off.cons {is js : List Nat} {σ σ1 σ2 : L2.St} (a : Off is σ σ1) (b : Off js σ1 σ2) : Off (is ++ js) σ σ2 := ⟨b.1.trans a.1, fun i hi => by
  simp only [List.mem_append, not_or] at hi
  exact (b.2 i hi.2).trans (a.2 i hi.1)⟩
def tG (f : GM) (is : List Nat) : TG := fun v σ H Q => ∃ F Z B S t d S', RepSt F Z B S σ H t ∧ Rep Z v d ∧ f d S = some S' ∧ ∀ σ', Off is σ σ' → RepSt F Z B S' σ' H t → Q σ' H
structure JG (X : Cx) (tg : Expr) (f : GM) (is : List Nat) : Prop where
  run : PG X tg (tG f is)
def gSeq : List GM → List D → Sg → Option Sg
  | [], [], S => some S
  | g :: gs, d :: ds, S => (g d S).bind fun S1 => gSeq gs ds S1
  | _, _, _ => none
def tGs (fs : List GM) (is : List Nat) : TGs := fun vs σ H Q => ∃ F Z B S t ds S', RepSt F Z B S σ H t ∧ Reps Z vs ds ∧ gSeq fs ds S = some S' ∧ ∀ σ', Off is σ σ' → RepSt F Z B S' σ' H t → Q σ' H
structure JGs (X : Cx) (tg : List Expr) (f : List GM) (is : List Nat) : Prop where
  run : PGs X tg (tGs f is)
/-- a, b, .. -/
def gTupM (fs : List GM) : GM := fun d S => match d with
  | .tuple ds => if ds.length = fs.length then gSeq fs ds S else none
  | _ => none
section
variable {X : Cx} {tg : Expr} {tgs : List Expr} {f : GM} {fs : List GM} {pos : Pos} {is js : List Nat}
theorem PG.imp {t t' : TG} (h : PG X tg t) (i : ∀ v σ H Q, t' v σ H Q → t v σ H Q) : PG X tg t' := ⟨fun pins s σ H v u Q I r hq => h.run pins s σ H v u Q I r (i v σ H Q hq)⟩
theorem PGs.imp {t t' : TGs} (h : PGs X tgs t) (i : ∀ v σ H Q, t' v σ H Q → t v σ H Q) : PGs X tgs t' := ⟨fun pins s σ H v u Q I r hq => h.run pins s σ H v u Q I r (i v σ H Q hq)⟩
theorem jg_name {i : Nat} {x : Str} (hN : X.N.Nodup) (hi : X.N[i]? = some x := by rfl) (hx : Loc X.env.scope x := by first | exact Or.inl rfl | exact Or.inr rfl) (hf : X.fn x = true ∨ X.env.scope.names.lookup x = some .local := by first | exact .inl rfl | exact .inr rfl | assumption) :
    JG X (.Name x pos) (setD i) [i] :=
  ⟨PG.imp (pg_name hN hi hx hf) fun v σ H Q h => by
    obtain ⟨F, Z, B, S, t, d, S', R, r, e, k⟩ := h
    refine k _ ⟨by simp, fun j hj => ?_⟩ (setD_ok R r e)
    simp only [List.mem_singleton] at hj
    rw [List.getElem?_set_ne (Ne.symm hj)]⟩
theorem jgs_nil : JGs X [] [] [] := ⟨PGs.imp pgs_nil fun vs σ H Q h => by
  obtain ⟨F, Z, B, S, t, ds, S', R, r, e, k⟩ := h
  cases ds with
  | nil => cases r; cases e; exact ⟨rfl, k _ Off.refl R⟩
  | cons d ds => cases e⟩
theorem jgs_cons (h1 : JG X tg f is) (h2 : JGs X tgs fs js) (hs : (assignEach (tg :: tgs) X.env).map (·.2) = assign tg X.env :: (assignEach tgs X.env).map (·.2) := by rfl) : JGs X (tg :: tgs) (f :: fs) (is ++ js) :=
  ⟨PGs.imp (pgs_cons h1.run h2.run hs) fun vs σ H Q h => by
    obtain ⟨F, Z, B, S, t, ds, S', R, r, e, k⟩ := h
    cases ds with
    | nil => cases e
    | cons d ds =>
      cases r with
      | cons r1 r2 =>
        simp only [gSeq] at e
        cases hf : f d S with
        | none => rw [hf] at e; cases e
        | some S1 =>
          rw [hf] at e
          exact ⟨_, _, rfl, F, Z, B, S, t, d, S1, R, r1, hf, fun σ' o1 R' => ⟨F, Z, B, S1, t, ds, S', R', r2, e, fun σ2 o2 R2 => k σ2 (o1.cons o2) R2⟩⟩⟩
theorem jg_tup {k : Nat} (hc : X.calm = true) (h : JGs X tgs fs is) (hl : tgs.length = fs.length) (hn : (assignEach tgs X.env).length = tgs.length := by rfl) (hst : (assignEach tgs X.env).findIdx? (·.1) = none := by rfl) : JG X (.Tuple tgs k pos) (gTupM fs) is :=
  ⟨PG.imp (pg_tup hc h.run hn hst) fun v σ H Q hq => by
    obtain ⟨F, Z, B, S, t, d, S', R, r, e, k⟩ := hq
    cases d with
    | tuple ds =>
      simp only [gTupM] at e
      split at e
      · rename_i hlen
        cases r with
        | tup h1 r1 => exact ⟨_, _, rfl, SqT.of (R.exZ _ _ h1), by rw [r1.length, hlen, hl], F, Z, B, S, t, ds, S', R, r1, e, k⟩
      · cases e
    | _ => cases e⟩
/-- target = value -/
def mAsg (f : GM) (m : EM) : SM := fun S => (mD m S).bind fun x S1 => match f x S1 with
  | some S2 => .ok .nx S2
  | none => .st
theorem js_asg {W : WM} {e : Expr} {m : EM} (he : JE X W e m) (hg : JG X tg f is) (hs : swapsWithSole [tg] e pos.line X.env = pure false := by rfl) (hw : swappedStores [tg] e X.env = pure none := by rfl) (h1 : (assignEach [tg] X.env).map (·.2) = [assign tg X.env] := by rfl) :
    JS X W (.Assign [tg] e pos) (mAsg f m) :=
  ⟨PS.imp (ps_asg he.run hg.run hs hw h1) fun E σ H h => by
    obtain ⟨F, Z, B, S, R, p⟩ := h
    refine ⟨F, Z, B, S, R, ?_⟩
    revert p
    simp only [mAsg, mD]
    cases m S with
    | st => exact fun p => p
    | ex c S1 => exact fun p Z' H' e R' => p Z' σ H' e R'
    | ok r S1 =>
      intro p Z1 H1 v e1 hr
      simp only [bind_ok] at p
      cases hsh : share r S1 with
      | none => rw [hsh] at p; exact p.elim
      | some q =>
        obtain ⟨x, S2⟩ := q
        rw [hsh] at p
        simp only [bind_ok] at p
        cases hf : f x S2 with
        | none => rw [hf] at p; exact p.elim
        | some S3 =>
          rw [hf] at p
          obtain ⟨Z2, e2, R2, rep⟩ := share_ok hr hsh
          exact ⟨F, Z2, B, S2, none, x, S3, R2, rep, hf, fun σ' _ R3 => p Z2 σ' H1 (e1.trans e2) R3⟩⟩
end

/-! ### a, b = x, y -/
abbrev PM := Sg → Out (List Rs)
def RP (Z : Hp) (B : Nat → Option V) (S : Sg) (σ : L2.St) (H : Hp) : Hp → List Rs → List V → Prop
  | F, [], vs => vs = [] ∧ RepSt F Z B S σ H none
  | F, .d x :: rs, vs => ∃ v ws, vs = v :: ws ∧ Rep Z v x ∧ RP Z B S σ H F rs ws
  | F, .tmp o :: rs, vs => ∃ v ws F1, vs = v :: ws ∧ Ex F F1 ∧ RP Z B S σ H F1 rs ws ∧ ∀ Z' S' σ' H', Ex Z Z' → RepSt F1 Z' B S' σ' H' none → RepSt F Z' B S' σ' H' (some (v, o))
  | _, .ref _ :: _, _ => False
def PostP (F Z : Hp) (B : Nat → Option V) (σ : L2.St) (W : WM) (Q : List V → Hp → Prop) (o : Out (List Rs)) : Prop :=
  match o with
  | .st => False
  | .ok rs S => ∀ Z' H' vs, Ex Z Z' → RP Z' B S σ H' F rs vs → Q vs H'
  | .ex c S => ∀ Z' H', Ex Z Z' → RepSt F Z' B S σ H' none → W c σ H'
def tP (W : WM) (m : PM) : TA := fun σ H Q => ∃ F Z B S, RepSt F Z B S σ H none ∧ PostP F Z B σ W Q (m S)
structure JP (X : Cx) (W : WM) (es : List Expr) (m : PM) : Prop where
  run : PA X es (tP W m)
/-- a result that is no reference -/
def valR (r : Rs) (S : Sg) : Option (Rs × Sg) := match r with
  | .tmp o => some (.tmp o, S)
  | r => (share r S).map fun q => (.d q.1, q.2)
def pNil : PM := fun S => .ok [] S
def pCons (a : EM) (r : PM) : PM := fun S => (a S).bind fun x S1 => match valR x S1 with
  | none => .st
  | some (y, S2) => (r S2).bind fun ys S3 => .ok (y :: ys) S3
section
variable {X : Cx} {W : WM} {e : Expr} {es : List Expr} {a : EM} {r : PM}
theorem RP.cons {F Z : Hp} {B : Nat → Option V} {S : Sg} {σ : L2.St} {H : Hp} {rs : List Rs} {v : V} {vs : List V} {x : D} (h : Rep Z v x) (r : RP Z B S σ H F rs vs) : RP Z B S σ H F (.d x :: rs) (v :: vs) := ⟨v, vs, rfl, h, r⟩
theorem jp_nil : JP X W [] pNil := ⟨PA.imp pa_nil fun σ H Q h => by
  obtain ⟨F, Z, B, S, R, p⟩ := h
  exact p Z H [] (Ex.refl Z) ⟨rfl, R⟩⟩
theorem jp_cons (ha : JE X W e a) (hr : JP X W es r) (hs : starEach (e :: es) X.env = (false, eval e X.env) :: starEach es X.env := by rfl) : JP X W (e :: es) (pCons a r) := by
  refine ⟨PA.imp (pa_cons ha.run hr.run hs) fun σ H Q h => ?_⟩
  obtain ⟨F, Z, B, S, R, p⟩ := h
  refine ⟨F, Z, B, S, R, ?_⟩
  revert p
  simp only [pCons]
  cases a S with
  | st => exact fun p => p
  | ex c S1 => exact fun p => p
  | ok q S1 =>
    intro p Z1 H1 v e1 hr1
    simp only [bind_ok] at p
    cases hv : valR q S1 with
    | none => rw [hv] at p; exact p.elim
    | some y =>
      obtain ⟨y, S2⟩ := y
      rw [hv] at p
      dsimp only at p
      have key : (∃ o, y = .tmp o ∧ RepSt F Z1 B S2 σ H1 (some (v, o))) ∨ ∃ x Z2, y = .d x ∧ Ex Z1 Z2 ∧ RepSt F Z2 B S2 σ H1 none ∧ Rep Z2 v x := by
        cases q with
        | tmp o => cases hv; exact .inl ⟨o, rfl, hr1⟩
        | d x =>
          simp only [valR, share, Option.map] at hv
          cases hv
          exact .inr ⟨x, Z1, rfl, Ex.refl _, hr1.1, hr1.2⟩
        | ref i =>
          simp only [valR] at hv
          cases hsh : share (.ref i) S1 with
          | none => rw [hsh] at hv; cases hv
          | some w =>
            rw [hsh] at hv; cases hv
            obtain ⟨Z2, e2, R2, rep⟩ := share_ok hr1 hsh
            exact .inr ⟨w.1, Z2, rfl, e2, R2, rep⟩
      rcases key with ⟨o, rfl, R2⟩ | ⟨x, Z2, rfl, e2, R2, rep⟩
      · obtain ⟨F1, eF, R3, back⟩ := R2.aside
        refine ⟨F1, Z1, B, S2, R3, ?_⟩
        revert p
        cases r S2 with
        | st => exact fun p => p
        | ex c S3 => exact fun p Z' H' e3 R' => p Z' H' (e1.trans e3) (R'.less eF)
        | ok rs S3 =>
          exact fun p Z' H' vs e3 hrs => p Z' H' (v :: vs) (e1.trans e3) ⟨v, vs, F1, rfl, eF, hrs, fun Z2 S' σ' H2 e4 R4 => back Z2 S' σ' H2 (e3.trans e4) R4⟩
      · refine ⟨F, Z2, B, S2, R2, ?_⟩
        revert p
        cases r S2 with
        | st => exact fun p => p
        | ex c S3 => exact fun p Z' H' e3 R' => p Z' H' ((e1.trans e2).trans e3) R'
        | ok rs S3 => exact fun p Z' H' vs e3 hrs => p Z' H' (v :: vs) ((e1.trans e2).trans e3) (.cons (rep.mono e3) hrs)
end
/-- stored from the right -/
def storeP : List Nat → List Rs → Sg → Option Sg
  | [], [], S => some S
  | i :: is, r :: rs, S => (storeP is rs S).bind fun S1 => match r with
    | .d x => setD i x S1
    | .tmp o => if free (gt S1 i) then some (S1.set i (.own false o)) else none
    | .ref _ => none
  | _, _, _ => none
def setsP : List Nat → List V → L2.St → L2.St
  | i :: is, v :: vs, σ => (setsP is vs σ).set i (some v)
  | _, _, σ => σ
theorem storeP_ok : ∀ {is : List Nat} {rs : List Rs} {vs : List V} {F Z : Hp} {B : Nat → Option V} {S S' : Sg} {σ : L2.St} {H : Hp}, RP Z B S σ H F rs vs → storeP is rs S = some S' → RepSt F Z B S' (setsP is vs σ) H none ∧ vs.length = is.length
  | [], [], vs, F, Z, B, S, S', σ, H, h, e => by cases e; obtain ⟨rfl, R⟩ := h; exact ⟨R, rfl⟩
  | [], _ :: _, _, _, _, _, _, _, _, _, _, e => nomatch e
  | _ :: _, [], _, _, _, _, _, _, _, _, _, e => nomatch e
  | i :: is, r :: rs, vs, F, Z, B, S, S', σ, H, h, e => by
    simp only [storeP] at e
    cases hs : storeP is rs S with
    | none => rw [hs] at e; cases e
    | some S1 =>
      rw [hs] at e
      cases r with
      | d x =>
        obtain ⟨v, ws, rfl, rep, h2⟩ := h
        obtain ⟨R, hl⟩ := storeP_ok h2 hs
        exact ⟨setD_ok R rep e, by simp [hl]⟩
      | ref j => cases e
      | tmp o =>
        obtain ⟨v, ws, F1, rfl, eF, h2, back⟩ := h
        obtain ⟨R, hl⟩ := storeP_ok h2 hs
        dsimp only [Option.bind] at e
        split at e
        · cases e
          exact ⟨RepSt.setO (back Z S1 _ H (Ex.refl Z) R), by simp [hl]⟩
        · cases e
def mPar (is : List Nat) (m : PM) : SM := fun S => (m S).bind fun rs S1 => match storeP is rs S1 with
  | some S2 => .ok .nx S2
  | none => .st
section
variable {X : Cx} {W : WM} {m : PM} {pos : Pos}
theorem tP_bindS {σ : L2.St} {H : Hp} {k : List Rs → Sg → Out Fl} {E : Ends} {R : List V → Hp → Prop} (h : tS W (fun S => (m S).bind k) E σ H) (hk : ∀ F Z B S rs vs H1, RP Z B S σ H1 F rs vs → PostS F Z B W E (k rs S) → R vs H1) : tP W m σ H R := by
  obtain ⟨F, Z, B, S, RS, p⟩ := h
  refine ⟨F, Z, B, S, RS, ?_⟩
  revert p
  show PostS F Z B W E ((m S).bind k) → _
  cases m S with
  | st => exact fun p => p
  | ok r S1 => exact fun p Z' H' vs e hr => hk F Z' B S1 r vs H' hr (p.mono e)
  | ex c S1 => exact fun p Z' H' e hr => p Z' σ H' e hr
theorem tPar_ok {is : List Nat} {E : Ends} {σ : L2.St} {H : Hp} (h : tS W (mPar is m) E σ H) : tP W m σ H fun vs H1 => vs.length = is.length ∧ E.nx (setsP is vs σ) H1 :=
  tP_bindS h fun F Z B S rs vs H1 hr p => by
    cases hs : storeP is rs S with
    | none => rw [hs] at p; exact p.elim
    | some S2 =>
      rw [hs] at p
      obtain ⟨R, hl⟩ := storeP_ok hr hs
      exact ⟨hl, p Z _ H1 (Ex.refl Z) R⟩
theorem js_par2 {i j : Nat} {x y : Str} {a b : Expr} {px py pt : Pos} {kt k2 : Nat} {pt2 : Pos} (hc : X.calm = true) (hN : X.N.Nodup) (ha : JP X W [a, b] m)
    (hi : X.N[i]? = some x := by rfl) (hj : X.N[j]? = some y := by rfl) (hij : i ≠ j := by decide) (hx : X.env.scope.names.lookup x = some .local := by rfl) (hy : X.env.scope.names.lookup y = some .local := by rfl)
    (hw : swappedStores [.Tuple [.Name x px, .Name y py] kt pt] (.Tuple [a, b] k2 pt2) X.env = pure (some [x, y]) := by rfl)
    (hs : swapsWithSole [.Tuple [.Name x px, .Name y py] kt pt] (.Tuple [a, b] k2 pt2) pos.line X.env = pure false := by rfl) :
    JS X W (.Assign [.Tuple [.Name x px, .Name y py] kt pt] (.Tuple [a, b] k2 pt2) pos) (mPar [i, j] m) := by
  refine ⟨PS.imp (ps_par hc hN hi hj hij hx hy ha.run hw hs) fun E σ H h => ?_⟩
  obtain ⟨F, Z, B, S, R, p⟩ := tPar_ok h
  refine ⟨F, Z, B, S, R, ?_⟩
  revert p
  cases m S with
  | st => exact fun p => p
  | ex c S1 => exact fun p => p
  | ok rs S1 =>
    intro p Z' H' vs e hr
    obtain ⟨hl, q⟩ := p Z' H' vs e hr
    match vs, hl with
    | [v, w], _ =>
      refine ⟨v, w, rfl, ?_⟩
      rw [List.set_comm _ _ hij]
      exact q
theorem js_par3 {i j l : Nat} {x y z : Str} {a b c : Expr} {px py pz pt : Pos} {kt k2 : Nat} {pt2 : Pos} (hc : X.calm = true) (hN : X.N.Nodup) (ha : JP X W [a, b, c] m)
    (hi : X.N[i]? = some x := by rfl) (hj : X.N[j]? = some y := by rfl) (hl : X.N[l]? = some z := by rfl) (hij : i ≠ j := by decide) (hil : i ≠ l := by decide) (hjl : j ≠ l := by decide)
    (hx : X.env.scope.names.lookup x = some .local := by rfl) (hy : X.env.scope.names.lookup y = some .local := by rfl) (hz : X.env.scope.names.lookup z = some .local := by rfl)
    (hw : swappedStores [.Tuple [.Name x px, .Name y py, .Name z pz] kt pt] (.Tuple [a, b, c] k2 pt2) X.env = pure (some [x, y, z]) := by rfl)
    (hs : swapsWithSole [.Tuple [.Name x px, .Name y py, .Name z pz] kt pt] (.Tuple [a, b, c] k2 pt2) pos.line X.env = pure false := by rfl) :
    JS X W (.Assign [.Tuple [.Name x px, .Name y py, .Name z pz] kt pt] (.Tuple [a, b, c] k2 pt2) pos) (mPar [i, j, l] m) := by
  refine ⟨PS.imp (ps_par3 hc hN hi hj hl hij hil hjl hx hy hz ha.run hw hs) fun E σ H h => ?_⟩
  obtain ⟨F, Z, B, S, R, p⟩ := tPar_ok h
  refine ⟨F, Z, B, S, R, ?_⟩
  revert p
  cases m S with
  | st => exact fun p => p
  | ex c S1 => exact fun p => p
  | ok rs S1 =>
    intro p Z' H' vs e hr
    obtain ⟨hlen, q⟩ := p Z' H' vs e hr
    match vs, hlen with
    | [u, v, w], _ =>
      refine ⟨u, v, w, rfl, ?_⟩
      have : setsP [i, j, l] [u, v, w] σ = ((σ.set i (some u)).set j (some v)).set l (some w) := by
        simp only [setsP]
        rw [List.set_comm (i := l) (j := j) _ _ (Ne.symm hjl), List.set_comm (i := l) (j := i) _ _ (Ne.symm hil), List.set_comm (i := j) (j := i) _ _ (Ne.symm hij)]
      rw [← this]
      exact q
end
end Ev

namespace Ev
open PySem PySem.Spec L2

/-! ### while -/
def whileN (c : TM) (b : SM) : Nat → SM
  | 0 => fun _ => .st
  | n + 1 => fun S => (c S).bind fun k S1 => if k = true then (match b S1 with
      | .ok .nx S2 => whileN c b n S2
      | .ok .ct S2 => whileN c b n S2
      | .ok .bk S2 => .ok .nx S2
      | o => o) else .ok .nx S1
/-- as many turns as a while may have -/
def wfuel : Nat := 1000000
def mWhile (c : TM) (b : SM) : SM := whileN c b wfuel
section
variable {X : Cx} {W : WM} {c : Expr} {body : List Stmt} {mc : TM} {mb : SM} {pos : Pos}
theorem js_while (hp : PassesOwn (model X.prog X.w) X.A X.env X.xe) (hc : JT X W c mc) (hb : JB X W body mb) : JS X W (.While c body [] pos) (mWhile mc mb) := by
  refine ⟨PS.imp (ps_while hp hc.run hb.run) fun E σ H h => ?_⟩
  obtain ⟨F, Z, B, S, R, p⟩ := h
  refine ⟨fun m σ H => ∃ Z S, RepSt F Z B S σ H none ∧ PostS F Z B W E (whileN mc mb m S), ⟨wfuel, Z, S, R, p⟩, ?_⟩
  rintro m σ H ⟨Z, S, R, p⟩
  cases m with
  | zero => exact p.elim
  | succ m =>
    refine ⟨F, Z, B, S, R, ?_⟩
    revert p
    simp only [whileN]
    cases mc S with
    | st => exact fun p => p
    | ex c S1 => exact fun p Z' H' e R' => p Z' σ H' e R'
    | ok k S1 =>
      intro p Z1 H1 e1 R1
      simp only [bind_ok] at p
      cases k with
      | false => exact iteF (p Z1 σ H1 e1 R1)
      | true =>
        refine iteT ⟨fun σ' H' => ∃ Z S, RepSt F Z B S σ' H' none ∧ PostS F Z B W E (whileN mc mb m S), fun σ' H' h => ⟨m, Nat.lt_succ_self _, h⟩, F, Z1, B, S1, R1, ?_⟩
        simp only [if_true] at p
        revert p
        cases mb S1 with
        | st => exact fun p => p
        | ex c S2 => exact fun p Z' σ' H' e R' => p Z' σ' H' (e1.trans e) R'
        | ok fl S2 =>
          cases fl with
          | nx => exact fun p Z' σ' H' e R' => ⟨Z', S2, R', p.mono (e1.trans e)⟩
          | ct => exact fun p Z' σ' H' e R' => ⟨Z', S2, R', p.mono (e1.trans e)⟩
          | bk => exact fun p Z' σ' H' e R' => p Z' σ' H' (e1.trans e) R'
          | rt r => exact fun p Z' σ' H' v e R' => p Z' σ' H' v (e1.trans e) R'
end

/-! ### what is walked -/
/-- J yields what stands for ds, in order -/
def Wk (F Z : Hp) (J : It) (ds : List D) : Prop := ∀ i H, Ex Z H → Ex F H →
  (∀ d, ds[i]? = some d → J.go i H ∧ ∀ x H', J.yld i H x H' → (H' = H ∧ Rep Z x d) ∨ ∃ T xs, H T = none ∧ H' = upd H T (.tup xs) ∧ x = .ref T ∧ ∃ es, d = .tuple es ∧ Reps Z xs es) ∧ (ds.length ≤ i → J.stop i H)
def Wk2 (F Z : Hp) (J : It) (ds : List D) : Prop := ∀ i Z2 H, Ex Z Z2 → Ex Z2 H → Ex F H →
  (∀ d, ds[i]? = some d → J.go i H ∧ ∀ x H', J.yld i H x H' → (H' = H ∧ Rep Z2 x d) ∨ ∃ T xs, H T = none ∧ H' = upd H T (.tup xs) ∧ x = .ref T ∧ ∃ es, d = .tuple es ∧ Reps Z2 xs es) ∧ (ds.length ≤ i → J.stop i H)
theorem Wk.two {F Z : Hp} {J : It} {ds : List D} (h : Wk F Z J ds) : Wk2 F Z J ds := fun i Z2 H e e2 e3 => by
  obtain ⟨a, b⟩ := h i H (e.trans e2) e3
  refine ⟨fun d hd => ?_, b⟩
  obtain ⟨c, f⟩ := a d hd
  refine ⟨c, fun x H' y => ?_⟩
  rcases f x H' y with ⟨q, r⟩ | ⟨T, xs, q1, q2, q3, es, q4, r⟩
  · exact .inl ⟨q, r.mono e⟩
  · exact .inr ⟨T, xs, q1, q2, q3, es, q4, r.mono e⟩
abbrev Lt := Option (Nat × Sl)
def lentOk (l : Lt) (S : Sg) : Bool := match l with
  | none => true
  | some (i, _) => match gt S i with
    | .lent => true
    | _ => false
def unlend (l : Lt) (S : Sg) : Sg := match l with
  | none => S
  | some (i, s) => S.set i s
abbrev IM := Sg → Out (List D × Lt)
def Back (F F1 Z : Hp) (B B1 : Nat → Option V) (l : Lt) : Prop := ∀ Z2 S' σ' H2 t, Ex Z Z2 → lentOk l S' = true → RepSt F1 Z2 B1 S' σ' H2 t → RepSt F Z2 B (unlend l S') σ' H2 t
def PostI (F Z : Hp) (B : Nat → Option V) (σ : L2.St) (W : WM) (R : It → Hp → Prop) (o : Out (List D × Lt)) : Prop :=
  match o with
  | .st => False
  | .ok q S => ∀ Z' H' J F1 B1, Ex Z Z' → RepSt F1 Z' B1 S σ H' none → Wk F1 Z' J q.1 → Back F F1 Z' B B1 q.2 → R J H'
  | .ex c S => ∀ Z' H', Ex Z Z' → RepSt F Z' B S σ H' none → W c σ H'
def tI (W : WM) (m : IM) : TI := fun σ H R => ∃ F Z B S, RepSt F Z B S σ H none ∧ PostI F Z B σ W R (m S)
structure JI (X : Cx) (W : WM) (tg iter : Expr) (m : IM) : Prop where
  run : PI X tg iter (tI W m)
theorem back0 {F Z : Hp} {B : Nat → Option V} : Back F F Z B B none := fun _ _ _ _ _ _ _ R => R
/-- the signs of a text -/
def signs (x : Str) : List D := x.cps.toList.map fun c => .str ⟨#[c]⟩
def itemsD : D → Option (List D)
  | .list xs => some xs
  | .tuple xs => some xs
  | .str x => some (signs x)
  | _ => none
def iterD (x : D) (S : Sg) : Out (List D × Lt) := match itemsD x with
  | some ds => .ok (ds, none) S
  | none => .st
def iterSl (i : Nat) (S : Sg) : Sl → Out (List D × Lt)
  | .d x => iterD x S
  | .own b (.lst ds) => .ok (ds, some (i, .own b (.lst ds))) (S.set i .lent)
  | _ => .st
def iterOf (r : Rs) (S : Sg) : Out (List D × Lt) := match r with
  | .d x => iterD x S
  | .ref i => iterSl i S (gt S i)
  | .tmp _ => .st
def mIter (m : EM) : IM := fun S => (frz m S).bind iterOf
theorem wk_list {K : PySem.W.Frag} {F Z : Hp} {a : Addr} {xs : List V} {ds : List D} (h : ∀ H, Ex Z H → Ex F H → H a = some (.lst xs)) (r : Reps Z xs ds) : Wk F Z (Itl K a) ds := fun i H e1 e2 => by
  have hs : SqL K H a xs := SqL.of (h H e1 e2)
  refine ⟨fun d hd => ?_, fun hl => ⟨xs, hs, by rw [r.length]; exact hl⟩⟩
  obtain ⟨v, hv, rv⟩ := r.get hd
  refine ⟨⟨xs, v, hs, hv⟩, fun x H' y => ?_⟩
  obtain ⟨q, y⟩ := y
  have := y xs hs
  rw [hv] at this; cases this
  exact .inl ⟨q, rv⟩
theorem wk_tup {K : PySem.W.Frag} {F Z : Hp} {a : Addr} {xs : List V} {ds : List D} (h : Z a = some (.tup xs)) (r : Reps Z xs ds) : Wk F Z (Itt K a) ds := fun i H e1 e2 => by
  have hs : SqT K H a xs := SqT.of (e1 _ _ h)
  refine ⟨fun d hd => ?_, fun hl => ⟨xs, hs, by rw [r.length]; exact hl⟩⟩
  obtain ⟨v, hv, rv⟩ := r.get hd
  refine ⟨⟨xs, v, hs, hv⟩, fun x H' y => ?_⟩
  obtain ⟨q, y⟩ := y
  have := y xs hs
  rw [hv] at this; cases this
  exact .inl ⟨q, rv⟩
theorem wk_str {F Z : Hp} {x : Str} : Wk F Z (Its x) (signs x) := fun i H e1 e2 => by
  refine ⟨fun d hd => ?_, fun hl => show x.cps.size ≤ i by simpa [signs] using hl⟩
  simp only [signs, List.getElem?_map, Option.map_eq_some_iff] at hd
  obtain ⟨c, hc, rfl⟩ := hd
  have hc' : x.cps[i]? = some c := by simpa using hc
  refine ⟨(Array.getElem?_eq_some_iff.mp hc').1, fun v H' y => ?_⟩
  obtain ⟨q, c', hc2, e⟩ := y
  rw [hc'] at hc2; cases hc2
  subst e
  exact .inl ⟨q, .str _⟩
section
variable {X : Cx} {W : WM} {tg e : Expr} {m : EM}
theorem ji_iter (h : JE X W e m) : JI X W tg e (mIter m) := by
  refine ⟨⟨fun pins s σ H R I hq => ?_⟩⟩
  obtain ⟨F, Z, B, S, R0, p⟩ := hq
  have hf := h.frz.run
  -- three ways to go on
  have L : tE W (frz m) σ H (fun x H1 => ∃ a, x = .ref a ∧ (∃ xs, SqL X.K H1 a xs) ∧ R (Itl X.K a) H1) → wpAny (model X.prog X.w) X.A (eval e X.env) (fun v s1 => wpAny (model X.prog X.w) X.A (pyIter v) (PIE X pins σ tg R) X.xe s1) X.xe s :=
    fun q => (pi_list (tg := tg) hf).run pins s σ H R I q
  have T : tE W (frz m) σ H (fun x H1 => ∃ a, x = .ref a ∧ (∃ xs, SqT X.K H1 a xs) ∧ R (Itt X.K a) H1) → wpAny (model X.prog X.w) X.A (eval e X.env) (fun v s1 => wpAny (model X.prog X.w) X.A (pyIter v) (PIE X pins σ tg R) X.xe s1) X.xe s :=
    fun q => (pi_tup (tg := tg) hf).run pins s σ H R I q
  have C : tE W (frz m) σ H (fun x H1 => ∃ z, x = .str z ∧ R (Its z) H1) → wpAny (model X.prog X.w) X.A (eval e X.env) (fun v s1 => wpAny (model X.prog X.w) X.A (pyIter v) (PIE X pins σ tg R) X.xe s1) X.xe s :=
    fun q => (pi_str (tg := tg) hf).run pins s σ H R I q
  revert p
  simp only [mIter]
  cases hfz : frz m S with
  | st => exact fun p => p.elim
  | ex c S1 => exact fun p => L ⟨F, Z, B, S, R0, by rw [hfz]; exact p⟩
  | ok r S1 =>
    simp only [bind_ok]
    -- data
    have data : ∀ x, (∀ Z' H' v, ResOk F Z' B S1 σ H' r v → RepSt F Z' B S1 σ H' none ∧ Rep Z' v x) → PostI F Z B σ W R (iterD x S1) → wpAny (model X.prog X.w) X.A (eval e X.env) (fun v s1 => wpAny (model X.prog X.w) X.A (pyIter v) (PIE X pins σ tg R) X.xe s1) X.xe s := by
      intro x hx
      cases x with
      | list ds =>
        refine fun p => L ⟨F, Z, B, S, R0, ?_⟩
        rw [hfz]
        intro Z' H' v e1 hr
        obtain ⟨R1, rep⟩ := hx Z' H' v hr
        cases rep with
        | lst ha rr => exact ⟨_, rfl, ⟨_, SqL.of (R1.exZ _ _ ha)⟩, p Z' H' _ F B e1 R1 (wk_list (fun H e _ => e _ _ ha) rr) back0⟩
      | tuple ds =>
        refine fun p => T ⟨F, Z, B, S, R0, ?_⟩
        rw [hfz]
        intro Z' H' v e1 hr
        obtain ⟨R1, rep⟩ := hx Z' H' v hr
        cases rep with
        | tup ha rr => exact ⟨_, rfl, ⟨_, SqT.of (R1.exZ _ _ ha)⟩, p Z' H' _ F B e1 R1 (wk_tup ha rr) back0⟩
      | str z =>
        refine fun p => C ⟨F, Z, B, S, R0, ?_⟩
        rw [hfz]
        intro Z' H' v e1 hr
        obtain ⟨R1, rep⟩ := hx Z' H' v hr
        cases rep
        exact ⟨_, rfl, p Z' H' _ F B e1 R1 wk_str back0⟩
      | none => exact fun p => False.elim p
      | bool b => exact fun p => False.elim p
      | int i => exact fun p => False.elim p
      | dict es => exact fun p => False.elim p
    cases r with
    | tmp o => exact fun p => False.elim p
    | d x => exact data x fun Z' H' v hr => hr
    | ref i =>
      simp only [iterOf]
      cases hg : gt S1 i with
      | no => exact fun p => False.elim p
      | lent => exact fun p => False.elim p
      | d x =>
        refine data x fun Z' H' v hr => ?_
        obtain ⟨R1, hv⟩ := hr
        obtain ⟨fp, hs⟩ := R1.slot i
        rw [hg] at hs
        obtain ⟨_, w, hw, rr⟩ := hs
        rw [hv] at hw; cases hw
        exact ⟨R1, rr⟩
      | own b o =>
        cases o with
        | dct es => exact fun p => False.elim p
        | lst ds =>
          refine fun p => L ⟨F, Z, B, S, R0, ?_⟩
          rw [hfz]
          intro Z' H' v e1 hr
          obtain ⟨R1, hv⟩ := hr
          obtain ⟨F1, B1, w, eF, hw, ⟨fp, a, xs, rfl, _, ha, rr⟩, R2, back⟩ := R1.lend hg
          rw [hv] at hw; cases hw
          refine ⟨a, rfl, ⟨xs, SqL.of (R2.exF _ _ ha)⟩, p Z' H' _ F1 B1 e1 R2 (wk_list (fun H _ e => e _ _ ha) rr) fun Z2 S' σ' H2 t e2 hl R3 => ?_⟩
          refine back Z2 S' σ' H2 t e2 ?_ R3
          simp only [lentOk] at hl
          cases hs : gt S' i <;> rw [hs] at hl <;> first | rfl | cases hl
end

/-! ### range -/
def intsD (lo c : Int) (n : Nat) : List D := (List.range n).map fun i => .int (lo + c * (i : Nat))
theorem wk_range {F Z : Hp} {lo : Int} {n : Nat} : Wk F Z (Itr lo n) (intsD lo 1 n) := fun i H e1 e2 => by
  refine ⟨fun d hd => ?_, fun hl => show n ≤ i by simpa [intsD] using hl⟩
  simp only [intsD, List.getElem?_map, Option.map_eq_some_iff] at hd
  obtain ⟨k, hk, rfl⟩ := hd
  obtain ⟨hlt, hk2⟩ := List.getElem?_eq_some_iff.mp hk
  simp at hlt hk2
  subst hk2
  refine ⟨hlt, fun v H' y => ?_⟩
  obtain ⟨q, e⟩ := y
  subst e
  exact .inl ⟨q, by rw [Int.one_mul]; exact .int _⟩
theorem wk_rangeC {F Z : Hp} {lo c : Int} {n : Nat} : Wk F Z (Itc lo c n) (intsD lo c n) := fun i H e1 e2 => by
  refine ⟨fun d hd => ?_, fun hl => show n ≤ i by simpa [intsD] using hl⟩
  simp only [intsD, List.getElem?_map, Option.map_eq_some_iff] at hd
  obtain ⟨k, hk, rfl⟩ := hd
  obtain ⟨hlt, hk2⟩ := List.getElem?_eq_some_iff.mp hk
  simp at hlt hk2
  subst hk2
  refine ⟨hlt, fun v H' y => ?_⟩
  obtain ⟨q, e⟩ := y
  subst e
  exact .inl ⟨q, by rw [Int.mul_comm]; exact .int _⟩
abbrev big : Int := 4611686018427387904
def rng1 : D → Option (List D)
  | .int j => if -big ≤ j ∧ j < big then some (intsD 0 1 j.toNat) else none
  | _ => none
def rng2 (x y : D) : Option (List D) := match x with
  | .int i => match y with
    | .int j => if -big ≤ i ∧ i < big ∧ -big ≤ j ∧ j < big then some (intsD i 1 (j - i).toNat) else none
    | _ => none
  | _ => none
def rngM (x y : D) : Option (List D) := match x with
  | .int i => match y with
    | .int j => if -big ≤ i ∧ i < big ∧ -big ≤ j ∧ j < big then some (intsD i (-1) (i - j).toNat) else none
    | _ => none
  | _ => none
def ofI (o : Option (List D)) (S : Sg) : Out (List D × Lt) := match o with
  | some xs => .ok (xs, none) S
  | none => .st
@[simp] theorem ofI_some (xs : List D) (S : Sg) : ofI (some xs) S = .ok (xs, none) S := rfl
def one1 (g : D → Option (List D)) : List D → Option (List D)
  | [x] => g x
  | _ => none
def two2 (g : D → D → Option (List D)) : List D → Option (List D)
  | [x, y] => g x y
  | _ => none
def mRange1 (m : DM) : IM := fun S => (m S).bind fun ds S1 => ofI (one1 rng1 ds) S1
def mRange2 (m : DM) : IM := fun S => (m S).bind fun ds S1 => ofI (two2 rng2 ds) S1
theorem one1_some {g : D → Option (List D)} {ds xs : List D} (h : one1 g ds = some xs) : ∃ x, ds = [x] ∧ g x = some xs := by
  unfold one1 at h
  split at h
  · exact ⟨_, rfl, h⟩
  · cases h
theorem two2_some {g : D → D → Option (List D)} {ds xs : List D} (h : two2 g ds = some xs) : ∃ x y, ds = [x, y] ∧ g x y = some xs := by
  unfold two2 at h
  split at h
  · exact ⟨_, _, rfl, h⟩
  · cases h
theorem tDs_bindI {σ : L2.St} {H : Hp} {W : WM} {m : DM} {k : List D → Sg → Out (List D × Lt)} {R : It → Hp → Prop} {R' : List V → Hp → Prop} (h : tI W (fun S => (m S).bind k) σ H R) (hk : ∀ F Z B S ds vs H1, RepSt F Z B S σ H1 none → Reps Z vs ds → PostI F Z B σ W R (k ds S) → R' vs H1) : tDs W m σ H R' := by
  obtain ⟨F, Z, B, S, RS, p⟩ := h
  refine ⟨F, Z, B, S, RS, ?_⟩
  revert p
  show PostI F Z B σ W R ((m S).bind k) → _
  cases m S with
  | st => exact fun p => p
  | ok r S1 =>
    refine fun p Z' H' vs e R1 hr => hk F Z' B S1 r vs H' R1 hr ?_
    revert p
    simp only [bind_ok]
    cases k r S1 with
    | st => exact fun p => p
    | ok q S2 => exact fun p Z2 H2 J F1 B1 e2 => p Z2 H2 J F1 B1 (e.trans e2)
    | ex c S2 => exact fun p Z2 H2 e2 => p Z2 H2 (e.trans e2)
  | ex c S1 => exact fun p => p
theorem reps1 {Z : Hp} {vs : List V} {i : Int} (h : Reps Z vs [.int i]) : vs = [.int i] := by
  cases h with | cons a b => cases a; cases b; rfl
theorem reps2 {Z : Hp} {vs : List V} {i j : Int} (h : Reps Z vs [.int i, .int j]) : vs = [.int i, .int j] := by
  cases h with | cons a b => cases a; rw [reps1 b]
theorem reps3 {Z : Hp} {vs : List V} {i j k : Int} (h : Reps Z vs [.int i, .int j, .int k]) : vs = [.int i, .int j, .int k] := by
  cases h with | cons a b => cases a; rw [reps2 b]
section
variable {X : Cx} {W : WM} {tg a b c : Expr} {m : DM} {p pos : Pos}
theorem PI.imp {tg iter : Expr} {t t' : TI} (h : PI X tg iter t) (i : ∀ σ H R, t' σ H R → t σ H R) : PI X tg iter t' := ⟨fun pins s σ H R I hq => h.run pins s σ H R I (i σ H R hq)⟩
theorem ji_range1 (hm : X.mg "range" = none) (ha : JD X W [a] m) (hg : Gl X "range") (hs : starEach [a] X.env = [(false, eval a X.env)] := by rfl) : JI X W tg (.Call (.Name "range" p) [a] [] pos) (mRange1 m) :=
  ⟨PI.imp (pi_range1 hg hm ha.run hs) fun σ H R h => tDs_bindI h fun F Z B S ds vs H1 R1 hr q => by
    cases ho : one1 rng1 ds with
    | none => rw [ho] at q; exact False.elim q
    | some xs =>
      rw [ho] at q
      obtain ⟨x, rfl, hx⟩ := one1_some ho
      cases x <;> try (simp [rng1] at hx; done)
      rename_i j
      simp only [rng1] at hx
      split at hx
      · rename_i hj
        cases hx
        cases reps1 hr
        exact ⟨j, rfl, by simp only [big] at hj; omega, by simp only [big] at hj; omega, q Z H1 _ F B (Ex.refl Z) R1 wk_range back0⟩
      · cases hx⟩
theorem ji_range2 (hm : X.mg "range" = none) (ha : JD X W [a, b] m) (hg : Gl X "range") (hs : starEach [a, b] X.env = [(false, eval a X.env), (false, eval b X.env)] := by rfl) (hs2 : starEach [b] X.env = [(false, eval b X.env)] := by rfl) : JI X W tg (.Call (.Name "range" p) [a, b] [] pos) (mRange2 m) :=
  ⟨PI.imp (pi_range2 hg hm ha.run hs hs2) fun σ H R h => tDs_bindI h fun F Z B S ds vs H1 R1 hr q => by
    cases ho : two2 rng2 ds with
    | none => rw [ho] at q; exact False.elim q
    | some xs =>
      rw [ho] at q
      obtain ⟨x, y, rfl, hx⟩ := two2_some ho
      cases x <;> try (simp [rng2] at hx; done)
      cases y <;> try (simp [rng2] at hx; done)
      rename_i i j
      simp only [rng2] at hx
      split at hx
      · rename_i hj
        cases hx
        cases reps2 hr
        simp only [big] at hj
        exact ⟨i, j, rfl, by omega, q Z H1 _ F B (Ex.refl Z) R1 wk_range back0⟩
      · cases hx⟩
end

/-! ### for -/
def loopD (tg : GM) (body : SM) : List D → SM
  | [], S => .ok .nx S
  | d :: ds, S => match tg d S with
    | none => .st
    | some S1 => match body S1 with
      | .ok .nx S2 => loopD tg body ds S2
      | .ok .ct S2 => loopD tg body ds S2
      | .ok .bk S2 => .ok .nx S2
      | o => o
/-- what was lent is given back, whatever the loop came to -/
def giveBack (l : Lt) (o : Out Fl) : Out Fl := match o with
  | .st => .st
  | .ok f S => if lentOk l S then .ok f (unlend l S) else .st
  | .ex c S => if lentOk l S then .ex c (unlend l S) else .st
def mFor (it : IM) (tg : GM) (body : SM) : SM := fun S => (it S).bind fun q S1 => giveBack q.2 (loopD tg body q.1 S1)
theorem tI_bindS {σ : L2.St} {H : Hp} {W : WM} {m : IM} {k : List D × Lt → Sg → Out Fl} {E : Ends} {R : It → Hp → Prop} (h : tS W (fun S => (m S).bind k) E σ H)
    (hk : ∀ F Z B S q H1 J F1 B1, RepSt F1 Z B1 S σ H1 none → Wk F1 Z J q.1 → Back F F1 Z B B1 q.2 → PostS F Z B W E (k q S) → R J H1) : tI W m σ H R := by
  obtain ⟨F, Z, B, S, RS, p⟩ := h
  refine ⟨F, Z, B, S, RS, ?_⟩
  revert p
  show PostS F Z B W E ((m S).bind k) → _
  cases m S with
  | st => exact fun p => p
  | ok r S1 => exact fun p Z' H' J F1 B1 e R1 w b => hk F Z' B S1 r H' J F1 B1 R1 w b (p.mono e)
  | ex c S1 => exact fun p Z' H' e hr => p Z' σ H' e hr
theorem PostS.back {F F1 Z Z1 : Hp} {B B1 : Nat → Option V} {W : WM} {E : Ends} {l : Lt} {o : Out Fl} (b : Back F F1 Z B B1 l) (e : Ex Z Z1) (h : PostS F Z1 B W E (giveBack l o)) : PostS F1 Z1 B1 W E o := by
  cases o with
  | st => exact h
  | ok f S =>
    simp only [giveBack] at h
    by_cases hl : lentOk l S = true
    · rw [if_pos hl] at h
      cases f with
      | nx => exact fun Z' σ' H' e2 R => h Z' σ' H' e2 (b _ _ _ _ _ (e.trans e2) hl R)
      | bk => exact fun Z' σ' H' e2 R => h Z' σ' H' e2 (b _ _ _ _ _ (e.trans e2) hl R)
      | ct => exact fun Z' σ' H' e2 R => h Z' σ' H' e2 (b _ _ _ _ _ (e.trans e2) hl R)
      | rt r =>
        intro Z' σ' H' v e2 hr
        refine h Z' σ' H' v e2 ?_
        cases r with
        | d x => exact ⟨b _ _ _ _ _ (e.trans e2) hl hr.1, hr.2⟩
        | ref i => exact ⟨b _ _ _ _ _ (e.trans e2) hl hr.1, hr.2⟩
        | tmp o => exact b _ _ _ _ _ (e.trans e2) hl hr
    · rw [if_neg hl] at h; exact h.elim
  | ex c S =>
    simp only [giveBack] at h
    by_cases hl : lentOk l S = true
    · rw [if_pos hl] at h
      exact fun Z' σ' H' e2 R => h Z' σ' H' e2 (b _ _ _ _ _ (e.trans e2) hl R)
    · rw [if_neg hl] at h; exact h.elim
section
variable {X : Cx} {W : WM} {tg iter : Expr} {it : IM} {g : GM} {body : List Stmt} {mb : SM} {pos : Pos} {is : List Nat}
theorem js_for (hp : PassesOwn (model X.prog X.w) X.A X.env X.xe) (hc : X.calm = true) (hi : JI X W tg iter it) (hg : JG X tg g is) (hb : JB X W body mb) (hs : ∀ x, foldedSetIterable iter X.env x = pure x := by intro _; rfl) :
    JS X W (.For tg iter body [] pos) (mFor it g mb) := by
  refine ⟨PS.imp (ps_for hp hc hi.run hg.run hb.run hs) fun E σ H h => tI_bindS h fun F Z B S q H1 J F1 B1 R1 wk bk p => ?_⟩
  have p1 : PostS F1 Z B1 W E (loopD g mb q.1 S) := p.back bk (Ex.refl Z)
  generalize q.1 = ds at wk p1
  have wk2 := wk.two
  refine ⟨fun i m σ H => m = ds.length - i ∧ i ≤ ds.length ∧ ∃ Z2 S2, Ex Z Z2 ∧ RepSt F1 Z2 B1 S2 σ H none ∧ PostS F1 Z2 B1 W E (loopD g mb (ds.drop i) S2), ⟨ds.length, rfl, Nat.zero_le _, Z, S, Ex.refl Z, R1, by simpa using p1⟩, ?_⟩
  rintro i m σ H ⟨rfl, hi', Z2, S2, e2, R2, p2⟩
  obtain ⟨wgo, wst⟩ := wk2 i Z2 H e2 R2.exZ R2.exF
  by_cases hlt : i < ds.length
  · rw [List.drop_eq_getElem_cons hlt] at p2
    obtain ⟨go, yl⟩ := wgo ds[i] (List.getElem?_eq_getElem hlt)
    refine .inr ⟨go, fun σ' H' => ∃ Z2 S2, Ex Z Z2 ∧ RepSt F1 Z2 B1 S2 σ' H' none ∧ PostS F1 Z2 B1 W E (loopD g mb (ds.drop (i + 1)) S2), fun σ' H' hN => ⟨ds.length - (i + 1), by omega, rfl, hlt, hN⟩, fun x H' y => ?_⟩
    have key : ∃ Z3, Ex Z2 Z3 ∧ RepSt F1 Z3 B1 S2 σ H' none ∧ Rep Z3 x ds[i] := by
      rcases yl x H' y with ⟨e, rep⟩ | ⟨T, xs, hT, e, ex, es, ed, rr⟩
      · rw [e]; exact ⟨Z2, Ex.refl _, R2, rep⟩
      · rw [e, ex, ed]
        have hz := R2.exZ.free hT
        exact ⟨_, Ex.new hz, R2.new hT, .tup upd_same (rr.mono (Ex.new hz))⟩
    obtain ⟨Z3, e3, R3, rep⟩ := key
    have p3 := PostS.mono e3 p2
    simp only [loopD] at p3
    cases hgd : g ds[i] S2 with
    | none => rw [hgd] at p3; exact p3.elim
    | some S3 =>
      rw [hgd] at p3
      refine ⟨F1, Z3, B1, S2, none, ds[i], S3, R3, rep, hgd, fun σ' _ R4 => ⟨F1, Z3, B1, S3, R4, ?_⟩⟩
      dsimp only at p3
      revert p3
      cases mb S3 with
      | st => exact fun p => p
      | ex c S4 => exact fun p => p
      | ok f S4 =>
        cases f with
        | nx => exact fun p Z' σ' H' e R' => ⟨Z', S4, (e2.trans e3).trans e, R', p.mono e⟩
        | ct => exact fun p Z' σ' H' e R' => ⟨Z', S4, (e2.trans e3).trans e, R', p.mono e⟩
        | bk => exact fun p => p
        | rt r => exact fun p => p
  · have e : i = ds.length := by omega
    subst e
    rw [List.drop_length] at p2
    exact .inl ⟨wst (Nat.le_refl _), p2 Z2 σ H (Ex.refl _) R2⟩
end
end Ev

namespace Ev
open PySem PySem.Spec L2

/-! ### [elt for target in iter if ..] -/
section
variable {F Z Z' : Hp} {B : Nat → Option V} {S : Sg} {σ : L2.St} {H H' : Hp} {t : Option (V × Ob)}
theorem RepSt.tmpMut {a : Addr} {ds : List D} (R : RepSt F Z B S σ H (some (.ref a, .lst ds))) : ∃ xs, H a = some (.lst xs) ∧ Reps Z xs ds ∧
    ∀ xs' ds', Reps Z xs' ds' → RepSt F Z B S σ (upd H a (.lst xs')) (some (.ref a, .lst ds')) := by
  obtain ⟨hl, eF, eZ, dj, fp, h1, h2, h3, h4⟩ := R
  obtain ⟨a', xs, e, hf, ha, hr⟩ := h2
  cases e
  have hza := h3 none a (by simp [hf])
  refine ⟨xs, ha, hr, fun xs' ds' hr' => ⟨hl, eF.mut hza.2, eZ.mut hza.1, dj, fp, fun j => ?_, ⟨a, xs', rfl, hf, upd_same, hr'⟩, h3, h4⟩⟩
  refine (h1 j).at fun c hc => upd_ne fun z => ?_
  subst z
  have := h4 _ _ c hc (by simp [hf] : c ∈ fp none)
  cases this
def noS (S : Sg) : List Nat → Sg
  | [] => S
  | v :: vs => (noS S vs).set v .no
theorem RepSt.noS (R : RepSt F Z B S σ H t) : ∀ vs : List Nat, RepSt F Z B (noS S vs) (wipe σ vs) H t
  | [] => R
  | v :: vs => by unfold Ev.noS wipe; exact (R.noS vs).setNo
/-- the block's own names are as they were ahead -/
def resS (S1 S : Sg) : List Nat → Sg
  | [] => S
  | v :: vs => (resS S1 S vs).set v (gt S1 v)
def ownOk (S : Sg) (vs : List Nat) : Bool := vs.all fun i => match gt S i with
  | .no => true
  | .d _ => true
  | _ => false
theorem resS_len {S1 S : Sg} : ∀ vs : List Nat, (resS S1 S vs).length = S.length
  | [] => rfl
  | v :: vs => by unfold resS; rw [List.length_set, resS_len vs]
theorem resS_gt {S1 S : Sg} (h : S1.length = S.length) (i : Nat) : ∀ vs : List Nat, gt (resS S1 S vs) i = if i ∈ vs then gt S1 i else gt S i
  | [] => by simp [resS]
  | v :: vs => by
    unfold resS
    by_cases q : v = i
    · subst q
      simp only [List.mem_cons, true_or, if_true]
      by_cases hv : v < (resS S1 S vs).length
      · rw [gt_set_same hv]
      · have hv' : ¬ v < S1.length := by rw [h, ← resS_len (S1 := S1) vs]; exact hv
        rw [List.set_eq_of_length_le (Nat.le_of_not_lt hv)]
        unfold gt
        rw [List.getD, List.getD, List.getElem?_eq_none (Nat.le_of_not_lt hv), List.getElem?_eq_none (Nat.le_of_not_lt hv')]
    · rw [gt_set_ne q, resS_gt h i vs]
      have : (i ∈ v :: vs) = (i ∈ vs) := by simp [Ne.symm q]
      simp only [this]
theorem wipe_in {σ : L2.St} {i : Nat} : ∀ {vs : List Nat}, i ∈ vs → (wipe σ vs)[i]? = if i < σ.length then some none else none
  | v :: vs, h => by
    unfold wipe
    by_cases q : v = i
    · subst q
      by_cases hv : v < σ.length
      · rw [if_pos hv, List.getElem?_set_self (by rw [wipe_length]; exact hv)]
      · rw [if_neg hv, List.getElem?_eq_none (by rw [List.length_set, wipe_length]; exact Nat.le_of_not_lt hv)]
    · rw [List.getElem?_set_ne q]
      exact wipe_in (by simpa [Ne.symm q] using h)
theorem wipe_off {σ σ2 : L2.St} {vs is : List Nat} (o : Off is (wipe σ vs) σ2) (h : ∀ i ∈ is, i ∈ vs) : wipe σ2 vs = wipe σ vs := by
  have hl : σ2.length = σ.length := by rw [o.1, wipe_length]
  apply List.ext_getElem?
  intro i
  by_cases q : i ∈ vs
  · rw [wipe_in q, wipe_in q, hl]
  · rw [wipe_out q, o.2 i fun z => q (h i z)]
theorem RepSt.resS {Z1 F1 H1 : Hp} {B1 : Nat → Option V} {S1 : Sg} {vs : List Nat} {t1 : Option (V × Ob)} (R : RepSt F Z B S (wipe σ vs) H t) (R1 : RepSt F1 Z1 B1 S1 σ H1 t1) (e : Ex Z1 Z) (hk : ownOk S1 vs = true) : RepSt F Z B (resS S1 S vs) σ H t := by
  obtain ⟨hl, eF, eZ, dj, fp, h1, h2, h3, h4⟩ := R
  obtain ⟨hl1, _, _, _, fp1, g1, _, _, _⟩ := R1
  have hlw : S.length = σ.length := by rw [hl, wipe_length]
  have hll : S1.length = S.length := by rw [hl1, hlw]
  refine ⟨by rw [resS_len, hlw], eF, eZ, dj, fun j => match j with | none => fp none | some i => if i ∈ vs then [] else fp (some i), fun i => ?_, h2, fun j a ha => ?_, fun i j a hi hj => ?_⟩
  · rw [resS_gt hll i vs]
    by_cases q : i ∈ vs
    · simp only [if_pos q]
      have hs := g1 i
      have hk' := List.all_eq_true.mp hk i q
      cases hg : gt S1 i with
      | no => rfl
      | d x =>
        rw [hg] at hs
        obtain ⟨_, v, e1, r⟩ := hs
        exact ⟨rfl, v, e1, r.mono e⟩
      | own b o => rw [hg] at hk'; cases hk'
      | lent => rw [hg] at hk'; cases hk'
    · simp only [if_neg q]
      have := h1 i
      rw [wipe_out q] at this
      exact this
  · cases j with
    | none => exact h3 none a ha
    | some i =>
      by_cases q : i ∈ vs
      · simp [q] at ha
      · simp only [if_neg q] at ha; exact h3 _ a ha
  · cases i with
    | none =>
      cases j with
      | none => rfl
      | some j =>
        by_cases q : j ∈ vs
        · simp [q] at hj
        · simp only [if_neg q] at hj; exact h4 _ _ a hi hj
    | some i =>
      by_cases p : i ∈ vs
      · simp [p] at hi
      · simp only [if_neg p] at hi
        cases j with
        | none => exact h4 _ _ a hi hj
        | some j =>
          by_cases q : j ∈ vs
          · simp [q] at hj
          · simp only [if_neg q] at hj; exact h4 _ _ a hi hj
end

/-- the turns of a comprehension: what is found so far, what comes -/
def compD (tg : GM) (tt : TM) (me : EM) (own : List Nat) : List D → List D → Sg → Out (List D)
  | [], acc, S => .ok acc S
  | d :: ds, acc, S => match tg d S with
    | none => .st
    | some S1 => match tt S1 with
      | .ok true S2 => (match mD me S2 with
        | .ok x S3 => if acc.length < lim then compD tg tt me own ds (acc ++ [x]) (noS S3 own) else .st
        | _ => .st)
      | .ok false S2 => compD tg tt me own ds acc (noS S2 own)
      | _ => .st
def compK (tg : GM) (tt : TM) (me : EM) (own : List Nat) (q : List D × Lt) (S : Sg) : Out Rs := match compD tg tt me own q.1 [] (noS S own) with
  | .ok ds S2 => if ownOk S own && lentOk q.2 (resS S S2 own) then .ok (.tmp (.lst ds)) (unlend q.2 (resS S S2 own)) else .st
  | _ => .st
def mComp (it : IM) (tg : GM) (tt : TM) (me : EM) (own : List Nat) : EM := fun S => (it S).bind (compK tg tt me own)
def tYesM : TM := fun S => .ok true S
structure JTs (X : Cx) (ifs : List Expr) (m : TM) : Prop where
  run : PTs X ifs (tT W0 m)
theorem PTs.imp {X : Cx} {ifs : List Expr} {t t' : TT} (h : PTs X ifs t) (i : ∀ σ H Q, t' σ H Q → t σ H Q) : PTs X ifs t' := ⟨fun pins s σ H Q I hq => h.run pins s σ H Q I (i σ H Q hq)⟩
theorem jts_nil {X : Cx} : JTs X [] tYesM := ⟨PTs.imp pts_nil fun σ H Q h => by
  obtain ⟨F, Z, B, S, R, p⟩ := h
  exact p Z H (Ex.refl _) R⟩
theorem jts_one {X : Cx} {c : Expr} {m : TM} (h : JT X W0 c m) : JTs X [c] m := ⟨pts_one h.run⟩
theorem tI_bindE {σ : L2.St} {H : Hp} {W : WM} {m : IM} {k : List D × Lt → Sg → Out Rs} {Q : VK} {R : It → Hp → Prop} (h : tE W (fun S => (m S).bind k) σ H Q)
    (hk : ∀ F Z B S q H1 J F1 B1, RepSt F1 Z B1 S σ H1 none → Wk F1 Z J q.1 → Back F F1 Z B B1 q.2 → PostE F Z B σ W Q (k q S) → R J H1) : tI W m σ H R := by
  obtain ⟨F, Z, B, S, RS, p⟩ := h
  refine ⟨F, Z, B, S, RS, ?_⟩
  revert p
  show PostE F Z B σ W Q ((m S).bind k) → _
  cases m S with
  | st => exact fun p => p
  | ok r S1 => exact fun p Z' H' J F1 B1 e R1 w b => hk F Z' B S1 r H' J F1 B1 R1 w b (p.mono e)
  | ex c S1 => exact fun p Z' H' e hr => p Z' H' e hr
theorem comp_turns {F1 Z : Hp} {B1 : Nat → Option V} {S : Sg} {σ : L2.St} {H1 : Hp} {J : It} {ds0 : List D} {g : GM} {is own : List Nat} {mt : TM} {me : EM} {Q : VK}
    (his : ∀ i ∈ is, i ∈ own) (R1 : RepSt F1 Z B1 S σ H1 none) (wk : Wk F1 Z J ds0) {dsF : List D} {SF : Sg} (hd : compD g mt me own ds0 [] (noS S own) = .ok dsF SF)
    {D : Addr} (hD : H1 D = none) (hQ : ∀ Z' H', Ex Z Z' → RepSt F1 Z' B1 SF (wipe σ own) H' (some (.ref D, .lst dsF)) → Q (.ref D) H') :
    ∃ Wd : Nat → Nat → Hp → Prop, (∃ m, Wd 0 m (upd H1 D (.lst []))) ∧ ∀ i m H, Wd i m H →
  (J.stop i H ∧ Q (.ref D) H) ∨ (J.go i H ∧ ∃ Nx : Hp → Prop, (∀ H', Nx H' → ∃ m', m' < m ∧ Wd (i + 1) m' H') ∧ ∀ x H', J.yld i H x H' → tG g is x (wipe σ own) H' fun σ2 H2 => wipe σ2 own = wipe σ own ∧ tT W0 mt σ2 H2 fun b H3 =>
    if b = true then tE W0 me σ2 H3 fun y H4 => ∃ acc, H4 D = some (.lst acc) ∧ acc.length < sizeLine ∧ Nx (upd H4 D (.lst (acc ++ [y]))) else Nx H3) := by
  have wk2 := wk.two
  let Wn : Nat → Hp → Prop := fun i H => ∃ Z2 S2 acc, Ex Z Z2 ∧ RepSt F1 Z2 B1 S2 (wipe σ own) H (some (.ref D, .lst acc)) ∧ compD g mt me own (ds0.drop i) acc S2 = .ok dsF SF
  refine ⟨fun i m H => m = ds0.length - i ∧ i ≤ ds0.length ∧ Wn i H, ⟨ds0.length, rfl, Nat.zero_le _, Z, noS S own, [], Ex.refl Z, (R1.tmp hD (holds_lst .nil)).noS own, by simpa using hd⟩, ?_⟩
  rintro i m H ⟨rfl, hi', Z2, S2, acc, e2, R2, p2⟩
  obtain ⟨wgo, wst⟩ := wk2 i Z2 H e2 R2.exZ R2.exF
  by_cases hlt : i < ds0.length
  · rw [List.drop_eq_getElem_cons hlt] at p2
    obtain ⟨go, yl⟩ := wgo ds0[i] (List.getElem?_eq_getElem hlt)
    refine .inr ⟨go, Wn (i + 1), fun H' hN => ⟨ds0.length - (i + 1), by omega, rfl, hlt, hN⟩, fun x H' y => ?_⟩
    have key : ∃ Z3, Ex Z2 Z3 ∧ RepSt F1 Z3 B1 S2 (wipe σ own) H' (some (.ref D, .lst acc)) ∧ Rep Z3 x ds0[i] := by
      rcases yl x H' y with ⟨e, rep⟩ | ⟨T, xs, hT, e, ex, es, ed, rr⟩
      · rw [e]; exact ⟨Z2, Ex.refl _, R2, rep⟩
      · rw [e, ex, ed]
        have hz := R2.exZ.free hT
        exact ⟨_, Ex.new hz, R2.new hT, .tup upd_same (rr.mono (Ex.new hz))⟩
    obtain ⟨Z3, e3, R3, rep⟩ := key
    obtain ⟨F2, eF, R4, back⟩ := R3.aside
    simp only [compD] at p2
    cases hgd : g ds0[i] S2 with
    | none => rw [hgd] at p2; cases p2
    | some S3 =>
      rw [hgd] at p2
      dsimp only at p2
      refine ⟨F2, Z3, B1, S2, none, ds0[i], S3, R4, rep, hgd, fun σ2 off R5 => ⟨wipe_off off his, F2, Z3, B1, S3, R5, ?_⟩⟩
      have hw : wipe σ2 own = wipe σ own := wipe_off off his
      cases hmt : mt S3 with
      | st => rw [hmt] at p2; cases p2
      | ex c S4 => rw [hmt] at p2; cases p2
      | ok b S4 =>
        rw [hmt] at p2
        intro Z4 H4 e4 R6
        cases b with
        | false =>
          simp only [Bool.false_eq_true, if_false]
          have R7 := (back _ _ _ _ e4 R6).noS own
          rw [hw] at R7
          exact ⟨Z4, _, acc, (e2.trans e3).trans e4, R7, p2⟩
        | true =>
          simp only [if_true]
          refine ⟨F2, Z4, B1, S4, R6, ?_⟩
          simp only [mD] at p2
          cases hme : me S4 with
          | st => rw [hme] at p2; cases p2
          | ex c S5 => rw [hme] at p2; cases p2
          | ok r S5 =>
            rw [hme] at p2
            simp only [bind_ok] at p2
            intro Z5 H5 v e5 hr
            cases hsh : share r S5 with
            | none => rw [hsh] at p2; cases p2
            | some q =>
              obtain ⟨dx, S6⟩ := q
              rw [hsh] at p2
              dsimp only at p2
              split at p2
              · rename_i hlen
                obtain ⟨Z6, e6, R8, rep6⟩ := share_ok hr hsh
                have R9 := (back _ _ _ _ ((e4.trans e5).trans e6) R8).noS own
                rw [hw] at R9
                obtain ⟨xs, hxs, rr, mk⟩ := R9.tmpMut
                refine ⟨xs, hxs, lim_lt (by rw [rr.length]; exact hlen), Z6, _, acc ++ [dx], (((e2.trans e3).trans e4).trans e5).trans e6, mk _ _ (rr.append (.cons rep6 .nil)), p2⟩
              · cases p2
  · have e : i = ds0.length := by omega
    subst e
    rw [List.drop_length] at p2
    simp only [compD] at p2
    cases p2
    exact .inl ⟨wst (Nat.le_refl _), hQ Z2 H e2 R2⟩
theorem compK_ok {tg : GM} {tt : TM} {me : EM} {own : List Nat} {q : List D × Lt} {S : Sg} {o : Out Rs} (h : compK tg tt me own q S = o) (hn : o ≠ .st) :
    ∃ ds S2, compD tg tt me own q.1 [] (noS S own) = .ok ds S2 ∧ ownOk S own = true ∧ lentOk q.2 (resS S S2 own) = true ∧ o = .ok (.tmp (.lst ds)) (unlend q.2 (resS S S2 own)) := by
  unfold compK at h
  split at h
  · rename_i ds S2 e
    split at h
    · rename_i hc
      rw [Bool.and_eq_true] at hc
      exact ⟨ds, S2, e, hc.1, hc.2, h.symm⟩
    · exact absurd h.symm hn
  · exact absurd h.symm hn
theorem tComp {W : WM} {it : IM} {g : GM} {is own : List Nat} {mt : TM} {me : EM} {Q : VK} {σ : L2.St} {H : Hp} (his : ∀ i ∈ is, i ∈ own) (h : tE W (mComp it g mt me own) σ H Q) :
    tLc (tI W it) (tG g is) (tT W0 mt) (tE W0 me) own σ H Q := by
  refine tI_bindE h fun F Z B S q H1 J F1 B1 R1 wk bk p D hD => ?_
  have hn : compK g mt me own q S ≠ .st := fun e => by rw [e] at p; exact p
  obtain ⟨dsF, SF, hd, ho, hl, e⟩ := compK_ok rfl hn
  rw [e] at p
  exact comp_turns his R1 wk hd hD fun Z' H' e' R' => p Z' H' (.ref D) e' (bk Z' _ _ _ _ e' hl (R'.resS R1 e' ho))
section
variable {X : Cx} {W : WM}
abbrev AllBlk (X : Cx) (scope : Scope) (P : Cx → Prop) : Prop := ∀ (s : Shared) (H : Hp) (C : Addr) (cl : List (Str × Addr)) (fp : List Addr), P (X.blk s H scope (compEnvC scope cl C X.env) fp)
theorem je_comp {elt tg iter : Expr} {ifs : List Expr} {scope : Scope} {own : List (Str × Nat)} {pos : Pos} {it : IM} {g : GM} {is : List Nat} {mt : TM} {me : EM} (hc : X.calm = true) (hN : X.N.Nodup) (hi : JI X W tg iter it) (ok : blkC X.N X.env.scope scope own = true)
    (hg : AllBlk X scope fun Y => JG Y tg g is) (ht : AllBlk X scope fun Y => JTs Y ifs mt) (he : AllBlk X scope fun Y => JE Y W0 elt me) (his : ∀ i ∈ is, i ∈ own.map (·.2)) (hs : ∀ x, foldedSetIterable iter X.env x = pure x := by intro _; rfl) :
    JE X W (.ListComp elt [⟨tg, iter, ifs, 0⟩] scope pos) (mComp it g mt me (own.map (·.2))) :=
  ⟨PE.imp (pe_lc hc hN hi.run (blkOk_by ok) (fun s H C cl fp => (hg s H C cl fp).run) (fun s H C cl fp => (ht s H C cl fp).run) (fun s H C cl fp => (he s H C cl fp).run) hs) fun σ H Q h => tComp his h⟩
theorem js_comp {i : Nat} {y : Str} {py : Pos} {spos : Pos} {elt tg iter : Expr} {ifs : List Expr} {scope : Scope} {own : List (Str × Nat)} {pos : Pos} {it : IM} {g : GM} {is : List Nat} {mt : TM} {me : EM} (hc : X.calm = true) (hN : X.N.Nodup)
    (hi : JI X W tg iter it) (ok : blkC X.N X.env.scope scope own = true) (hsw : swapsWith (.ListComp elt [⟨tg, iter, ifs, 0⟩] scope pos) (some (.Name y py)) spos.line X.env = pure true)
    (hg : AllBlk X scope fun Y => JG Y tg g is) (ht : AllBlk X scope fun Y => JTs Y ifs mt) (he : AllBlk X scope fun Y => JE Y W0 elt me) (his : ∀ i ∈ is, i ∈ own.map (·.2))
    (hy : X.N[i]? = some y := by rfl) (hyl : X.env.scope.names.lookup y = some .local := by rfl) (hs : ∀ x, foldedSetIterable iter X.env x = pure x := by intro _; rfl) :
    JS X W (.Assign [.Name y py] (.ListComp elt [⟨tg, iter, ifs, 0⟩] scope pos) spos) (mSet i (mComp it g mt me (own.map (·.2)))) :=
  ⟨PS.imp (ps_setLc hc hN hy hyl hsw hi.run (blkOk_by ok) (fun s H C cl fp => (hg s H C cl fp).run) (fun s H C cl fp => (ht s H C cl fp).run) (fun s H C cl fp => (he s H C cl fp).run) hs) fun E σ H h => by
    obtain ⟨F, Z, B, S, R, p⟩ := h
    refine (fun q => ?_ : tE W (mComp it g mt me (own.map (·.2))) σ H (fun x H1 => gName i x σ H1 E.nx) → _) ?_
    · exact tComp his q
    · refine ⟨F, Z, B, S, R, ?_⟩
      revert p
      simp only [mSet]
      cases mComp it g mt me (own.map (·.2)) S with
      | st => exact fun p => p
      | ex c S1 => exact fun p Z' H' e R' => p Z' σ H' e R'
      | ok r S1 =>
        intro p Z1 H1 v e1 hr
        simp only [bind_ok] at p
        cases hsr : setR i r S1 with
        | none => rw [hsr] at p; exact p.elim
        | some S2 =>
          rw [hsr] at p
          obtain ⟨Z2, e2, R2⟩ := setR_ok hr hsr
          exact p Z2 _ H1 (e1.trans e2) R2⟩
end
end Ev

namespace Ev
open PySem PySem.Spec L2

/-! ### calls of built-in things -/
inductive Views (Z H : Hp) : List V → List D → Prop
  | nil : Views Z H [] []
  | cons {v : V} {d : D} {vs : List V} {ds : List D} (h : View Z H v d) (t : Views Z H vs ds) : Views Z H (v :: vs) (d :: ds)
def peeks (S : Sg) : List Rs → Option (List D)
  | [] => some []
  | r :: rs => match peek S r, peeks S rs with
    | some d, some ds => some (d :: ds)
    | _, _ => none
/-- arguments that are looked at -/
structure JF (X : Cx) (W : WM) (es : List Expr) (m : AM) : Prop where
  run : PA X es (tA W m)
  fz : ∀ S S' rs, m S = .ok rs S' → ∀ r ∈ rs, frzR r = r
  ne : es ≠ [] → ∀ S S' rs, m S = .ok rs S' → rs ≠ []
theorem frzR_idem (r : Rs) : frzR (frzR r) = frzR r := by cases r <;> rfl
def fLast (a : EM) : AM := aLast (frz a)
section
variable {X : Cx} {W : WM} {e e2 : Expr} {es : List Expr} {a : EM} {r : AM}
theorem jf_nil : JF X W [] aNil := ⟨ja_nil.run, fun S S' rs h => (by cases h; intro r hr; exact absurd hr (by simp)), fun h => absurd rfl h⟩
theorem jf_last (ha : JE X W e a) (hs : starEach [e] X.env = (false, eval e X.env) :: starEach [] X.env := by rfl) : JF X W [e] (fLast a) :=
  ⟨(ja_last ha.frz hs).run, fun S S' rs h => by
    simp only [fLast, aLast, frz] at h
    cases ha : a S with
    | st => rw [ha] at h; cases h
    | ex c S1 => rw [ha] at h; cases h
    | ok r S1 =>
      rw [ha] at h
      simp only [bind_ok] at h
      cases h
      intro q hq
      simp only [List.mem_singleton] at hq
      rw [hq, frzR_idem], fun _ S S' rs h => ne_last S S' rs h⟩
theorem jf_cons (ha : JE X W e a) (hr : JF X W (e2 :: es) r) (hs : starEach (e :: e2 :: es) X.env = (false, eval e X.env) :: starEach (e2 :: es) X.env := by rfl) : JF X W (e :: e2 :: es) (aCons a r) :=
  ⟨(ja_cons ha ⟨hr.run⟩ (hr.ne (by simp)) hs).run, fun S S' rs h => by
    simp only [aCons, frz] at h
    cases ha : a S with
    | st => rw [ha] at h; cases h
    | ex c S1 => rw [ha] at h; cases h
    | ok x S1 =>
      rw [ha] at h
      simp only [bind_ok] at h
      cases hr' : r S1 with
      | st => rw [hr'] at h; cases h
      | ex c S2 => rw [hr'] at h; cases h
      | ok xs S2 =>
        rw [hr'] at h
        simp only [bind_ok] at h
        cases h
        intro q hq
        rcases List.mem_cons.mp hq with z | z
        · rw [z, frzR_idem]
        · exact hr.fz _ _ _ hr' q z, fun _ S S' rs h => ne_cons S S' rs h⟩
end
theorem ress_views {F Z : Hp} {B : Nat → Option V} {S : Sg} {σ : L2.St} {H : Hp} : ∀ {rs : List Rs} {vs : List V} {ds : List D}, RessOk F Z B S σ H rs vs → (∀ r ∈ rs, frzR r = r) → peeks S rs = some ds → RepSt F Z B S σ H none ∧ Views Z H vs ds
  | [], vs, ds, h, _, hp => by
    obtain ⟨rfl, R⟩ := h
    cases hp
    exact ⟨R, .nil⟩
  | [r], vs, ds, h, hf, hp => by
    obtain ⟨v, rfl, hr⟩ := h
    have hk := hf r (by simp)
    rw [← hk] at hr
    obtain ⟨R, k⟩ := hr.kept
    rw [hk] at k
    simp only [peeks] at hp
    cases hq : peek S r with
    | none => rw [hq] at hp; cases hp
    | some d =>
      rw [hq] at hp
      cases hp
      exact ⟨R, .cons (k.view R hq) .nil⟩
  | r :: r2 :: rs, vs, ds, h, hf, hp => by
    obtain ⟨v, ws, rfl, k, h2⟩ := h
    rw [peeks] at hp
    cases hq : peek S r with
    | none => rw [hq] at hp; cases hp
    | some d =>
      cases hq2 : peeks S (r2 :: rs) with
      | none => rw [hq, hq2] at hp; cases hp
      | some ds2 =>
        rw [hq, hq2] at hp
        cases hp
        obtain ⟨R, vs2⟩ := ress_views h2 (fun r' hr' => hf r' (List.mem_cons_of_mem _ hr')) hq2
        have k' : Kept Z σ r v := by
          cases r with
          | d x => exact k
          | ref i => exact k
          | tmp o => exact k
        exact ⟨R, .cons (k'.view R hq) vs2⟩
/-- what is asked of a call with such arguments -/
def rG (g : List D → Option Rs) : List V → Hp → VK → Prop := fun vs H Q => ∃ F Z B S σ ds r, RepSt F Z B S σ H none ∧ Views Z H vs ds ∧ g ds = some r ∧ ∀ Z' H' w, Ex Z Z' → ResOk F Z' B S σ H' r w → Q w H'
def mBi (g : List D → Option Rs) (as : AM) : EM := fun S => (as S).bind fun rs S1 => match peeks S1 rs with
  | some ds => ofO (g ds) S1
  | none => .st
theorem CallR.imp {X : Cx} {f : Value} {r r' : List V → Hp → VK → Prop} (h : CallR X f r) (i : ∀ vs H Q, r' vs H Q → r vs H Q) : CallR X f r' := fun pins s σ H xs us Q I rs q => h pins s σ H xs us Q I rs (i xs H Q q)
theorem MtR.imp {X : Cx} {id : String} {r r' : V → List V → Hp → VK → Prop} (h : MtR X id r) (i : ∀ x vs H Q, r' x vs H Q → r x vs H Q) : MtR X id r' := fun pins s σ H x xs v us Q I rx rs q => h pins s σ H x xs v us Q I rx rs (i x xs H Q q)
theorem IxR.imp {X : Cx} {r r' : R2} (h : IxR X r) (i : ∀ x y H Q, r' x y H Q → r x y H Q) : IxR X r' := fun value slice pins s σ H x y v u Q I rx ry q hs => h value slice pins s σ H x y v u Q I rx ry (i x y H Q q) hs
section
variable {X : Cx} {W : WM} {e : Expr} {es : List Expr} {m : AM} {g : List D → Option Rs} {σ : L2.St} {H : Hp} {Q : VK}
theorem tE_bi (hf : JF X W es m) (h : tE W (mBi g m) σ H Q) : tCB (rG g) (tA W m) σ H Q := by
  obtain ⟨F, Z, B, S, R, p⟩ := h
  refine ⟨F, Z, B, S, R, ?_⟩
  revert p
  simp only [mBi]
  cases hm : m S with
  | st => exact fun p => p
  | ex c S1 => exact fun p => p
  | ok rs S1 =>
    intro p Z' H' vs e hr
    simp only [bind_ok] at p
    cases hp : peeks S1 rs with
    | none => rw [hp] at p; exact p.elim
    | some ds =>
      rw [hp] at p
      dsimp only at p
      obtain ⟨R1, vw⟩ := ress_views hr (hf.fz _ _ _ hm) hp
      cases hg : g ds with
      | none => rw [hg] at p; exact p.elim
      | some r =>
        rw [hg] at p
        exact ⟨F, Z', B, S1, σ, ds, r, R1, vw, hg, fun Z2 H2 w e2 hr2 => p Z2 H2 w (e.trans e2) hr2⟩
variable {x : Str} {p pos : Pos} {id T : String}
theorem je_blt (hc : CallR X (.builtin id) (rG g)) (ha : JF X W (e :: es) m) (hm : X.mg x = none) (hg : Gl X x := by first | exact Or.inl rfl | exact Or.inr rfl | exact rfl) (hv : bootBuiltins x = some (.builtin id) := by first | rfl | decide +kernel)
    (hn : x ≠ "__name__" := by decide) (hdb : (x == ("__debug__" : Str)) = false := by decide)
    (he : starEach (e :: es) X.env = (false, eval e X.env) :: starEach es X.env := by rfl) (hpl : (backTo pos (starEach es X.env)).any (·.1) = false := by rfl) : JE X W (.Call (.Name x p) (e :: es) [] pos) (mBi g m) :=
  ⟨PE.imp (pe_callB hc hg hm hv ha.run hn hdb he hpl) fun σ H Q h => tE_bi ha h⟩
theorem je_ty (hc : CallR X (.type T) (rG g)) (ha : JF X W (e :: es) m) (hm : X.mg x = none) (hg : Gl X x := by first | exact Or.inl rfl | exact Or.inr rfl | exact rfl) (hv : bootBuiltins x = some (.type T) := by first | rfl | decide +kernel)
    (hn : x ≠ "__name__" := by decide) (hdb : (x == ("__debug__" : Str)) = false := by decide)
    (he : starEach (e :: es) X.env = (false, eval e X.env) :: starEach es X.env := by rfl) (hpl : (backTo pos (starEach es X.env)).any (·.1) = false := by rfl) : JE X W (.Call (.Name x p) (e :: es) [] pos) (mBi g m) :=
  ⟨PE.imp (pe_callTy hc hg hm hv ha.run hn hdb he hpl) fun σ H Q h => tE_bi ha h⟩
end

/-! ### the built-in functions -/
def lenD : D → Option Nat
  | .str x => some x.length
  | .list xs => some xs.length
  | .tuple xs => some xs.length
  | .dict es => (scrOf es).map List.length
  | _ => none
def gLen : List D → Option Rs
  | [x] => match lenD x with
    | some n => if n ≤ lim then some (.d (.int n)) else none
    | none => none
  | _ => none
theorem views1 {Z H : Hp} {vs : List V} {d : D} (h : Views Z H vs [d]) : ∃ v, vs = [v] ∧ View Z H v d := by
  cases h with
  | cons h t => cases t; exact ⟨_, rfl, h⟩
theorem views2 {Z H : Hp} {vs : List V} {d d2 : D} (h : Views Z H vs [d, d2]) : ∃ v w, vs = [v, w] ∧ View Z H v d ∧ View Z H w d2 := by
  cases h with
  | cons h t => cases t with | cons h2 t2 => cases t2; exact ⟨_, _, rfl, h, h2⟩
theorem cr_len {X : Cx} : CallR X (.builtin "len") (rG gLen) := CallR.imp (call_len (X := X)) fun vs H Q h => by
  obtain ⟨F, Z, B, S, σ, ds, r, R, vw, hg, q⟩ := h
  match ds, vw, hg with
  | [x], vw, hg =>
    obtain ⟨v, rfl, hv⟩ := views1 vw
    simp only [gLen] at hg
    cases hl : lenD x with
    | none => rw [hl] at hg; cases hg
    | some n =>
      rw [hl] at hg
      dsimp only at hg
      split at hg
      · rename_i hn
        cases hg
        refine ⟨v, n, rfl, ?_, q Z H _ (Ex.refl Z) ⟨R, .int _⟩⟩
        cases x with
        | str z => cases hl; rw [view_str hv]; exact ⟨lim_le hn, rfl⟩
        | list xs => cases hl; obtain ⟨a, ys, rfl, h1, h2⟩ := hv; exact .inl ⟨ys, SqL.of h1, h2.length.symm⟩
        | tuple xs => cases hl; obtain ⟨a, ys, rfl, h1, h2⟩ := view_tup hv; exact .inr ⟨ys, SqT.of (R.exZ _ _ h1), h2.length.symm⟩
        | dict es =>
          simp only [lenD] at hl
          cases hs : scrOf es with
          | none => rw [hs] at hl; cases hl
          | some ds =>
            rw [hs] at hl
            cases hl
            rw [scrOf_some hs] at hv
            obtain ⟨a, ns, o, rfl, h1, rfl⟩ := view_scr hv
            exact .inl ⟨_, .inl (.inr ⟨o, h1⟩), by simp⟩
        | none => cases hl
        | bool b => cases hl
        | int i => cases hl
      · cases hg
/-- the items of a list or a tuple -/
def seqD : D → Option (List D)
  | .list xs => some xs
  | .tuple xs => some xs
  | _ => none
def gTuple : List D → Option Rs
  | [.list xs] => some (.d (.tuple xs))
  | [.tuple xs] => some (.d (.tuple xs))
  | _ => none
theorem cr_tuple {X : Cx} : CallR X (.type "tuple") (rG gTuple) := CallR.imp (call_tuple_of (X := X)) fun vs H Q h => by
  obtain ⟨F, Z, B, S, σ, ds, r, R, vw, hg, q⟩ := h
  match ds, vw, hg with
  | [.list xs], vw, hg =>
    obtain ⟨v, rfl, hv⟩ := views1 vw
    cases hg
    obtain ⟨a, ys, rfl, h1, h2⟩ := hv
    exact ⟨a, ys, rfl, .inl ⟨SqL.of h1, fun l hl => q _ _ _ (Ex.new (R.exZ.free hl)) (ResOk.tup R hl h2)⟩⟩
  | [.tuple xs], vw, hg =>
    obtain ⟨v, rfl, hv⟩ := views1 vw
    cases hg
    have hv' := hv
    obtain ⟨a, ys, rfl, h1, h2⟩ := view_tup hv
    exact ⟨a, ys, rfl, .inr ⟨SqT.of (R.exZ _ _ h1), q Z H _ (Ex.refl Z) ⟨R, hv'⟩⟩⟩
def gList : List D → Option Rs
  | [.list xs] => some (.tmp (.lst xs))
  | [.tuple xs] => some (.tmp (.lst xs))
  | _ => none
theorem cr_list {X : Cx} : CallR X (.type "list") (rG gList) := CallR.imp (call_list_of (X := X)) fun vs H Q h => by
  obtain ⟨F, Z, B, S, σ, ds, r, R, vw, hg, q⟩ := h
  match ds, vw, hg with
  | [.list xs], vw, hg =>
    obtain ⟨v, rfl, hv⟩ := views1 vw
    cases hg
    obtain ⟨a, ys, rfl, h1, h2⟩ := hv
    exact ⟨a, ys, rfl, .inl (SqL.of h1), fun l hl => q _ _ _ (Ex.refl Z) (ResOk.lst R hl h2)⟩
  | [.tuple xs], vw, hg =>
    obtain ⟨v, rfl, hv⟩ := views1 vw
    cases hg
    obtain ⟨a, ys, rfl, h1, h2⟩ := view_tup hv
    exact ⟨a, ys, rfl, .inr (SqT.of (R.exZ _ _ h1)), fun l hl => q _ _ _ (Ex.refl Z) (ResOk.lst R hl h2)⟩
/-- ints alone -/
def intsOf : List D → Option (List Int)
  | [] => some []
  | .int i :: r => (intsOf r).map (i :: ·)
  | _ => none
theorem intsOf_ok {Z : Hp} : ∀ {vs : List V} {ds : List D} {ns : List Int}, Reps Z vs ds → intsOf ds = some ns → vs = ns.map V.int
  | _, _, _, .nil, h => by cases h; rfl
  | _, _, _, .cons (d := d) (ds := ds) r t, h => by
    cases d with
    | int i =>
      simp only [intsOf] at h
      cases hi : intsOf ds with
      | none => rw [hi] at h; cases h
      | some ms =>
        rw [hi] at h
        cases h
        cases r
        rw [intsOf_ok t hi]; rfl
    | _ => cases h
end Ev

namespace Ev
open PySem PySem.Spec L2

/-! ### subscripts -/
/-- what is asked of an operation on two values -/
def rB (g : D → D → Option Rs) : R2 := fun x y H Q => ∃ F Z B S σ dx dy r, RepSt F Z B S σ H none ∧ View Z H x dx ∧ View Z H y dy ∧ g dx dy = some r ∧ ∀ Z' H' w, Ex Z Z' → ResOk F Z' B S σ H' r w → Q w H'
theorem tE_two {W : WM} {g : D → D → Option Rs} {ma mb : EM} {σ : L2.St} {H : Hp} {Q : VK} (h : tE W (mBin g ma mb) σ H Q) : tOp (rB g) (tE W (frz ma)) (tE W (frz mb)) σ H Q := by
  have h1 : tE W (frz ma) σ H (fun x H1 => ∃ F Z B S1 r1, RepSt F Z B S1 σ H1 none ∧ Kept Z σ r1 x ∧ PostE F Z B σ W Q ((frz mb S1).bind fun r2 S2 => match peek S2 r1, peek S2 r2 with
      | some x, some y => ofO (g x y) S2
      | _, _ => .st)) := by
    refine tE_bind h fun F Z B S r v H1 hr p => ?_
    cases r with
    | d x => exact ⟨F, Z, B, S, .d x, hr.1, hr.2, p⟩
    | ref i => exact ⟨F, Z, B, S, .ref i, hr.1, hr.2, p⟩
    | tmp o =>
      obtain ⟨Z', e, hr'⟩ := ResOk.frz hr
      cases hp : (frz mb S) with
      | st => rw [hp] at p; exact p.elim
      | ok r2 S2 =>
        rw [hp] at p
        refine ⟨F, Z', B, S, .d o.toD, hr'.1, hr'.2, ?_⟩
        rw [hp]
        exact p.mono e
      | ex c S2 =>
        rw [hp] at p
        refine ⟨F, Z', B, S, .d o.toD, hr'.1, hr'.2, ?_⟩
        rw [hp]
        exact p.mono e
  obtain ⟨F0, Z0, B0, S0, R0, p0⟩ := h1
  refine ⟨F0, Z0, B0, S0, R0, ?_⟩
  revert p0
  cases frz ma S0 with
  | st => exact fun p => p
  | ex c S1 => exact fun p => p
  | ok r S1' =>
    intro p0 Z' H' x ee hr
    obtain ⟨F, Z, B, S1, r1, R1, k1, p1⟩ := p0 Z' H' x ee hr
    refine ⟨F, Z, B, S1, R1, ?_⟩
    revert p1
    cases frz mb S1 with
    | st => exact fun p => p
    | ex c S2 => exact fun p => p
    | ok r2 S2 =>
      intro p Z' H' y e hr
      have k1' := k1.mono e
      have fin : ∀ Z2, Ex Z' Z2 → RepSt F Z2 B S2 σ H' none → ∀ r2', peek S2 r2' = peek S2 r2 → Kept Z2 σ r2' y → rB g x y H' Q := by
        intro Z2 e2 R2 r2' hpk k2
        have p2 := PostE.mono (e.trans e2) p
        dsimp only [Out.bind] at p2
        cases hx : peek S2 r1 with
        | none => rw [hx] at p2; exact p2.elim
        | some dx =>
          cases hy : peek S2 r2 with
          | none => rw [hx, hy] at p2; exact p2.elim
          | some dy =>
            rw [hx, hy] at p2
            dsimp only at p2
            cases hg : g dx dy with
            | none => rw [hg] at p2; exact p2.elim
            | some r =>
              rw [hg] at p2
              exact ⟨F, Z2, B, S2, σ, dx, dy, r, R2, (k1'.mono e2).view R2 hx, k2.view R2 (by rw [hpk, hy]), hg, p2⟩
      cases r2 with
      | d x2 => exact fin Z' (Ex.refl _) hr.1 _ rfl hr.2
      | ref i => exact fin Z' (Ex.refl _) hr.1 _ rfl hr.2
      | tmp o =>
        obtain ⟨Z2, e2, hr'⟩ := ResOk.frz hr
        exact fin Z2 e2 hr'.1 (.d o.toD) rfl hr'.2
/-- a text's sign -/
def gIx : D → D → Option Rs
  | .list xs, .int i => (atI xs i).map .d
  | .tuple xs, .int i => (atI xs i).map .d
  | .str x, .int i => if x.length ≤ lim then (atI x.cps.toList i).map fun c => .d (.str ⟨#[c]⟩) else none
  | .dict es, .int i => match scrOf es with
    | some ds => (atI ds i).map .d
    | none => none
  | _, _ => none
theorem atI_reps {Z : Hp} {vs : List V} {ds : List D} (h : Reps Z vs ds) {i : Int} {d : D} (e : atI ds i = some d) : ∃ v, atI vs i = some v ∧ Rep Z v d := by
  unfold atI at e ⊢
  rw [h.length]
  cases hn : ixN ds.length i with
  | none => rw [hn] at e; cases e
  | some j =>
    rw [hn] at e
    obtain ⟨v, h1, h2⟩ := h.get (i := j) e
    exact ⟨v, h1, h2⟩
theorem map_d {o : Option D} {r : Rs} (h : o.map Rs.d = some r) : ∃ d, o = some d ∧ r = .d d := by
  cases o with
  | none => cases h
  | some d => cases h; exact ⟨d, rfl, rfl⟩
theorem reps_ints {Z : Hp} : ∀ ns : List Int, Reps Z (ns.map V.int) (ns.map PyData.int)
  | [] => .nil
  | n :: ns => .cons (.int n) (reps_ints ns)
theorem ix_data {X : Cx} : IxR X (rB gIx) := IxR.imp (ix_seq (X := X)) fun x y H Q h => by
  obtain ⟨F, Z, B, S, σ, dx, dy, r, R, vx, vy, hg, q⟩ := h
  cases dy with
  | int i =>
    rw [view_int vy]
    cases dx with
    | list xs =>
      obtain ⟨a, ys, rfl, h1, h2⟩ := vx
      obtain ⟨d, h3, rfl⟩ := map_d hg
      obtain ⟨v, h4, h5⟩ := atI_reps h2 h3
      exact .inl ⟨a, ys, i, v, rfl, rfl, SqL.of h1, h4, q Z H _ (Ex.refl Z) ⟨R, h5⟩⟩
    | tuple xs =>
      obtain ⟨a, ys, rfl, h1, h2⟩ := view_tup vx
      obtain ⟨d, h3, rfl⟩ := map_d hg
      obtain ⟨v, h4, h5⟩ := atI_reps h2 h3
      exact .inr (.inl ⟨a, ys, i, v, rfl, rfl, SqT.of (R.exZ _ _ h1), h4, q Z H _ (Ex.refl Z) ⟨R, h5⟩⟩)
    | str z =>
      rw [view_str vx]
      simp only [gIx] at hg
      split at hg
      · rename_i hz
        cases ha : atI z.cps.toList i with
        | none => rw [ha] at hg; cases hg
        | some c =>
          rw [ha] at hg
          cases hg
          exact .inr (.inr ⟨z, i, c, rfl, rfl, lim_le hz, ha, q Z H _ (Ex.refl Z) ⟨R, .str _⟩⟩)
      · cases hg
    | dict es =>
      simp only [gIx] at hg
      cases hs : scrOf es with
      | none => rw [hs] at hg; cases hg
      | some ds =>
        rw [hs] at hg
        rw [scrOf_some hs] at vx
        obtain ⟨a, ns, o, rfl, h1, rfl⟩ := view_scr vx
        obtain ⟨d, h3, rfl⟩ := map_d hg
        obtain ⟨v, h4, h5⟩ := atI_reps (reps_ints (Z := Z) ns) h3
        exact .inl ⟨a, _, i, v, rfl, rfl, .inl (.inr ⟨o, h1⟩), h4, q Z H _ (Ex.refl Z) ⟨R, h5⟩⟩
    | none => cases hg
    | bool b => cases hg
    | int j => cases hg
  | none => cases dx <;> cases hg
  | bool b => cases dx <;> cases hg
  | str b => cases dx <;> cases hg
  | list b => cases dx <;> cases hg
  | tuple b => cases dx <;> cases hg
  | dict b => cases dx <;> cases hg
section
variable {X : Cx} {W : WM} {a b : Expr} {ma mb : EM} {pos p2 : Pos}
theorem je_ix (ha : JE X W a ma) (hb : JE X W b mb) (hs : PlainIx b := by intro _ _; rfl) : JE X W (.Subscript a b pos) (mBin gIx ma mb) :=
  ⟨PE.imp (pe_ix ix_data ha.frz.run hb.frz.run hs) fun σ H Q h => tE_two h⟩
end

/-! ### slices -/
def PostG {α : Type} (F Z : Hp) (B : Nat → Option V) (σ : L2.St) (W : WM) (K : α → Hp → Sg → Hp → Prop) (o : Out α) : Prop :=
  match o with
  | .st => False
  | .ok a S => ∀ Z' H', Ex Z Z' → RepSt F Z' B S σ H' none → K a Z' S H'
  | .ex c S => ∀ Z' H', Ex Z Z' → RepSt F Z' B S σ H' none → W c σ H'
abbrev OM := Sg → Out (Option Int)
def tO (W : WM) (m : OM) : TO := fun σ H Q => ∃ F Z B S, RepSt F Z B S σ H none ∧ PostG F Z B σ W (fun o _ _ H' => Q o H') (m S)
structure JO (X : Cx) (W : WM) (e : Option Expr) (m : OM) : Prop where
  run : PO X e (tO W m)
theorem PO.imp {X : Cx} {e : Option Expr} {t t' : TO} (h : PO X e t) (i : ∀ σ H Q, t' σ H Q → t σ H Q) : PO X e t' := ⟨fun pins s σ H Q I hq => h.run pins s σ H Q I (i σ H Q hq)⟩
def oNo : OM := fun S => .ok none S
def oInt (m : EM) : OM := fun S => (m S).bind fun r S1 => match peek S1 r with
  | some (.int i) => .ok (some i) S1
  | _ => .st
theorem jo_no {X : Cx} {W : WM} : JO X W none oNo := ⟨PO.imp po_none fun σ H Q h => by
  obtain ⟨F, Z, B, S, R, p⟩ := h
  exact p Z H (Ex.refl Z) R⟩
theorem ResOk.peekInt {F Z : Hp} {B : Nat → Option V} {S : Sg} {σ : L2.St} {H : Hp} {r : Rs} {v : V} {i : Int} (h : ResOk F Z B S σ H r v) (hp : peek S r = some (.int i)) : RepSt F Z B S σ H none ∧ v = .int i := by
  cases r with
  | d x => cases hp; exact ⟨h.1, view_int (Rep.view h.1.exZ h.2)⟩
  | ref j => exact ⟨h.1, view_int (peek_ref h.1 h.2 hp)⟩
  | tmp o => cases o <;> cases hp
theorem jo_int {X : Cx} {W : WM} {e : Expr} {m : EM} (h : JE X W e m) : JO X W (some e) (oInt m) := ⟨PO.imp (po_some h.run) fun σ H Q hq => by
  obtain ⟨F, Z, B, S, R, p⟩ := hq
  refine ⟨F, Z, B, S, R, ?_⟩
  revert p
  simp only [oInt]
  cases m S with
  | st => exact fun p => p
  | ex c S1 => exact fun p => p
  | ok r S1 =>
    intro p Z' H' v e hr
    simp only [bind_ok] at p
    cases hp : peek S1 r with
    | none => rw [hp] at p; exact p.elim
    | some d =>
      rw [hp] at p
      cases d with
      | int i =>
        obtain ⟨R1, rfl⟩ := hr.peekInt hp
        exact ⟨i, rfl, p Z' H' e R1⟩
      | _ => exact p.elim⟩
def mSl (g : D → Option Int → Option Int → Option Rs) (a : EM) (lo hi : OM) : EM := fun S => (frz a S).bind fun r S1 => (lo S1).bind fun l S2 => (hi S2).bind fun u S3 => match peek S3 r with
  | some x => ofO (g x l u) S3
  | none => .st
def rS (g : D → Option Int → Option Int → Option Rs) : V → Option Int → Option Int → Hp → VK → Prop := fun x l u H Q => ∃ F Z B S σ dx r, RepSt F Z B S σ H none ∧ View Z H x dx ∧ g dx l u = some r ∧ ∀ Z' H' w, Ex Z Z' → ResOk F Z' B S σ H' r w → Q w H'
theorem SlR.imp {X : Cx} {r r' : V → Option Int → Option Int → Hp → VK → Prop} (h : SlR X r) (i : ∀ x l u H Q, r' x l u H Q → r x l u H Q) : SlR X r' := fun pins s σ H x v vl vu lo hi sl Q I rx hs pl pu q => h pins s σ H x v vl vu lo hi sl Q I rx hs pl pu (i x lo hi H Q q)
theorem frz_kept {F Z : Hp} {B : Nat → Option V} {S S1 : Sg} {σ : L2.St} {H : Hp} {m : EM} {r : Rs} {v : V} (hf : frz m S = .ok r S1) (h : ResOk F Z B S1 σ H r v) : RepSt F Z B S1 σ H none ∧ Kept Z σ r v := by
  have e := frz_ok hf
  rw [e] at h ⊢
  exact h.kept
theorem tE_sl {W : WM} {g : D → Option Int → Option Int → Option Rs} {a : EM} {lo hi : OM} {σ : L2.St} {H : Hp} {Q : VK} (h : tE W (mSl g a lo hi) σ H Q) : tSl (rS g) (tE W (frz a)) (tO W lo) (tO W hi) σ H Q := by
  obtain ⟨F, Z, B, S, R, p⟩ := h
  refine ⟨F, Z, B, S, R, ?_⟩
  revert p
  simp only [mSl]
  cases hf : frz a S with
  | st => exact fun p => p
  | ex c S1 => exact fun p => p
  | ok r S1 =>
    intro p Z1 H1 v e1 hr
    simp only [bind_ok] at p
    obtain ⟨R1, k1⟩ := frz_kept hf hr
    refine ⟨F, Z1, B, S1, R1, ?_⟩
    revert p
    cases lo S1 with
    | st => exact fun p => p
    | ex c S2 => exact fun p Z2 H2 e2 R2 => p Z2 H2 (e1.trans e2) R2
    | ok l S2 =>
      intro p Z2 H2 e2 R2
      simp only [bind_ok] at p
      refine ⟨F, Z2, B, S2, R2, ?_⟩
      revert p
      cases hi S2 with
      | st => exact fun p => p
      | ex c S3 => exact fun p Z3 H3 e3 R3 => p Z3 H3 ((e1.trans e2).trans e3) R3
      | ok u S3 =>
        intro p Z3 H3 e3 R3
        simp only [bind_ok] at p
        cases hp : peek S3 r with
        | none => rw [hp] at p; exact p.elim
        | some dx =>
          rw [hp] at p
          dsimp only at p
          cases hg : g dx l u with
          | none => rw [hg] at p; exact p.elim
          | some r2 =>
            rw [hg] at p
            exact ⟨F, Z3, B, S3, σ, dx, r2, R3, ((k1.mono e2).mono e3).view R3 hp, hg, fun Z' H' w e4 hr4 => p Z' H' w (((e1.trans e2).trans e3).trans e4) hr4⟩
def cutD (xs : List D) (lo hi : Option Int) : List D := (xs.drop (HT.sIx xs.length 0 lo)).take (HT.sIx xs.length xs.length hi - HT.sIx xs.length 0 lo)
theorem reps_cut {Z : Hp} {vs : List V} {ds : List D} (h : Reps Z vs ds) (lo hi : Option Int) : Reps Z (cutV vs lo hi) (cutD ds lo hi) := by
  unfold cutV cutD
  rw [h.length]
  exact (h.drop _).take _
def gSl : D → Option Int → Option Int → Option Rs
  | .list xs, l, u => some (.tmp (.lst (cutD xs l u)))
  | .tuple xs, l, u => some (.d (.tuple (cutD xs l u)))
  | _, _, _ => none
theorem sl_data {X : Cx} : SlR X (rS gSl) := SlR.imp (SlR.or (sl_tupA (X := X)) sl_list) fun x l u H Q h => by
  obtain ⟨F, Z, B, S, σ, dx, r, R, vx, hg, q⟩ := h
  cases dx with
  | list xs =>
    cases hg
    obtain ⟨a, ys, rfl, h1, h2⟩ := vx
    exact .inr ⟨a, ys, rfl, SqL.of h1, fun p hp => q _ _ _ (Ex.refl Z) (ResOk.lst R hp (reps_cut h2 l u))⟩
  | tuple xs =>
    cases hg
    have vx' := vx
    obtain ⟨a, ys, rfl, h1, h2⟩ := view_tup vx
    refine .inl ⟨a, ys, rfl, SqT.of (R.exZ _ _ h1), fun hw => ?_, fun _ p hp => q _ _ _ (Ex.new (R.exZ.free hp)) (ResOk.tup R hp (reps_cut h2 l u))⟩
    have e : cutD xs l u = xs := by
      unfold cutD
      rw [← h2.length, hw.1, hw.2, List.drop_zero, h2.length, Nat.sub_zero, List.take_length]
    rw [e] at q
    exact q Z H _ (Ex.refl Z) ⟨R, vx'⟩
  | none => cases hg
  | bool b => cases hg
  | int j => cases hg
  | str j => cases hg
  | dict j => cases hg
section
variable {X : Cx} {W : WM} {e : Expr} {m : EM} {lo hi : Option Expr} {ml mh : OM} {pos p2 : Pos}
theorem je_sl (he : JE X W e m) (hl : JO X W lo ml) (hh : JO X W hi mh) : JE X W (.Subscript e (.Slice lo hi none p2) pos) (mSl gSl m ml mh) :=
  ⟨PE.imp (pe_slice sl_data he.frz.run hl.run hh.run) fun σ H Q h => tE_sl h⟩
end
end Ev

namespace Ev
open PySem PySem.Spec L2

/-! ### sums, truths, small numbers -/
theorem reps_seq {Z H : Hp} {v : V} {x : D} {ds : List D} {K : PySem.W.Frag} (e : Ex Z H) (h : View Z H v x) (hs : seqD x = some ds) : ∃ a ys, v = .ref a ∧ Reps Z ys ds ∧ ((x = .list ds ∧ SqL K H a ys) ∨ (x = .tuple ds ∧ SqT K H a ys)) := by
  cases x with
  | list xs => cases hs; obtain ⟨a, ys, rfl, h1, h2⟩ := h; exact ⟨a, ys, rfl, h2, .inl ⟨rfl, SqL.of h1⟩⟩
  | tuple xs => cases hs; obtain ⟨a, ys, rfl, h1, h2⟩ := view_tup h; exact ⟨a, ys, rfl, h2, .inr ⟨rfl, SqT.of (e _ _ h1)⟩⟩
  | _ => cases hs
theorem cr_sumT {X : Cx} (hc : X.calm = true) : CallR X (.builtin "sum") (fun vs H Q => ∃ (a : Addr) (ns : List Int), vs = [V.ref a] ∧ SqT X.K H a (ns.map V.int) ∧ Q (.int ns.sum) H) := by
  intro pins s σ H vs us Q I r ⟨a, ns, e, hs, q⟩
  subst e
  obtain ⟨its, rv, hl, _⟩ := I.tuple hs
  rw [Vals.ref1 r]
  have hi := rv.ints
  obtain ⟨xs, hx⟩ := hi.allInts.items
  have hn : numsOf its.toArray.toList = ns := by rw [show its.toArray.toList = its from rfl, hi.numsOf]
  rw [hx] at hl hn
  rw [nums_intItems] at hn
  refine PySem.W.ktm_sumG (I.ok.hd hc) hl fun h' tk t' hk => ⟨.int ns.sum, H, I.kept hk, ⟨t', ?_⟩, q⟩
  rw [preSum_eq, List.take_of_length_le (by simp), hn]
def gSum : List D → Option Rs
  | [x] => match seqD x with
    | some ds => (intsOf ds).map fun ns => .d (.int ns.sum)
    | none => none
  | _ => none
theorem one_of {α : Type} {g : D → Option α} {ds : List D} {r : α} (h : (match ds with | [x] => g x | _ => none) = some r) : ∃ x, ds = [x] ∧ g x = some r := by
  cases ds with
  | nil => cases h
  | cons x t => cases t with
    | nil => exact ⟨x, rfl, h⟩
    | cons y u => cases h
theorem cr_sumD {X : Cx} (hc : X.calm = true) : CallR X (.builtin "sum") (rG gSum) := CallR.imp (CallR.or (cr_sum hc) (cr_sumT hc)) fun vs H Q h => by
  obtain ⟨F, Z, B, S, σ, ds, r, R, vw, hg, q⟩ := h
  obtain ⟨x, e0, hg'⟩ := one_of hg
  subst e0
  clear hg
  have hg := hg'
  clear hg'
  obtain ⟨v, rfl, hv⟩ := views1 vw
  cases hs : seqD x with
  | none => rw [hs] at hg; cases hg
  | some es =>
    rw [hs] at hg
    dsimp only at hg
    cases hi : intsOf es with
    | none => rw [hi] at hg; cases hg
    | some ns =>
      rw [hi] at hg
      cases hg
      obtain ⟨a, ys, rfl, h2, h3⟩ := reps_seq (K := X.K) R.exZ hv hs
      have hy := intsOf_ok h2 hi
      subst hy
      have fin := q Z H (.int ns.sum) (Ex.refl Z) ⟨R, .int _⟩
      rcases h3 with ⟨_, h3⟩ | ⟨_, h3⟩
      · exact .inl ⟨a, ns, rfl, h3, fin⟩
      · exact .inr ⟨a, ns, rfl, h3, fin⟩
/-- truths alone -/
def blsOf : List D → Option (List Bool)
  | [] => some []
  | .bool b :: r => (blsOf r).map (b :: ·)
  | _ => none
theorem blsOf_ok {Z : Hp} : ∀ {vs : List V} {ds : List D} {ns : List Bool}, Reps Z vs ds → blsOf ds = some ns → vs = ns.map V.bl
  | _, _, _, .nil, h => by cases h; rfl
  | _, _, _, .cons (d := d) (ds := ds) r t, h => by
    cases d with
    | bool i =>
      simp only [blsOf] at h
      cases hi : blsOf ds with
      | none => rw [hi] at h; cases h
      | some ms =>
        rw [hi] at h
        cases h
        cases r
        rw [blsOf_ok t hi]; rfl
    | _ => cases h
def gAll : List D → Option Rs
  | [x] => match x with
    | .list ds => (blsOf ds).map fun bs => .d (.bool (bs.all id))
    | _ => none
  | _ => none
def gAny : List D → Option Rs
  | [x] => match x with
    | .list ds => (blsOf ds).map fun bs => .d (.bool (bs.any id))
    | _ => none
  | _ => none
theorem cr_allD {X : Cx} (hc : X.calm = true) : CallR X (.builtin "all") (rG gAll) := CallR.imp (cr_all hc) fun vs H Q h => by
  obtain ⟨F, Z, B, S, σ, ds, r, R, vw, hg, q⟩ := h
  obtain ⟨x, e0, hg'⟩ := one_of hg
  subst e0
  clear hg
  have hg := hg'
  clear hg'
  obtain ⟨v, rfl, hv⟩ := views1 vw
  cases x with
  | list es =>
    dsimp only at hg
    cases hi : blsOf es with
    | none => rw [hi] at hg; cases hg
    | some ns =>
      rw [hi] at hg
      cases hg
      obtain ⟨a, ys, rfl, h1, h2⟩ := hv
      have hy := blsOf_ok h2 hi
      subst hy
      exact ⟨a, ns, rfl, SqL.of h1, q Z H _ (Ex.refl Z) ⟨R, .bl _⟩⟩
  | _ => cases hg
theorem cr_anyD {X : Cx} (hc : X.calm = true) : CallR X (.builtin "any") (rG gAny) := CallR.imp (cr_any hc) fun vs H Q h => by
  obtain ⟨F, Z, B, S, σ, ds, r, R, vw, hg, q⟩ := h
  obtain ⟨x, e0, hg'⟩ := one_of hg
  subst e0
  clear hg
  have hg := hg'
  clear hg'
  obtain ⟨v, rfl, hv⟩ := views1 vw
  cases x with
  | list es =>
    dsimp only at hg
    cases hi : blsOf es with
    | none => rw [hi] at hg; cases hg
    | some ns =>
      rw [hi] at hg
      cases hg
      obtain ⟨a, ys, rfl, h1, h2⟩ := hv
      have hy := blsOf_ok h2 hi
      subst hy
      exact ⟨a, ns, rfl, SqL.of h1, q Z H _ (Ex.refl Z) ⟨R, .bl _⟩⟩
  | _ => cases hg
def gAbs : List D → Option Rs
  | [.int i] => some (.d (.int (if i < 0 then -i else i)))
  | _ => none
theorem cr_absD {X : Cx} : CallR X (.builtin "abs") (rG gAbs) := CallR.imp (call_abs (X := X)) fun vs H Q h => by
  obtain ⟨F, Z, B, S, σ, ds, r, R, vw, hg, q⟩ := h
  match ds, vw, hg with
  | [.int i], vw, hg =>
    cases hg
    obtain ⟨v, rfl, hv⟩ := views1 vw
    exact ⟨i, by rw [view_int hv], q Z H _ (Ex.refl Z) ⟨R, .int _⟩⟩
def gInt : List D → Option Rs
  | [.int i] => some (.d (.int i))
  | [.bool b] => some (.d (.int (if b then 1 else 0)))
  | _ => none
theorem cr_intD {X : Cx} : CallR X (.type "int") (rG gInt) := CallR.imp (call_int1 (X := X)) fun vs H Q h => by
  obtain ⟨F, Z, B, S, σ, ds, r, R, vw, hg, q⟩ := h
  match ds, vw, hg with
  | [.int i], vw, hg =>
    cases hg
    obtain ⟨v, rfl, hv⟩ := views1 vw
    exact .inl ⟨i, by rw [view_int hv], q Z H _ (Ex.refl Z) ⟨R, .int _⟩⟩
  | [.bool b], vw, hg =>
    cases hg
    obtain ⟨v, rfl, hv⟩ := views1 vw
    exact .inr ⟨b, by rw [view_bl hv], q Z H _ (Ex.refl Z) ⟨R, .int _⟩⟩
def gStr : List D → Option Rs
  | [.int i] => if i.natAbs.log2 < 1920 then some (.d (.str (toString i))) else none
  | _ => none
theorem cr_strD {X : Cx} : CallR X (.type "str") (rG gStr) := CallR.imp (call_str_int (X := X)) fun vs H Q h => by
  obtain ⟨F, Z, B, S, σ, ds, r, R, vw, hg, q⟩ := h
  match ds, vw, hg with
  | [.int i], vw, hg =>
    simp only [gStr] at hg
    split at hg
    · rename_i hi
      cases hg
      obtain ⟨v, rfl, hv⟩ := views1 vw
      exact ⟨i, by rw [view_int hv], hi, q Z H _ (Ex.refl Z) ⟨R, .str _⟩⟩
    · cases hg
def bestD (p : Int → Int → Bool) : List Int → Option Int
  | [] => none
  | x :: r => some (r.foldl (fun m y => if p y m then y else m) x)
theorem best_max : ∀ (r : List Int) (x : Int), (r.foldl (fun m y => if decide (m < y) then y else m) x) ∈ x :: r ∧ ∀ y ∈ x :: r, y ≤ r.foldl (fun m y => if decide (m < y) then y else m) x
  | [], x => by simp
  | z :: r, x => by
    simp only [List.foldl_cons]
    by_cases h : x < z
    · rw [if_pos (by simpa using h)]
      obtain ⟨h1, h2⟩ := best_max r z
      refine ⟨List.mem_cons_of_mem _ h1, fun y hy => ?_⟩
      rcases List.mem_cons.mp hy with rfl | hy
      · exact Int.le_trans (Int.le_of_lt h) (h2 z (by simp))
      · exact h2 y hy
    · rw [if_neg (by simpa using h)]
      obtain ⟨h1, h2⟩ := best_max r x
      refine ⟨?_, fun y hy => ?_⟩
      · rcases List.mem_cons.mp h1 with h1 | h1
        · rw [h1]; simp
        · exact List.mem_cons_of_mem _ (List.mem_cons_of_mem _ h1)
      · rcases List.mem_cons.mp hy with rfl | hy
        · exact h2 y (by simp)
        · rcases List.mem_cons.mp hy with rfl | hy
          · exact Int.le_trans (Int.not_lt.mp h) (h2 x (by simp))
          · exact h2 y (List.mem_cons_of_mem _ hy)
theorem best_min : ∀ (r : List Int) (x : Int), (r.foldl (fun m y => if decide (y < m) then y else m) x) ∈ x :: r ∧ ∀ y ∈ x :: r, r.foldl (fun m y => if decide (y < m) then y else m) x ≤ y
  | [], x => by simp
  | z :: r, x => by
    simp only [List.foldl_cons]
    by_cases h : z < x
    · rw [if_pos (by simpa using h)]
      obtain ⟨h1, h2⟩ := best_min r z
      refine ⟨List.mem_cons_of_mem _ h1, fun y hy => ?_⟩
      rcases List.mem_cons.mp hy with rfl | hy
      · exact Int.le_trans (h2 z (by simp)) (Int.le_of_lt h)
      · exact h2 y hy
    · rw [if_neg (by simpa using h)]
      obtain ⟨h1, h2⟩ := best_min r x
      refine ⟨?_, fun y hy => ?_⟩
      · rcases List.mem_cons.mp h1 with h1 | h1
        · rw [h1]; simp
        · exact List.mem_cons_of_mem _ (List.mem_cons_of_mem _ h1)
      · rcases List.mem_cons.mp hy with rfl | hy
        · exact h2 y (by simp)
        · rcases List.mem_cons.mp hy with rfl | hy
          · exact Int.le_trans (h2 x (by simp)) (Int.not_lt.mp h)
          · exact h2 y (List.mem_cons_of_mem _ hy)
def maxI : List Int → Option Int := bestD fun y m => decide (m < y)
def minI : List Int → Option Int := bestD fun y m => decide (y < m)
theorem maxI_mem {ns : List Int} {m : Int} (h : maxI ns = some m) : 0 < ns.length ∧ m ∈ ns ∧ ∀ y ∈ ns, y ≤ m := by
  cases ns with
  | nil => cases h
  | cons x r => cases h; exact ⟨by simp, best_max r x⟩
theorem minI_mem {ns : List Int} {m : Int} (h : minI ns = some m) : 0 < ns.length ∧ m ∈ ns ∧ ∀ y ∈ ns, m ≤ y := by
  cases ns with
  | nil => cases h
  | cons x r => cases h; exact ⟨by simp, best_min r x⟩
def gMax : List D → Option Rs
  | [.int i, .int j] => some (.d (.int (if j > i then j else i)))
  | [.list ds] => ((intsOf ds).bind maxI).map fun m => .d (.int m)
  | _ => none
def gMin : List D → Option Rs
  | [.int i, .int j] => some (.d (.int (if j < i then j else i)))
  | [.list ds] => ((intsOf ds).bind minI).map fun m => .d (.int m)
  | _ => none
theorem cr_maxD {X : Cx} (hc : X.calm = true) : CallR X (.builtin "max") (rG gMax) := CallR.imp (CallR.or (call_max2 hc) (cr_max hc)) fun vs H Q h => by
  obtain ⟨F, Z, B, S, σ, ds, r, R, vw, hg, q⟩ := h
  match ds, vw, hg with
  | [.int i, .int j], vw, hg =>
    cases hg
    obtain ⟨v, w, rfl, h1, h2⟩ := views2 vw
    exact .inl ⟨i, j, by rw [view_int h1, view_int h2], q Z H _ (Ex.refl Z) ⟨R, .int _⟩⟩
  | [.list es], vw, hg =>
    obtain ⟨v, rfl, hv⟩ := views1 vw
    simp only [gMax] at hg
    cases hi : intsOf es with
    | none => rw [hi] at hg; cases hg
    | some ns =>
      rw [hi] at hg
      cases hm : maxI ns with
      | none => rw [Option.bind_some, hm] at hg; cases hg
      | some m =>
        rw [Option.bind_some, hm] at hg
        cases hg
        obtain ⟨a, ys, rfl, h1, h2⟩ := hv
        have hy := intsOf_ok h2 hi
        subst hy
        obtain ⟨k1, k2, k3⟩ := maxI_mem hm
        refine .inr ⟨a, ns, rfl, SqL.of h1, k1, fun m' hm' hall => ?_⟩
        have : m' = m := Int.le_antisymm (k3 m' hm') (hall m k2)
        rw [this]
        exact q Z H _ (Ex.refl Z) ⟨R, .int _⟩
theorem cr_minD {X : Cx} (hc : X.calm = true) : CallR X (.builtin "min") (rG gMin) := CallR.imp (CallR.or (call_min2 hc) (cr_min hc)) fun vs H Q h => by
  obtain ⟨F, Z, B, S, σ, ds, r, R, vw, hg, q⟩ := h
  match ds, vw, hg with
  | [.int i, .int j], vw, hg =>
    cases hg
    obtain ⟨v, w, rfl, h1, h2⟩ := views2 vw
    exact .inl ⟨i, j, by rw [view_int h1, view_int h2], q Z H _ (Ex.refl Z) ⟨R, .int _⟩⟩
  | [.list es], vw, hg =>
    obtain ⟨v, rfl, hv⟩ := views1 vw
    simp only [gMin] at hg
    cases hi : intsOf es with
    | none => rw [hi] at hg; cases hg
    | some ns =>
      rw [hi] at hg
      cases hm : minI ns with
      | none => rw [Option.bind_some, hm] at hg; cases hg
      | some m =>
        rw [Option.bind_some, hm] at hg
        cases hg
        obtain ⟨a, ys, rfl, h1, h2⟩ := hv
        have hy := intsOf_ok h2 hi
        subst hy
        obtain ⟨k1, k2, k3⟩ := minI_mem hm
        refine .inr ⟨a, ns, rfl, SqL.of h1, k1, fun m' hm' hall => ?_⟩
        have : m' = m := Int.le_antisymm (hall m k2) (k3 m' hm')
        rw [this]
        exact q Z H _ (Ex.refl Z) ⟨R, .int _⟩

/-! ### isinstance of a built-in type -/
inductive Ty where
  | int | bool | str | tuple | list | dict
def Ty.nm : Ty → String
  | .int => "int" | .bool => "bool" | .str => "str" | .tuple => "tuple" | .list => "list" | .dict => "dict"
def isTy (t : Ty) : D → Option Bool
  | .none => some false
  | .bool _ => some (match t with | .int => true | .bool => true | _ => false)
  | .int _ => some (match t with | .int => true | _ => false)
  | .str _ => some (match t with | .str => true | _ => false)
  | .tuple _ => some (match t with | .tuple => true | _ => false)
  | .list _ => some (match t with | .list => true | _ => false)
  | .dict es => if (scrOf es).isSome then none else some (match t with | .dict => true | _ => false)
def mIsi (t : Ty) (m : EM) : EM := fun S => (frz m S).bind fun r S1 => match (peek S1 r).bind (isTy t) with
  | some b => .ok (.d (.bool b)) S1
  | none => .st
theorem kit_T {K : PySem.W.Frag} {a b : String} {r : Bool} (h : kitB a b = some r) : PySem.W.kitOne K (.type a) (.type b) = some r := h
theorem isi_view {K : PySem.W.Frag} {Z H : Hp} {v : V} {x : D} {t : Ty} {b : Bool} (e : Ex Z H) (h : View Z H v x) (hb : isTy t x = some b) : ∃ ty, TyX K H v (.type ty) ∧ PySem.W.kitOne K (.type ty) (.type t.nm) = some b := by
  cases x with
  | none => rw [view_non h]; cases hb; exact ⟨_, .base .non, by cases t <;> exact kit_T (by decide +kernel)⟩
  | bool y => rw [view_bl h]; cases hb; exact ⟨_, .base (.bl _), by cases t <;> exact kit_T (by decide +kernel)⟩
  | int i => rw [view_int h]; cases hb; exact ⟨_, .base (.int _), by cases t <;> exact kit_T (by decide +kernel)⟩
  | str y => rw [view_str h]; cases hb; exact ⟨_, .base (.str _), by cases t <;> exact kit_T (by decide +kernel)⟩
  | tuple xs => obtain ⟨a, ys, rfl, h1, h2⟩ := view_tup h; cases hb; exact ⟨_, .base (.tup (e _ _ h1)), by cases t <;> exact kit_T (by decide +kernel)⟩
  | list xs => obtain ⟨a, ys, rfl, h1, h2⟩ := h; cases hb; exact ⟨_, .base (.lst h1), by cases t <;> exact kit_T (by decide +kernel)⟩
  | dict es =>
    simp only [isTy] at hb
    split at hb
    · cases hb
    · rename_i hs
      cases hb
      obtain ⟨a, rfl, ⟨kvs, h1, h2⟩ | ⟨kvs, h1, h2⟩ | ⟨ns, o, h1, h2⟩⟩ := h
      · exact ⟨_, .base (.dK h1), by cases t <;> exact kit_T (by decide +kernel)⟩
      · exact ⟨_, .base (.dT h1), by cases t <;> exact kit_T (by decide +kernel)⟩
      · exfalso
        unfold scrD at h2
        injection h2 with h3
        rw [h3] at hs
        exact hs rfl
section
variable {X : Cx} {W : WM} {e : Expr} {m : EM} {p p2 pos : Pos} {x : Str}
theorem je_isi (t : Ty) (he : JE X W e m) (hm : X.mg "isinstance" = none) (hm2 : X.mg x = none) (hx : bootBuiltins x = some (.type t.nm)) (hn2 : x ≠ "__name__" := by decide) (hd2 : (x == ("__debug__" : Str)) = false := by decide)
    (hg : Gl X "isinstance" := by first | exact Or.inl rfl | exact Or.inr rfl | exact rfl) (hg2 : Gl X x := by first | exact Or.inl rfl | exact Or.inr rfl | exact rfl)
    (hs1 : starEach [e, .Name x p2] X.env = (false, eval e X.env) :: starEach [.Name x p2] X.env := by rfl) (hs2 : starEach [.Name x p2] X.env = (false, eval (.Name x p2) X.env) :: starEach [] X.env := by rfl)
    (hpl : (backTo pos (starEach [.Name x p2] X.env)).any (·.1) = false := by rfl) : JE X W (.Call (.Name "isinstance" p) [e, .Name x p2] [] pos) (mIsi t m) :=
  ⟨PE.imp (pe_callB call_isi hg hm (by first | rfl | decide +kernel) (pa_cons he.frz.run (pa_cons (pe_bltn hg2 hm2 hx (v := .ty t.nm) rfl hn2 hd2) pa_nil hs2) hs1) (by decide) (by decide) hs1 hpl) fun σ H Q h => by
    obtain ⟨F, Z, B, S, R, p⟩ := h
    refine ⟨F, Z, B, S, R, ?_⟩
    revert p
    simp only [mIsi]
    cases hf : frz m S with
    | st => exact fun p => p
    | ex c S1 => exact fun p => p
    | ok r S1 =>
      intro p Z1 H1 v e1 hr
      simp only [bind_ok] at p
      obtain ⟨R1, k1⟩ := frz_kept hf hr
      cases hp : peek S1 r with
      | none => rw [hp] at p; exact p.elim
      | some d =>
        rw [hp, Option.bind_some] at p
        cases hb : isTy t d with
        | none => rw [hb] at p; exact p.elim
        | some b =>
          rw [hb] at p
          obtain ⟨ty, h1, h2⟩ := isi_view (K := X.K) R1.exZ (k1.view R1 hp) hb
          exact ⟨_, _, _, _, b, rfl, .ty _, h1, h2, p Z1 H1 _ e1 ⟨R1, .bl _⟩⟩⟩
end
end Ev

namespace Ev
open PySem PySem.Spec L2

/-! ### products -/
def gMul (x y : D) : Option Rs := match y with
  | .int j => (match x with
    | .int i => if i.natAbs.log2 + j.natAbs.log2 < 1000000 then some (.d (.int (i * j))) else none
    | .list xs => if xs.length * j.toNat ≤ lim ∧ -1000000 ≤ j ∧ j ≤ lim then some (.tmp (.lst (List.replicate j.toNat xs).flatten)) else none
    | _ => none)
  | _ => none
theorem reps_rep {Z : Hp} {vs : List V} {ds : List D} (h : Reps Z vs ds) : ∀ n : Nat, Reps Z (List.replicate n vs).flatten (List.replicate n ds).flatten
  | 0 => .nil
  | n + 1 => by rw [List.replicate_succ, List.replicate_succ, List.flatten_cons, List.flatten_cons]; exact h.append (reps_rep h n)
theorem ok_mul {X : Cx} : OpOk X (binaryOp .Mult) gMul := by
  intro pins s σ H x y v u Q F Z B S dx dy r I rx ry R vx vy hg q
  cases dy with
  | int j =>
    rw [view_int vy] at ry
    cases dx with
    | int i =>
      rw [view_int vx] at rx
      simp only [gMul] at hg
      split at hg
      · rename_i hc
        cases hg
        exact op_mulW pins s σ H _ _ v u Q I rx ry ⟨i, j, rfl, rfl, hc, q Z H _ (Ex.refl Z) ⟨R, .int _⟩⟩
      · cases hg
    | list xs =>
      simp only [gMul] at hg
      split at hg
      · rename_i hc
        cases hg
        obtain ⟨a, ys, rfl, h1, h2⟩ := vx
        have hj : j < 2 ^ 63 := by have h9 := hc.2.2; have h8 : ((lim : Nat) : Int) = 16777216 := rfl; omega
        have hj2 : -(2 ^ 63) ≤ j := by have := hc.2.1; omega
        exact op_rep pins s σ H _ _ v u Q I rx ry ⟨a, j, ys, rfl, rfl, h1, hj2, hj, by rw [h2.length]; exact lim_le hc.1, fun p hp => q Z _ _ (Ex.refl Z) (ResOk.lst R hp (reps_rep h2 _))⟩
      · cases hg
    | none => cases hg
    | bool b => cases hg
    | str b => cases hg
    | tuple b => cases hg
    | dict b => cases hg
  | none => cases hg
  | bool b => cases hg
  | str b => cases hg
  | list b => cases hg
  | tuple b => cases hg
  | dict b => cases hg

/-! ### s[::-1] -/
section
variable {prog : Program} {w : World} {A : Around} {E : Value → Shared → Prop} {s : Shared}
theorem pick_back (xs : Array Value) : ((List.range xs.size).filterMap fun (m : Nat) => xs[(((xs.size : Nat) : Int) - 1 + (m : Int) * -1).toNat]?) = xs.toList.reverse := by
  apply List.ext_getElem?
  intro i
  have e : (List.range xs.size).filterMap (fun (m : Nat) => xs[(((xs.size : Nat) : Int) - 1 + (m : Int) * -1).toNat]?) = (List.range xs.size).map fun m => xs.toList.getD (xs.size - 1 - m) .none := by
    have key : ∀ l : List Nat, (∀ m ∈ l, m < xs.size) → l.filterMap (fun (m : Nat) => xs[(((xs.size : Nat) : Int) - 1 + (m : Int) * -1).toNat]?) = l.map fun m => xs.toList.getD (xs.size - 1 - m) .none := by
      intro l
      induction l with
      | nil => intro _; rfl
      | cons m l ih =>
        intro hl
        have hm' : m < xs.size := hl m (by simp)
        have h1 : (((xs.size : Nat) : Int) - 1 + (m : Int) * -1).toNat = xs.size - 1 - m := by omega
        have h2 : xs.size - 1 - m < xs.size := by omega
        have h3 : xs[(((xs.size : Nat) : Int) - 1 + (m : Int) * -1).toNat]? = some (xs.toList.getD (xs.size - 1 - m) .none) := by
          rw [h1, Array.getElem?_eq_getElem h2]
          simp [List.getD, h2]
        rw [List.filterMap_cons_some (f := fun (m : Nat) => xs[(((xs.size : Nat) : Int) - 1 + (m : Int) * -1).toNat]?) h3, ih fun k hk => hl k (List.mem_cons_of_mem _ hk)]
        rfl
    exact key _ fun m hm => List.mem_range.mp hm
  rw [e, List.getElem?_map]
  by_cases hi : i < xs.size
  · rw [List.getElem?_range hi, List.getElem?_reverse (by simpa using hi)]
    have h2 : xs.size - 1 - i < xs.size := by omega
    simp [List.getD, h2]
  · rw [List.getElem?_eq_none (by simpa using hi), List.getElem?_eq_none (by simpa using hi)]; rfl
theorem back_applied {sl : Addr} {t : Tok} {n : Nat} {Q : Int × Int × Nat → Shared → Prop} (hs : s.heap.IsSliceOf sl .none .none (.int (-1) t)) (h : Q (((n : Nat) : Int) - 1, -1, n) s) :
    wpAny (model prog w) A (Builtin.Slice.sliceApplied (.ref sl) (pure (n : Int))) Q E s := by
  obtain ⟨os, hos, hcs, hds⟩ := id hs
  unfold Builtin.Slice.sliceApplied Builtin.Slice.sliceFields
  refine wpAny_bind (wpAny_bind (wpAny_field hos hds (x := .none) rfl (wpAny_bind (wpAny_field hos hds (x := .none) rfl (wpAny_bind (wpAny_field hos hds (x := .int (-1) t) rfl (wpAny_pure ?_)))))))
  refine wpAny_bind (HT.slicePart_ (IsPart.int (-1) t) ?_)
  show wpAny _ _ (if ((-1 : Int) == 0) = true then _ else _) _ _ s
  rw [if_neg (by decide)]
  refine wpAny_bind (HT.slicePart_ IsPart.none (wpAny_bind (HT.slicePart_ IsPart.none (wpAny_bind (wpAny_pure ?_)))))
  have e1 : Builtin.Slice.sliceAdjust none none (-1) (n : Int) = ((n : Int) - 1, -1) := rfl
  show wpAny _ _ (match Builtin.Slice.sliceAdjust none none (-1) (n : Int) with | (lo, hi) => pure (lo, (-1 : Int), Builtin.Slice.slicePlaces lo hi (-1))) _ _ s
  rw [e1]
  have e2 : Builtin.Slice.slicePlaces ((n : Int) - 1) (-1) (-1) = n := by
    unfold Builtin.Slice.slicePlaces
    rw [if_neg (by decide), Int.neg_neg, Int.ediv_one]
    split <;> omega
  show wpAny _ _ (pure ((n : Int) - 1, (-1 : Int), Builtin.Slice.slicePlaces ((n : Int) - 1) (-1) (-1))) _ _ s
  rw [e2]
  exact wpAny_pure h
theorem back_tup {t sl : Addr} {items : Array Value} {tk : Tok} {Q : Value → Shared → Prop} (ht : PyProof.Rows.IsTup s.heap t items) (hs : s.heap.IsSliceOf sl .none .none (.int (-1) tk))
    (h : Q (.ref s.heap.objs.size) { s with heap := s.heap.push { cls := .type "tuple", data := .seq items.toList.reverse.toArray } }) (hsz : items.size ≤ sizeLine) : wpAny (model prog w) A (getItem (.ref t) (.ref sl)) Q E s := by
  obtain ⟨os, hos, hcs, hds⟩ := id hs
  have hTs : s.TypeIs (.ref sl) "slice" := ⟨os, hos, hcs⟩
  have hok : sizeOk (.seq items.toList.reverse.toArray) := by
    show items.toList.reverse.toArray.size ≤ sizeLine
    simpa using hsz
  unfold getItem
  try with_reducible refine wpAny_holding ?_
  first | refine wpAny_bind (wpAny_pure ?_) | skip
  refine wpAny_bind (wpAny_sequenceKey ht.typeIs (by decide) ?_)
  refine wpAny_bind (wpAny_callSpecial?_slot (name := Str.ofString "__getitem__") ht.typeIs PyProof.Rows.slot_tuple_getitem
    (wpAny_call_entry PyProof.Rows.slot_tuple_getitem ht.typeIs PyProof.Rows.entry_tuple_getitem ?_ (PyProof.Rows.args_tuple_getitem _ _)))
  show wpAny _ _ (Builtin.Tuple.tupleItemsOf (.ref t) >>= _) _ _ s
  refine wpAny_bind (PyProof.Rows.tupleItemsOf_ ht ?_)
  refine wpAny_bind (wpAny_typeOf hTs ?_)
  rw [if_pos (by decide)]
  refine wpAny_bind (back_applied hs ?_)
  show wpAny _ _ (if ((((items.size : Nat) : Int) - 1 == 0) && ((-1 : Int) == 1) && (items.size == items.size)) = true then _ else _) _ _ s
  rw [if_neg (by simp), pick_back]
  first
    | exact wpAny_bind (m := Builtin.Tuple.tupleExact _) (wpAny_newObj_type (wpAny_pure ⟨_, rfl, wpAny_pure h⟩) hok)
    | exact wpAny_bind (wpAny_bind (m := Builtin.Tuple.tupleExact _) (wpAny_newObj_type (wpAny_pure ⟨_, rfl, wpAny_pure h⟩) hok))
    | exact wpAny_bind (wpAny_bind (m := Builtin.Tuple.tupleExact _) (wpAny_newObj_type (wpAny_pure (wpAny_pure ⟨_, rfl, wpAny_pure h⟩)) hok))
end
end Ev

namespace Ev
open PySem PySem.Spec L2

abbrev backE (e : Expr) (k : Nat) (p1 p2 p3 pos : Pos) : Expr := .Subscript e (.Slice none none (some (.UnaryOp .USub (.Constant (.int 1) k p1) p2)) p3) pos
section
variable {X : Cx}
def tBackT (K : PySem.W.Frag) (te : TE) : TE := fun σ H Q => te σ H fun x H1 => ∃ a xs, x = .ref a ∧ SqT K H1 a xs ∧ ∀ p, H1 p = none → Q (.ref p) (upd H1 p (.tup xs.reverse))
theorem pe_backT {e : Expr} {te : TE} {k : Nat} {p1 p2 p3 pos : Pos} (he : PE X e te) : PE X (backE e k p1 p2 p3 pos) (tBackT X.K te) := by
  refine ⟨fun pins s σ H Q I h => PyProof.Rows.Subscript_ (thn (he.run pins s σ H _ I h) fun v sA ⟨x, HA, IA, rA, a, xs, ex, hx, q⟩ => ?_)⟩
  subst ex
  cases rA
  have hst : PO X (some (.UnaryOp .USub (.Constant (.int 1) k p1) p2)) (tPart (tUn (rU fun i => .int (-i)) (tC (.int 1)))) := po_some (pe_un un_neg pe_int)
  refine wpAny_Slice (thn (po_none.run pins sA σ HA (fun o H2 => o = none ∧ H2 = HA) IA ⟨rfl, rfl⟩) fun vl sB ⟨l, HB, IB, pl, el, eB⟩ => ?_)
  subst el eB
  refine thn (po_none.run pins sB σ HB (fun o H3 => o = none ∧ H3 = HB) IB ⟨rfl, rfl⟩) fun vu sC ⟨u, HC, IC, pu, eu, eC⟩ => ?_
  subst eu eC
  refine thn (hst.run pins sC σ HC (fun o H4 => o = some (-1) ∧ H4 = HC) IC ⟨1, rfl, -1, rfl, rfl, rfl⟩) fun vs sD ⟨o, HD, ID, ps, eo, eD⟩ => ?_
  subst eo eD
  cases pl
  cases pu
  cases ps with
  | int _ tk =>
    have IE : Inv X pins σ HD { sD with heap := sD.heap.push { cls := .type "slice", data := .fields #[.none, .none, .int (-1) tk] } } := ID.kept (t' := sD.toks) fun b ob q => Heap.get?_push_of_some _ q
    obtain ⟨its, r, ht, hz⟩ := IE.tuple hx
    have hlen := r.length
    show wpAny (model X.prog X.w) X.A (PyProof.Rows.subscriptTail e (.Slice none none (some (.UnaryOp .USub (.Constant (.int 1) k p1) p2)) p3) (.ref a) (.ref sD.heap.objs.size)) (EP X pins σ Q) X.xe
      { sD with heap := sD.heap.push { cls := .type "slice", data := .fields #[.none, .none, .int (-1) tk] } }
    refine PyProof.Rows.tail_any (ops := [.ref a, .ref sD.heap.objs.size]) ht.typeIs (PyProof.Rows.slot_tuple_getitem.lookup) ?_ (by with_unfolding_all rfl)
    refine back_tup ht (Heap.IsSliceOf.new _ .none .none (.int (-1) tk)) ?_ (by rw [List.size_toArray]; omega)
    refine ⟨.ref _, _, IE.laid (t' := sD.toks) (o := .tup xs.reverse) (fun b ob q => Heap.get?_push_of_some _ q) (Nat.le_refl _) ?_, rfl, q _ (IE.hok.fresh (Nat.le_refl _))⟩
    exact ⟨by rw [List.length_reverse]; exact hz, _, r.reverse, PyProof.Rows.IsTup.new _ _⟩
def gBack : D → Option Rs
  | .list xs => some (.tmp (.lst xs.reverse))
  | .tuple xs => some (.d (.tuple xs.reverse))
  | _ => none
theorem je_back {W : WM} {e : Expr} {m : EM} {k : Nat} {p1 p2 p3 pos : Pos} (he : JE X W e m) : JE X W (backE e k p1 p2 p3 pos) (mUn gBack m) := by
  refine ⟨⟨fun pins s σ H Q I hq => ?_⟩⟩
  obtain ⟨F, Z, B, S, R0, p⟩ := hq
  have hf := he.frz.run
  have L : tRevL X.K (tE W (frz m)) σ H Q → _ := fun q => (pe_revL (k := k) (p1 := p1) (p2 := p2) (p3 := p3) (pos := pos) hf).run pins s σ H Q I q
  have T : tBackT X.K (tE W (frz m)) σ H Q → _ := fun q => (pe_backT (k := k) (p1 := p1) (p2 := p2) (p3 := p3) (pos := pos) hf).run pins s σ H Q I q
  revert p
  simp only [mUn]
  cases hfz : frz m S with
  | st => exact fun p => p.elim
  | ex c S1 => exact fun p => L ⟨F, Z, B, S, R0, by rw [hfz]; exact p⟩
  | ok r S1 =>
    simp only [bind_ok]
    cases hp : peek S1 r with
    | none => exact fun p => p.elim
    | some d =>
      dsimp only
      cases d with
      | list ds =>
        refine fun p => L ⟨F, Z, B, S, R0, ?_⟩
        rw [hfz]
        intro Z1 H1 v e1 hr
        obtain ⟨R1, k1⟩ := frz_kept hfz hr
        obtain ⟨a, ys, rfl, h1, h2⟩ := k1.view R1 hp
        exact ⟨a, ys, rfl, SqL.of h1, fun l hl => p _ _ _ e1 (ResOk.lst R1 hl h2.reverse)⟩
      | tuple ds =>
        refine fun p => T ⟨F, Z, B, S, R0, ?_⟩
        rw [hfz]
        intro Z1 H1 v e1 hr
        obtain ⟨R1, k1⟩ := frz_kept hfz hr
        obtain ⟨a, ys, rfl, h1, h2⟩ := view_tup (k1.view R1 hp)
        exact ⟨a, ys, rfl, SqT.of (R1.exZ _ _ h1), fun l hl => p _ _ _ (e1.trans (Ex.new (R1.exZ.free hl))) (ResOk.tup R1 hl h2.reverse)⟩
      | none => exact fun p => p.elim
      | bool b => exact fun p => p.elim
      | int i => exact fun p => p.elim
      | str x => exact fun p => p.elim
      | dict es => exact fun p => p.elim
end

/-! ### zip(a, b) -/
def pairsD : List D → List D → List D
  | x :: xs, y :: ys => .tuple [x, y] :: pairsD xs ys
  | _, _ => []
theorem pairsD_get : ∀ (xs ys : List D) (i : Nat), (pairsD xs ys)[i]? = match xs[i]?, ys[i]? with | some x, some y => some (.tuple [x, y]) | _, _ => none
  | [], ys, i => by simp [pairsD]
  | x :: xs, [], i => by cases h : (x :: xs)[i]? <;> simp [pairsD]
  | x :: xs, y :: ys, 0 => by simp [pairsD]
  | x :: xs, y :: ys, i + 1 => by simp only [pairsD, List.getElem?_cons_succ]; exact pairsD_get xs ys i
theorem pairsD_len : ∀ (xs ys : List D), (pairsD xs ys).length = min xs.length ys.length
  | [], ys => by simp [pairsD]
  | x :: xs, [] => by simp [pairsD]
  | x :: xs, y :: ys => by simp only [pairsD, List.length_cons, pairsD_len xs ys]; omega
def zipD : List D → Option (List D)
  | [x, y] => match x with
    | .list xs => (match y with
      | .list ys => some (pairsD xs ys)
      | _ => none)
    | .tuple xs => (match y with
      | .tuple ys => some (pairsD xs ys)
      | _ => none)
    | _ => none
  | _ => none
def mZip (m : DM) : IM := fun S => (m S).bind fun ds S1 => ofI (zipD ds) S1
theorem zipD_some {ds xs : List D} (h : zipD ds = some xs) : ∃ a b, xs = pairsD a b ∧ (ds = [.list a, .list b] ∨ ds = [.tuple a, .tuple b]) := by
  match ds, h with
  | [x, y], h =>
    cases x with
    | list a =>
      cases y with
      | list b => cases h; exact ⟨a, b, rfl, .inl rfl⟩
      | _ => cases h
    | tuple a =>
      cases y with
      | tuple b => cases h; exact ⟨a, b, rfl, .inr rfl⟩
      | _ => cases h
    | _ => cases h
theorem wk_zipL {K : PySem.W.Frag} {F Z : Hp} {a b : Addr} {xs ys : List V} {ds es : List D} (ha : Z a = some (.lst xs)) (hb : Z b = some (.lst ys)) (r : Reps Z xs ds) (r2 : Reps Z ys es) : Wk F Z (Itz K a b) (pairsD ds es) := fun i H e1 e2 => by
  have h1 : SqL K H a xs := SqL.of (e1 _ _ ha)
  have h2 : SqL K H b ys := SqL.of (e1 _ _ hb)
  refine ⟨fun d hd => ?_, fun hl => ⟨xs, ys, h1, h2, ?_⟩⟩
  · rw [pairsD_get] at hd
    cases hx : ds[i]? with
    | none => rw [hx] at hd; cases hd
    | some dx =>
      cases hy : es[i]? with
      | none => rw [hx, hy] at hd; cases hd
      | some dy =>
        rw [hx, hy] at hd
        cases hd
        obtain ⟨x, gx, rx⟩ := r.get hx
        obtain ⟨y, gy, ry⟩ := r2.get hy
        refine ⟨⟨xs, ys, x, y, h1, h2, gx, gy⟩, fun v H' hy' => ?_⟩
        obtain ⟨T, x', y', rfl, hT, rfl, fx, fy⟩ := hy'
        have e3 := (fx _ h1).symm.trans gx
        have e4 := (fy _ h2).symm.trans gy
        cases e3
        cases e4
        exact .inr ⟨T, _, hT, rfl, rfl, _, rfl, .cons rx (.cons ry .nil)⟩
  · rw [pairsD_len] at hl
    rw [r.length, r2.length]
    omega
theorem wk_zipT {K : PySem.W.Frag} {F Z : Hp} {a b : Addr} {xs ys : List V} {ds es : List D} (ha : Z a = some (.tup xs)) (hb : Z b = some (.tup ys)) (r : Reps Z xs ds) (r2 : Reps Z ys es) : Wk F Z (RZ.ItzT K a b) (pairsD ds es) := fun i H e1 e2 => by
  have h1 : SqT K H a xs := SqT.of (e1 _ _ ha)
  have h2 : SqT K H b ys := SqT.of (e1 _ _ hb)
  refine ⟨fun d hd => ?_, fun hl => ⟨xs, ys, h1, h2, ?_⟩⟩
  · rw [pairsD_get] at hd
    cases hx : ds[i]? with
    | none => rw [hx] at hd; cases hd
    | some dx =>
      cases hy : es[i]? with
      | none => rw [hx, hy] at hd; cases hd
      | some dy =>
        rw [hx, hy] at hd
        cases hd
        obtain ⟨x, gx, rx⟩ := r.get hx
        obtain ⟨y, gy, ry⟩ := r2.get hy
        refine ⟨⟨xs, ys, x, y, h1, h2, gx, gy⟩, fun v H' hy' => ?_⟩
        obtain ⟨T, x', y', rfl, hT, rfl, fx, fy⟩ := hy'
        have e3 := (fx _ h1).symm.trans gx
        have e4 := (fy _ h2).symm.trans gy
        cases e3
        cases e4
        exact .inr ⟨T, _, hT, rfl, rfl, _, rfl, .cons rx (.cons ry .nil)⟩
  · rw [pairsD_len] at hl
    rw [r.length, r2.length]
    omega
theorem ji_zip {X : Cx} {W : WM} {e e2 : Expr} {m : DM} {p pos tpos : Pos} {elts : List Expr} {kk : Nat} (hm : X.mg "zip" = none) (ha : JD X W [e, e2] m) (hg : Gl X "zip" := by first | exact Or.inl rfl | exact Or.inr rfl | exact rfl)
    (hs : starEach [e, e2] X.env = (false, eval e X.env) :: starEach [e2] X.env := by rfl) (hpl : (backTo pos (starEach [e2] X.env)).any (·.1) = false := by rfl) :
    JI X W (.Tuple elts kk tpos) (.Call (.Name "zip" p) [e, e2] [] pos) (mZip m) :=
  ⟨PI.imp (RZ.pi_zipA hg hm ha.run hs hpl) fun σ H R h => tDs_bindI h fun F Z B S ds vs H1 RS rr p => by
    cases hz : zipD ds with
    | none => rw [hz] at p; exact p.elim
    | some xs =>
      rw [hz] at p
      obtain ⟨a, b, rfl, hd⟩ := zipD_some hz
      rcases hd with rfl | rfl
      · match vs, rr with
        | [v, w], .cons r1 (.cons r2 .nil) =>
          cases r1 with
          | lst h1 q1 => cases r2 with
            | lst h2 q2 => exact ⟨_, _, _, _, rfl, .inl ⟨SqL.of (RS.exZ _ _ h1), SqL.of (RS.exZ _ _ h2), p Z H1 _ F B (Ex.refl Z) RS (wk_zipL h1 h2 q1 q2) back0⟩⟩
      · match vs, rr with
        | [v, w], .cons r1 (.cons r2 .nil) =>
          cases r1 with
          | tup h1 q1 => cases r2 with
            | tup h2 q2 => exact ⟨_, _, _, _, rfl, .inr ⟨SqT.of (RS.exZ _ _ h1), SqT.of (RS.exZ _ _ h2), p Z H1 _ F B (Ex.refl Z) RS (wk_zipT h1 h2 q1 q2) back0⟩⟩⟩
end Ev

namespace Ev
open PySem PySem.Spec L2

/-! ### a def -/
def clean : Sl → Sl
  | .own true o => .own true o
  | _ => .no
def outsOf : Nat → Sg → List Sl
  | 0, _ => []
  | n + 1, [] => .no :: outsOf n []
  | n + 1, s :: S => clean s :: outsOf n S
def fnM (np n : Nat) (mb : SM) : FM := fun sl => match mb (sl ++ List.replicate (n - np) .no) with
  | .ok .nx S => .ok (.d .none) (outsOf np S)
  | .ok (.rt r) S => if notRef r then .ok r (outsOf np S) else .st
  | .ex c S => .ex c (outsOf np S)
  | _ => .st
theorem gt_append_left {S T : Sg} {i : Nat} (h : i < S.length) : gt (S ++ T) i = gt S i := by
  unfold gt; rw [List.getD, List.getD, List.getElem?_append_left h]
theorem gt_ge {S : Sg} {i : Nat} (h : S.length ≤ i) : gt S i = .no := by
  unfold gt; rw [List.getD, List.getElem?_eq_none h]; rfl
theorem gt_pad {S : Sg} {n i : Nat} : gt (S ++ List.replicate n .no) i = gt S i := by
  by_cases h : i < S.length
  · exact gt_append_left h
  · rw [gt_ge (Nat.le_of_not_lt h)]
    unfold gt
    rw [List.getD, List.getElem?_append_right (Nat.le_of_not_lt h), List.getElem?_replicate]
    split <;> rfl
theorem RepSt.pad {F Z H : Hp} {B : Nat → Option V} {S : Sg} {σ : L2.St} (R : RepSt F Z B S σ H none) (n : Nat) : RepSt F Z B (S ++ List.replicate n .no) (σ ++ List.replicate n none) H none := by
  obtain ⟨hl, eF, eZ, dj, fp, h1, h2, h3, h4⟩ := R
  refine ⟨by simp [hl], eF, eZ, dj, fp, fun i => ?_, h2, h3, h4⟩
  have k := h1 i
  rw [gt_pad]
  by_cases hi : i < σ.length
  · rw [List.getElem?_append_left hi]; exact k
  · rw [gt_ge (by rw [hl]; exact Nat.le_of_not_lt hi)] at k ⊢
    exact k
theorem len_outs : ∀ (np : Nat) (S : Sg), (outsOf np S).length = np
  | 0, _ => rfl
  | n + 1, [] => by simp [outsOf, len_outs n]
  | n + 1, s :: S => by simp [outsOf, len_outs n]
theorem gt_cons0 {s : Sl} {S : Sg} : gt (s :: S) 0 = s := rfl
theorem gt_consS {s : Sl} {S : Sg} {i : Nat} : gt (s :: S) (i + 1) = gt S i := by simp [gt]
theorem gt_outs : ∀ {np : Nat} {S : Sg} {i : Nat}, gt (outsOf np S) i = if i < np then clean (gt S i) else .no
  | 0, S, i => by simp [outsOf, gt]
  | n + 1, [], 0 => rfl
  | n + 1, [], i + 1 => by
    unfold outsOf
    rw [gt_consS, gt_outs]
    simp [gt]
  | n + 1, s :: S, 0 => by unfold outsOf; rw [gt_cons0, if_pos (by omega), gt_cons0]
  | n + 1, s :: S, i + 1 => by
    unfold outsOf
    rw [gt_consS, gt_outs, gt_consS]
    simp
theorem RepSt.outs {F Z H : Hp} {S : Sg} {σ : L2.St} {vs : List V} {t : Option (V × Ob)} {np : Nat} (hv : vs.length = np) (R : RepSt F Z (ancs vs) S σ H t) : RepSt F Z (ancs vs) (outsOf np S) (vs.map some) H t := by
  obtain ⟨hl, eF, eZ, dj, fp, h1, h2, h3, h4⟩ := R
  have key : ∀ i, (∃ o, gt (outsOf np S) i = .own true o ∧ gt S i = .own true o ∧ i < np) ∨ gt (outsOf np S) i = .no := fun i => by
    rw [gt_outs]
    by_cases hi : i < np
    · rw [if_pos hi]
      cases hg : gt S i with
      | own b o => cases b with
        | true => exact .inl ⟨o, rfl, rfl, hi⟩
        | false => exact .inr rfl
      | _ => exact .inr rfl
    · rw [if_neg hi]; exact .inr rfl
  classical
  refine ⟨by rw [len_outs, List.length_map, hv], eF, eZ, dj, fun j => match j with | none => fp none | some i => if gt (outsOf np S) i = Sl.no then [] else fp (some i), fun i => ?_, h2, fun j a ha => ?_, fun i j a hi hj => ?_⟩
  · rcases key i with ⟨o, e1, e2, hi⟩ | e1
    · have k := h1 i
      rw [e2] at k
      have ne : ¬ gt (outsOf np S) i = .no := by rw [e1]; intro z; cases z
      simp only [if_neg ne]
      rw [e1]
      obtain ⟨v, e3, e4, e5⟩ := k
      have e6 : vs[i]? = some v := e5 rfl
      exact ⟨v, by rw [List.getElem?_map, e6]; rfl, e4, e5⟩
    · simp only [if_pos e1]
      rw [e1]; rfl
  · cases j with
    | none => exact h3 none a ha
    | some i =>
      by_cases q : gt (outsOf np S) i = Sl.no
      · simp [q] at ha
      · simp only [if_neg q] at ha; exact h3 _ a ha
  · have un : ∀ j, a ∈ (match j with | none => fp none | some i => if gt (outsOf np S) i = Sl.no then [] else fp (some i)) → a ∈ fp j := fun j hj => by
      cases j with
      | none => exact hj
      | some i =>
        by_cases q : gt (outsOf np S) i = Sl.no
        · simp [q] at hj
        · simp only [if_neg q] at hj; exact hj
    exact h4 _ _ a (un _ hi) (un _ hj)
section
variable {P : Program} {w : World} {K : PySem.W.Frag} {mg : Str → Option Value} {base : Heap}
abbrev CxF (P : Program) (w : World) (K : PySem.W.Frag) (mg : Str → Option Value) (base : Heap) (N : List Str) (qual : Str) (st : Stmt) (f : Addr) (cdv : Value) (A : Around) (outer : List Env) (s : Shared) (H : Hp) (E : XK) : Cx := cxOf (L2.CX P w) P w K mg base N qual (defScope st) f cdv A outer s H E
theorem tk_cx {N : List Str} {qual : Str} {st : Stmt} {f : Addr} {cdv : Value} {A : Around} {outer : List Env} {s : Shared} {H : Hp} {E : XK} : Tk (CxF P w K mg base N qual st f cdv A outer s H E) (Wf mg E) :=
  (L2.takes_of rfl rfl rfl rfl).imp fun cls d σ H' ⟨c, C, h1, h2, h3, h4⟩ => by
    subst h2 h3
    exact h4 C h1
theorem ps_cx {N : List Str} {qual : Str} {st : Stmt} {f : Addr} {cdv : Value} {A : Around} {outer : List Env} {s : Shared} {H : Hp} {E : XK} {X : Cx} (hX : X = CxF P w K mg base N qual st f cdv A outer s H E) : PassesOwn (model X.prog X.w) X.A X.env X.xe := by
  subst hX
  exact L2.passes_of rfl
theorem fn_ok {x qual : Str} {st : Stmt} {f : Addr} {fd : FuncData} {N ps : List Str} {k : Nat} {mb : SM} (Fn : Fun K x qual st f fd) (S : FnScope N ps (defScope st))
    (hb : ∀ (cdv : Value) (A : Around) (outer : List Env) (s : Shared) (H : Hp) (E : XK), Room k (A.deeper (PyProof.Rows.envOfC qual (defScope st) s.heap.objs.size f cdv)) → JB (CxF P w K mg base N qual st f cdv A outer s H E) (Wf mg E) (defBody st) mb) :
    FnOk P w K mg base (L2.CX P w) (k + 1) f fd ps (spF mg ps.length (fnM ps.length N.length mb)) := by
  have hpl : ps.length ≤ N.length := by have := congrArg List.length S.pre; rw [List.length_take] at this; omega
  refine Fn.okX S (fun vs H Q E ⟨_, _, _, h, _⟩ => h) fun cdv A outer s H vs Q E hr ⟨F, Z, sl, hl, R, p⟩ => ?_
  refine ⟨_, (hb cdv A outer s H E hr).run, F, Z, ancs vs, sl ++ List.replicate (N.length - ps.length) .no, ?_, ?_⟩
  · unfold L2.start
    rw [hl]
    exact R.pad _
  · have hlen : (sl ++ List.replicate (N.length - ps.length) Sl.no).length = N.length := by
      rw [List.length_append, List.length_replicate, R.len, List.length_map, hl]; omega
    revert p
    unfold fnM
    cases hm : mb (sl ++ List.replicate (N.length - ps.length) .no) with
    | st => exact fun p => p.elim
    | ex c S1 =>
      intro p Z' σ' H' e R' C hC
      exact p Z' H' e (R'.outs hl) C hC
    | ok fl S1 =>
      cases fl with
      | bk => exact fun p => p.elim
      | ct => exact fun p => p.elim
      | nx =>
        intro p Z' σ' H' e R'
        exact p Z' H' .non e ⟨R'.outs hl, .non⟩ rfl
      | rt r =>
        intro p Z' σ' H' v e hr
        dsimp only at p
        by_cases hn : notRef r = true
        · rw [if_pos hn] at p
          cases r with
          | ref i => cases hn
          | d x => exact p Z' H' v e ⟨hr.1.outs hl, hr.2⟩ rfl
          | tmp o => exact p Z' H' v e (RepSt.outs hl hr) rfl
        · rw [if_neg hn] at p; exact p.elim
end
end Ev

namespace Ev
open PySem PySem.Spec L2

/-! ### the law -/
def noLists (K : PySem.W.Frag) : Bool := K.all fun p => !(p.2.cls == Value.type "list")
theorem mem_lookup {a : Addr} {o : Obj} : ∀ {l : List (Addr × Obj)}, l.lookup a = some o → (a, o) ∈ l
  | (b, x) :: r, h => by
    rw [List.lookup_cons] at h
    cases q : a == b with
    | true =>
      rw [q] at h
      cases h
      rw [beq_iff_eq.mp q]
      exact List.mem_cons_self
    | false =>
      rw [q] at h
      exact List.mem_cons_of_mem _ (mem_lookup h)
theorem noLists_ok {K : PySem.W.Frag} (h : noLists K = true) {a : Addr} {o : Obj} (e : K.lookup a = some o) : o.cls ≠ Value.type "list" := by
  have hm : (a, o) ∈ (K : List (Addr × Obj)) := mem_lookup e
  have := List.all_eq_true.mp h _ hm
  intro z
  rw [z] at this
  exact absurd this (by decide +kernel)
def spLaw (K : PySem.W.Frag) : Sp := fun vs H Q _ => ∃ (a : Addr) (ns : List Int), vs = [.ref a] ∧ SqL K H a (ns.map V.int) ∧ ns.length ≤ 63 ∧ Only H ∧ ∀ H', Q (.bl true) H'
section
variable {P : Program} {w : World} {K : PySem.W.Frag} {mg : Str → Option Value} {base : Heap}
theorem law_ok {f : Addr} {fd : FuncData} {x : Str} {k : Nat} {lm : FM} (hK : noLists K = true) (F : FnOk P w K mg base (L2.CX P w) k f fd [x] (spF mg 1 lm))
    (h : ∀ ns : List Int, ns.length ≤ 63 → ∃ outs, lm [.d (scrD ns)] = .ok (.d (.bool true)) outs) : FnOk P w K mg base (L2.CX P w) k f fd [x] (spLaw K) :=
  F.imp fun vs H Q E ⟨a, ns, e, hs, hl, ho, q⟩ => by
    subst e
    have ha : ∃ o, H a = some (.frz o (.lst (ns.map V.int))) := by
      rcases hs with (hs | ⟨o, hs⟩) | ⟨o, its, n, hk, hc, _⟩
      · rcases ho a with z | ⟨o, xs, z⟩
        · rw [hs] at z; cases z
        · rw [hs] at z; cases z
      · exact ⟨o, hs⟩
      · exact absurd hc (noLists_ok hK hk)
    obtain ⟨o, ha⟩ := ha
    obtain ⟨outs, he⟩ := h ns hl
    refine ⟨fun _ => none, H, [.d (scrD ns)], rfl, ⟨rfl, fun a o h => (by cases h), Ex.refl H, fun a z => absurd rfl z, fun _ => [], fun i => ?_, rfl, fun j a h => absurd h (by simp), fun i j a h => absurd h (by simp)⟩, ?_⟩
    · cases i with
      | zero => exact ⟨rfl, _, rfl, .scr ha⟩
      | succ i => simp [gt, SlotR]
    · rw [he]
      intro Z' H' v e hr hn
      have hr' := hr.2
      cases hr'
      exact q H'
end
theorem cx_none {w : World} {P : Program} (H : Hp) (s : Shared) (e : Value) (s' : Shared) (h : L2.CX P w [] H s (fun _ _ _ => False) e s') : False := by
  obtain ⟨_, _, _, _, _, _, _, _, _, _, _, _, z⟩ := h
  exact z
end Ev

namespace Ev
open PySem PySem.Spec L2

theorem hu66 {k : Nat} {A : Around} (r : Room k A) : A.units + 66 < cLine := by have := r.un; omega
theorem fn_none {P : Program} {w : World} {K : PySem.W.Frag} {mg : Str → Option Value} {base : Heap} {CX : CXT} {k np : Nat} {f : Addr} {fd : FuncData} {ps : List Str} (h : ps.length = np) : FnOk P w K mg base CX k f fd ps (spF mg np fun _ => .st) :=
  ⟨fun vs H Q E ⟨_, _, _, e, _⟩ => by rw [e, h], fun A outer s H args us vs Q E _ _ _ _ ⟨_, _, _, _, _, z⟩ => z.elim⟩

/-! ### methods of a list of our own -/
def ownL (S : Sg) (i : Nat) : Bool := match gt S i with
  | .own _ (.lst _) => true
  | _ => false
/-- the list in the slot changes, a value comes of it -/
def chg (i : Nat) (g : List D → Option (D × List D)) (S : Sg) : Out Rs := match gt S i with
  | .own b (.lst ds) => (match g ds with
    | some (r, ds') => .ok (.d r) (S.set i (.own b (.lst ds')))
    | none => .st)
  | _ => .st
def mOwn0 (i : Nat) (g : List D → Option (D × List D)) : EM := fun S => if ownL S i then chg i g S else .st
def mOwn1 (i : Nat) (g : D → List D → Option (D × List D)) (m : EM) : EM := fun S => if ownL S i then (mD m S).bind fun x S1 => chg i (g x) S1 else .st
def mOwn2 (i : Nat) (g : D → D → List D → Option (D × List D)) (m1 m2 : EM) : EM := fun S => if ownL S i then (mD m1 S).bind fun x S1 => (mD m2 S1).bind fun y S2 => chg i (g x y) S2 else .st
theorem ownL_some {F Z : Hp} {B : Nat → Option V} {S : Sg} {σ : L2.St} {H : Hp} {i : Nat} (R : RepSt F Z B S σ H none) (h : ownL S i = true) : ∃ a, σ[i]? = some (some (.ref a)) := by
  unfold ownL at h
  cases hg : gt S i with
  | own b o =>
    cases o with
    | lst ds =>
      obtain ⟨a, xs, h1, _⟩ := R.mutL hg
      exact ⟨a, h1⟩
    | dct es => rw [hg] at h; cases h
  | no => rw [hg] at h; cases h
  | d x => rw [hg] at h; cases h
  | lent => rw [hg] at h; cases h
theorem chg_some {F Z : Hp} {B : Nat → Option V} {S : Sg} {σ : L2.St} {H : Hp} {i : Nat} {g : List D → Option (D × List D)} {W : WM} {Q : VK} {a : Addr} (R : RepSt F Z B S σ H none) (ha : σ[i]? = some (some (.ref a))) (h : PostE F Z B σ W Q (chg i g S)) :
    ∃ xs ds r ds', H a = some (.lst xs) ∧ Reps Z xs ds ∧ g ds = some (r, ds') ∧ ∀ w xs', Rep Z w r → Reps Z xs' ds' → Q w (upd H a (.lst xs')) := by
  unfold chg at h
  cases hg : gt S i with
  | own b o =>
    cases o with
    | lst ds =>
      rw [hg] at h
      dsimp only at h
      obtain ⟨a', xs, h1, h2, h3, k⟩ := R.mutL hg
      rw [ha] at h1
      cases h1
      cases hq : g ds with
      | none => rw [hq] at h; exact h.elim
      | some q =>
        obtain ⟨r, ds'⟩ := q
        rw [hq] at h
        exact ⟨xs, ds, r, ds', h2, h3, hq, fun w xs' r1 r2 => h Z _ w (Ex.refl Z) ⟨k xs' ds' r2, r1⟩⟩
    | dct es => rw [hg] at h; exact h.elim
  | no => rw [hg] at h; exact h.elim
  | d x => rw [hg] at h; exact h.elim
  | lent => rw [hg] at h; exact h.elim
theorem tD_run {W : WM} {m : EM} {F Z : Hp} {B : Nat → Option V} {S : Sg} {σ : L2.St} {H : Hp} {Q R' : VK} {k : D → Sg → Out Rs} (R : RepSt F Z B S σ H none) (p : PostE F Z B σ W Q ((mD m S).bind k))
    (hk : ∀ Z2 H2 x v S2, Ex Z Z2 → RepSt F Z2 B S2 σ H2 none → Rep Z2 v x → PostE F Z2 B σ W Q (k x S2) → R' v H2) : tE W m σ H R' := by
  refine ⟨F, Z, B, S, R, ?_⟩
  revert p
  simp only [mD]
  cases m S with
  | st => exact fun p => p
  | ex c S1 => exact fun p => p
  | ok r S1 =>
    intro p Z1 H1 v e1 hr
    simp only [bind_ok] at p
    cases hsh : share r S1 with
    | none => rw [hsh] at p; exact p.elim
    | some q =>
      obtain ⟨x, S2⟩ := q
      rw [hsh] at p
      simp only [bind_ok] at p
      obtain ⟨Z2, e2, R2, rep⟩ := share_ok hr hsh
      exact hk Z2 H1 x v S2 (e1.trans e2) R2 rep (p.mono (e1.trans e2))
/-- a method's promise, by what its list stands for -/
def Own0 (r : V → List V → Hp → VK → Prop) (g : List D → Option (D × List D)) : Prop := ∀ (Z H : Hp) (a : Addr) (xs : List V) (ds : List D) (rd : D) (ds' : List D) (Q : VK), H a = some (.lst xs) → Reps Z xs ds → g ds = some (rd, ds') →
  (∀ w xs', Rep Z w rd → Reps Z xs' ds' → Q w (upd H a (.lst xs'))) → r (.ref a) [] H Q
def Own1 (r : V → List V → Hp → VK → Prop) (g : D → List D → Option (D × List D)) : Prop := ∀ (Z H : Hp) (a : Addr) (xs : List V) (ds : List D) (v : V) (d rd : D) (ds' : List D) (Q : VK), Ex Z H → H a = some (.lst xs) → Reps Z xs ds → Rep Z v d → g d ds = some (rd, ds') →
  (∀ w xs', Rep Z w rd → Reps Z xs' ds' → Q w (upd H a (.lst xs'))) → r (.ref a) [v] H Q
def Own2 (r : V → List V → Hp → VK → Prop) (g : D → D → List D → Option (D × List D)) : Prop := ∀ (Z H : Hp) (a : Addr) (xs : List V) (ds : List D) (v v2 : V) (d d2 rd : D) (ds' : List D) (Q : VK), H a = some (.lst xs) → Reps Z xs ds → Rep Z v d → Rep Z v2 d2 → g d d2 ds = some (rd, ds') →
  (∀ w xs', Rep Z w rd → Reps Z xs' ds' → Q w (upd H a (.lst xs'))) → r (.ref a) [v, v2] H Q
section
variable {X : Cx} {W : WM} {e e1 e2 : Expr} {m m1 m2 : EM} {i : Nat} {x name : Str} {p apos cpos : Pos} {id : String} {r : V → List V → Hp → VK → Prop}
theorem je_own0 {g : List D → Option (D × List D)} (hm : MtR X id r) (ho : Own0 r g) (slot : Slot "list" name id) (hty : typeOf (.builtin id) = pure (.type "method_descriptor")) (hN : X.N[i]? = some x := by rfl)
    (hv : Vis X.env.scope x := by first | exact Or.inl rfl | exact Or.inr (Or.inl rfl) | exact Or.inr (Or.inr rfl)) (hd : (x == ("__debug__" : Str)) = false := by decide) (hcd : (x == ("__classdict__" : Str)) = false := by decide)
    (hbase : attributeBase (.Name x p) name X.env (eval (.Name x p) X.env) = eval (.Name x p) X.env := by rfl) (hline : (apos.endLine == cpos.line) = true := by rfl) : JE X W (.Call (.Attribute (.Name x p) name apos) [] [] cpos) (mOwn0 i g) :=
  ⟨PE.imp (pe_bm0 PySem.F.plainAttrs_list slot hty hm (pe_var hN hv hd hcd) hbase hline) fun σ H Q h => by
    obtain ⟨F, Z, B, S, R, p⟩ := h
    unfold mOwn0 at p
    by_cases ho' : ownL S i = true
    · rw [if_pos ho'] at p
      obtain ⟨a, ha⟩ := ownL_some R ho'
      obtain ⟨xs, ds, rd, ds', h1, h2, h3, k⟩ := chg_some R ha p
      exact ⟨.ref a, ha, .inl ⟨rfl, xs, SqL.of h1⟩, ho Z H a xs ds rd ds' Q h1 h2 h3 k⟩
    · rw [if_neg ho'] at p; exact p.elim⟩
theorem je_own1 {g : D → List D → Option (D × List D)} (hm : MtR X id r) (ho : Own1 r g) (slot : Slot "list" name id) (hty : typeOf (.builtin id) = pure (.type "method_descriptor")) (he : JE X W e m) (hN : X.N[i]? = some x := by rfl)
    (hv : Vis X.env.scope x := by first | exact Or.inl rfl | exact Or.inr (Or.inl rfl) | exact Or.inr (Or.inr rfl)) (hd : (x == ("__debug__" : Str)) = false := by decide) (hcd : (x == ("__classdict__" : Str)) = false := by decide)
    (hbase : attributeBase (.Name x p) name X.env (eval (.Name x p) X.env) = eval (.Name x p) X.env := by rfl)
    (hfew : ((backTo cpos (starEach [e] X.env)).all (fun x => !x.1) && (backToKw cpos (keywordEach [] X.env)).all (fun x => x.1.isSome) && decide ([e].length + ([] : List Keyword).length + (if ([] : List Keyword).isEmpty then 0 else 1) < 30)) = true := by rfl)
    (hline : (apos.endLine == cpos.line) = true := by rfl) (hs : starEach [e] X.env = (false, eval e X.env) :: starEach [] X.env := by rfl) (hplain : (backTo cpos (starEach [] X.env)).any (·.1) = false := by rfl) :
    JE X W (.Call (.Attribute (.Name x p) name apos) [e] [] cpos) (mOwn1 i g m) :=
  ⟨PE.imp (pe_bm PySem.F.plainAttrs_list slot hty hm (pe_var hN hv hd hcd) (pa_cons he.run pa_nil hs) hbase hfew hline hs hplain) fun σ H Q h => by
    obtain ⟨F, Z, B, S, R, p⟩ := h
    unfold mOwn1 at p
    by_cases ho' : ownL S i = true
    · rw [if_pos ho'] at p
      obtain ⟨a, ha⟩ := ownL_some R ho'
      have hq : ∃ xs, SqL X.K H a xs := by
        unfold ownL at ho'
        cases hg : gt S i with
        | own b o =>
          cases o with
          | lst ds => obtain ⟨a', xs, h1, h2, _⟩ := R.mutL hg; rw [ha] at h1; cases h1; exact ⟨xs, SqL.of h2⟩
          | dct es => rw [hg] at ho'; cases ho'
        | no => rw [hg] at ho'; cases ho'
        | d x => rw [hg] at ho'; cases ho'
        | lent => rw [hg] at ho'; cases ho'
      refine ⟨.ref a, ha, .inl ⟨rfl, hq⟩, tD_run R p fun Z2 H2 x v S2 e2 R2 rep p2 => ?_⟩
      obtain ⟨xs, ds, rd, ds', h1, h2, h3, k⟩ := chg_some R2 ha p2
      exact ho Z2 H2 a xs ds v x rd ds' Q R2.exZ h1 h2 rep h3 k
    · rw [if_neg ho'] at p; exact p.elim⟩
theorem je_own2 {g : D → D → List D → Option (D × List D)} (hm : MtR X id r) (ho : Own2 r g) (slot : Slot "list" name id) (hty : typeOf (.builtin id) = pure (.type "method_descriptor")) (he1 : JE X W e1 m1) (he2 : JE X W e2 m2) (hN : X.N[i]? = some x := by rfl)
    (hv : Vis X.env.scope x := by first | exact Or.inl rfl | exact Or.inr (Or.inl rfl) | exact Or.inr (Or.inr rfl)) (hd : (x == ("__debug__" : Str)) = false := by decide) (hcd : (x == ("__classdict__" : Str)) = false := by decide)
    (hbase : attributeBase (.Name x p) name X.env (eval (.Name x p) X.env) = eval (.Name x p) X.env := by rfl)
    (hfew : ((backTo cpos (starEach [e1, e2] X.env)).all (fun x => !x.1) && (backToKw cpos (keywordEach [] X.env)).all (fun x => x.1.isSome) && decide ([e1, e2].length + ([] : List Keyword).length + (if ([] : List Keyword).isEmpty then 0 else 1) < 30)) = true := by rfl)
    (hline : (apos.endLine == cpos.line) = true := by rfl) (hs : starEach [e1, e2] X.env = (false, eval e1 X.env) :: starEach [e2] X.env := by rfl) (hs2 : starEach [e2] X.env = (false, eval e2 X.env) :: starEach [] X.env := by rfl) (hplain : (backTo cpos (starEach [e2] X.env)).any (·.1) = false := by rfl) :
    JE X W (.Call (.Attribute (.Name x p) name apos) [e1, e2] [] cpos) (mOwn2 i g m1 m2) :=
  ⟨PE.imp (pe_bm PySem.F.plainAttrs_list slot hty hm (pe_var hN hv hd hcd) (pa_cons he1.run (pa_cons he2.run pa_nil hs2) hs) hbase hfew hline hs hplain) fun σ H Q h => by
    obtain ⟨F, Z, B, S, R, p⟩ := h
    unfold mOwn2 at p
    by_cases ho' : ownL S i = true
    · rw [if_pos ho'] at p
      obtain ⟨a, ha⟩ := ownL_some R ho'
      have hq : ∃ xs, SqL X.K H a xs := by
        unfold ownL at ho'
        cases hg : gt S i with
        | own b o =>
          cases o with
          | lst ds => obtain ⟨a', xs, h1, h2, _⟩ := R.mutL hg; rw [ha] at h1; cases h1; exact ⟨xs, SqL.of h2⟩
          | dct es => rw [hg] at ho'; cases ho'
        | no => rw [hg] at ho'; cases ho'
        | d x => rw [hg] at ho'; cases ho'
        | lent => rw [hg] at ho'; cases ho'
      refine ⟨.ref a, ha, .inl ⟨rfl, hq⟩, tD_run R p fun Z2 H2 x v S2 e2 R2 rep p2 => tD_run R2 p2 fun Z3 H3 x3 v3 S3 e3 R3 rep3 p3 => ?_⟩
      obtain ⟨xs, ds, rd, ds', h1, h2, h3, k⟩ := chg_some R3 ha p3
      exact ho Z3 H3 a xs ds v v3 x x3 rd ds' Q h1 h2 (rep.mono e3) rep3 h3 k
    · rw [if_neg ho'] at p; exact p.elim⟩
end
def oApp : D → List D → Option (D × List D) := fun x ds => if ds.length < lim then some (.none, ds ++ [x]) else none
theorem own_app : Own1 rAppend oApp := fun Z H a xs ds v d rd ds' Q _ h1 h2 h3 h4 k => by
  unfold oApp at h4
  split at h4
  · rename_i hl
    cases h4
    exact ⟨a, xs, v, rfl, rfl, h1, lim_lt (by rw [h2.length]; exact hl), k .non _ .non (h2.append (.cons h3 .nil))⟩
  · cases h4
def oPop : List D → Option (D × List D) := fun ds => match ds[ds.length - 1]? with
  | some d => some (d, ds.dropLast)
  | none => none
theorem Reps.dropLast {Z : Hp} {vs : List V} {ds : List D} (h : Reps Z vs ds) : Reps Z vs.dropLast ds.dropLast := by
  rw [List.dropLast_eq_take, List.dropLast_eq_take, h.length]
  exact h.take _
theorem own_pop : Own0 rPop oPop := fun Z H a xs ds rd ds' Q h1 h2 h4 k => by
  unfold oPop at h4
  cases hd : ds[ds.length - 1]? with
  | none => rw [hd] at h4; cases h4
  | some d =>
    rw [hd] at h4
    cases h4
    obtain ⟨v, h5, h6⟩ := h2.get hd
    rw [← h2.length] at h5
    exact ⟨a, xs, v, rfl, rfl, h1, h5, k v _ h6 h2.dropLast⟩
end Ev

namespace Ev
open PySem PySem.Spec L2
/-! ### evaluation, step by step -/
theorem gt_0 {x0 : Sl} {r : Sg} : gt (x0 :: r) 0 = x0 := rfl
theorem set_0 {x0 y : Sl} {r : Sg} : List.set (x0 :: r) 0 y = y :: r := rfl
theorem gt_1 {x0 x1 : Sl} {r : Sg} : gt (x0 :: x1 :: r) 1 = x1 := rfl
theorem set_1 {x0 x1 y : Sl} {r : Sg} : List.set (x0 :: x1 :: r) 1 y = x0 :: y :: r := rfl
theorem gt_2 {x0 x1 x2 : Sl} {r : Sg} : gt (x0 :: x1 :: x2 :: r) 2 = x2 := rfl
theorem set_2 {x0 x1 x2 y : Sl} {r : Sg} : List.set (x0 :: x1 :: x2 :: r) 2 y = x0 :: x1 :: y :: r := rfl
theorem gt_3 {x0 x1 x2 x3 : Sl} {r : Sg} : gt (x0 :: x1 :: x2 :: x3 :: r) 3 = x3 := rfl
theorem set_3 {x0 x1 x2 x3 y : Sl} {r : Sg} : List.set (x0 :: x1 :: x2 :: x3 :: r) 3 y = x0 :: x1 :: x2 :: y :: r := rfl
theorem gt_4 {x0 x1 x2 x3 x4 : Sl} {r : Sg} : gt (x0 :: x1 :: x2 :: x3 :: x4 :: r) 4 = x4 := rfl
theorem set_4 {x0 x1 x2 x3 x4 y : Sl} {r : Sg} : List.set (x0 :: x1 :: x2 :: x3 :: x4 :: r) 4 y = x0 :: x1 :: x2 :: x3 :: y :: r := rfl
theorem gt_5 {x0 x1 x2 x3 x4 x5 : Sl} {r : Sg} : gt (x0 :: x1 :: x2 :: x3 :: x4 :: x5 :: r) 5 = x5 := rfl
theorem set_5 {x0 x1 x2 x3 x4 x5 y : Sl} {r : Sg} : List.set (x0 :: x1 :: x2 :: x3 :: x4 :: x5 :: r) 5 y = x0 :: x1 :: x2 :: x3 :: x4 :: y :: r := rfl
theorem gt_6 {x0 x1 x2 x3 x4 x5 x6 : Sl} {r : Sg} : gt (x0 :: x1 :: x2 :: x3 :: x4 :: x5 :: x6 :: r) 6 = x6 := rfl
theorem set_6 {x0 x1 x2 x3 x4 x5 x6 y : Sl} {r : Sg} : List.set (x0 :: x1 :: x2 :: x3 :: x4 :: x5 :: x6 :: r) 6 y = x0 :: x1 :: x2 :: x3 :: x4 :: x5 :: y :: r := rfl
theorem gt_7 {x0 x1 x2 x3 x4 x5 x6 x7 : Sl} {r : Sg} : gt (x0 :: x1 :: x2 :: x3 :: x4 :: x5 :: x6 :: x7 :: r) 7 = x7 := rfl
theorem set_7 {x0 x1 x2 x3 x4 x5 x6 x7 y : Sl} {r : Sg} : List.set (x0 :: x1 :: x2 :: x3 :: x4 :: x5 :: x6 :: x7 :: r) 7 y = x0 :: x1 :: x2 :: x3 :: x4 :: x5 :: x6 :: y :: r := rfl
theorem gt_8 {x0 x1 x2 x3 x4 x5 x6 x7 x8 : Sl} {r : Sg} : gt (x0 :: x1 :: x2 :: x3 :: x4 :: x5 :: x6 :: x7 :: x8 :: r) 8 = x8 := rfl
theorem set_8 {x0 x1 x2 x3 x4 x5 x6 x7 x8 y : Sl} {r : Sg} : List.set (x0 :: x1 :: x2 :: x3 :: x4 :: x5 :: x6 :: x7 :: x8 :: r) 8 y = x0 :: x1 :: x2 :: x3 :: x4 :: x5 :: x6 :: x7 :: y :: r := rfl
theorem gt_9 {x0 x1 x2 x3 x4 x5 x6 x7 x8 x9 : Sl} {r : Sg} : gt (x0 :: x1 :: x2 :: x3 :: x4 :: x5 :: x6 :: x7 :: x8 :: x9 :: r) 9 = x9 := rfl
theorem set_9 {x0 x1 x2 x3 x4 x5 x6 x7 x8 x9 y : Sl} {r : Sg} : List.set (x0 :: x1 :: x2 :: x3 :: x4 :: x5 :: x6 :: x7 :: x8 :: x9 :: r) 9 y = x0 :: x1 :: x2 :: x3 :: x4 :: x5 :: x6 :: x7 :: x8 :: y :: r := rfl
theorem gt_10 {x0 x1 x2 x3 x4 x5 x6 x7 x8 x9 x10 : Sl} {r : Sg} : gt (x0 :: x1 :: x2 :: x3 :: x4 :: x5 :: x6 :: x7 :: x8 :: x9 :: x10 :: r) 10 = x10 := rfl
theorem set_10 {x0 x1 x2 x3 x4 x5 x6 x7 x8 x9 x10 y : Sl} {r : Sg} : List.set (x0 :: x1 :: x2 :: x3 :: x4 :: x5 :: x6 :: x7 :: x8 :: x9 :: x10 :: r) 10 y = x0 :: x1 :: x2 :: x3 :: x4 :: x5 :: x6 :: x7 :: x8 :: x9 :: y :: r := rfl
theorem gt_11 {x0 x1 x2 x3 x4 x5 x6 x7 x8 x9 x10 x11 : Sl} {r : Sg} : gt (x0 :: x1 :: x2 :: x3 :: x4 :: x5 :: x6 :: x7 :: x8 :: x9 :: x10 :: x11 :: r) 11 = x11 := rfl
theorem set_11 {x0 x1 x2 x3 x4 x5 x6 x7 x8 x9 x10 x11 y : Sl} {r : Sg} : List.set (x0 :: x1 :: x2 :: x3 :: x4 :: x5 :: x6 :: x7 :: x8 :: x9 :: x10 :: x11 :: r) 11 y = x0 :: x1 :: x2 :: x3 :: x4 :: x5 :: x6 :: x7 :: x8 :: x9 :: x10 :: y :: r := rfl
theorem gt_12 {x0 x1 x2 x3 x4 x5 x6 x7 x8 x9 x10 x11 x12 : Sl} {r : Sg} : gt (x0 :: x1 :: x2 :: x3 :: x4 :: x5 :: x6 :: x7 :: x8 :: x9 :: x10 :: x11 :: x12 :: r) 12 = x12 := rfl
theorem set_12 {x0 x1 x2 x3 x4 x5 x6 x7 x8 x9 x10 x11 x12 y : Sl} {r : Sg} : List.set (x0 :: x1 :: x2 :: x3 :: x4 :: x5 :: x6 :: x7 :: x8 :: x9 :: x10 :: x11 :: x12 :: r) 12 y = x0 :: x1 :: x2 :: x3 :: x4 :: x5 :: x6 :: x7 :: x8 :: x9 :: x10 :: x11 :: y :: r := rfl
theorem gt_13 {x0 x1 x2 x3 x4 x5 x6 x7 x8 x9 x10 x11 x12 x13 : Sl} {r : Sg} : gt (x0 :: x1 :: x2 :: x3 :: x4 :: x5 :: x6 :: x7 :: x8 :: x9 :: x10 :: x11 :: x12 :: x13 :: r) 13 = x13 := rfl
theorem set_13 {x0 x1 x2 x3 x4 x5 x6 x7 x8 x9 x10 x11 x12 x13 y : Sl} {r : Sg} : List.set (x0 :: x1 :: x2 :: x3 :: x4 :: x5 :: x6 :: x7 :: x8 :: x9 :: x10 :: x11 :: x12 :: x13 :: r) 13 y = x0 :: x1 :: x2 :: x3 :: x4 :: x5 :: x6 :: x7 :: x8 :: x9 :: x10 :: x11 :: x12 :: y :: r := rfl
theorem gt_14 {x0 x1 x2 x3 x4 x5 x6 x7 x8 x9 x10 x11 x12 x13 x14 : Sl} {r : Sg} : gt (x0 :: x1 :: x2 :: x3 :: x4 :: x5 :: x6 :: x7 :: x8 :: x9 :: x10 :: x11 :: x12 :: x13 :: x14 :: r) 14 = x14 := rfl
theorem set_14 {x0 x1 x2 x3 x4 x5 x6 x7 x8 x9 x10 x11 x12 x13 x14 y : Sl} {r : Sg} : List.set (x0 :: x1 :: x2 :: x3 :: x4 :: x5 :: x6 :: x7 :: x8 :: x9 :: x10 :: x11 :: x12 :: x13 :: x14 :: r) 14 y = x0 :: x1 :: x2 :: x3 :: x4 :: x5 :: x6 :: x7 :: x8 :: x9 :: x10 :: x11 :: x12 :: x13 :: y :: r := rfl
theorem gt_15 {x0 x1 x2 x3 x4 x5 x6 x7 x8 x9 x10 x11 x12 x13 x14 x15 : Sl} {r : Sg} : gt (x0 :: x1 :: x2 :: x3 :: x4 :: x5 :: x6 :: x7 :: x8 :: x9 :: x10 :: x11 :: x12 :: x13 :: x14 :: x15 :: r) 15 = x15 := rfl
theorem set_15 {x0 x1 x2 x3 x4 x5 x6 x7 x8 x9 x10 x11 x12 x13 x14 x15 y : Sl} {r : Sg} : List.set (x0 :: x1 :: x2 :: x3 :: x4 :: x5 :: x6 :: x7 :: x8 :: x9 :: x10 :: x11 :: x12 :: x13 :: x14 :: x15 :: r) 15 y = x0 :: x1 :: x2 :: x3 :: x4 :: x5 :: x6 :: x7 :: x8 :: x9 :: x10 :: x11 :: x12 :: x13 :: x14 :: y :: r := rfl
theorem gt_16 {x0 x1 x2 x3 x4 x5 x6 x7 x8 x9 x10 x11 x12 x13 x14 x15 x16 : Sl} {r : Sg} : gt (x0 :: x1 :: x2 :: x3 :: x4 :: x5 :: x6 :: x7 :: x8 :: x9 :: x10 :: x11 :: x12 :: x13 :: x14 :: x15 :: x16 :: r) 16 = x16 := rfl
theorem set_16 {x0 x1 x2 x3 x4 x5 x6 x7 x8 x9 x10 x11 x12 x13 x14 x15 x16 y : Sl} {r : Sg} : List.set (x0 :: x1 :: x2 :: x3 :: x4 :: x5 :: x6 :: x7 :: x8 :: x9 :: x10 :: x11 :: x12 :: x13 :: x14 :: x15 :: x16 :: r) 16 y = x0 :: x1 :: x2 :: x3 :: x4 :: x5 :: x6 :: x7 :: x8 :: x9 :: x10 :: x11 :: x12 :: x13 :: x14 :: x15 :: y :: r := rfl
theorem gt_17 {x0 x1 x2 x3 x4 x5 x6 x7 x8 x9 x10 x11 x12 x13 x14 x15 x16 x17 : Sl} {r : Sg} : gt (x0 :: x1 :: x2 :: x3 :: x4 :: x5 :: x6 :: x7 :: x8 :: x9 :: x10 :: x11 :: x12 :: x13 :: x14 :: x15 :: x16 :: x17 :: r) 17 = x17 := rfl
theorem set_17 {x0 x1 x2 x3 x4 x5 x6 x7 x8 x9 x10 x11 x12 x13 x14 x15 x16 x17 y : Sl} {r : Sg} : List.set (x0 :: x1 :: x2 :: x3 :: x4 :: x5 :: x6 :: x7 :: x8 :: x9 :: x10 :: x11 :: x12 :: x13 :: x14 :: x15 :: x16 :: x17 :: r) 17 y = x0 :: x1 :: x2 :: x3 :: x4 :: x5 :: x6 :: x7 :: x8 :: x9 :: x10 :: x11 :: x12 :: x13 :: x14 :: x15 :: x16 :: y :: r := rfl
theorem gt_18 {x0 x1 x2 x3 x4 x5 x6 x7 x8 x9 x10 x11 x12 x13 x14 x15 x16 x17 x18 : Sl} {r : Sg} : gt (x0 :: x1 :: x2 :: x3 :: x4 :: x5 :: x6 :: x7 :: x8 :: x9 :: x10 :: x11 :: x12 :: x13 :: x14 :: x15 :: x16 :: x17 :: x18 :: r) 18 = x18 := rfl
theorem set_18 {x0 x1 x2 x3 x4 x5 x6 x7 x8 x9 x10 x11 x12 x13 x14 x15 x16 x17 x18 y : Sl} {r : Sg} : List.set (x0 :: x1 :: x2 :: x3 :: x4 :: x5 :: x6 :: x7 :: x8 :: x9 :: x10 :: x11 :: x12 :: x13 :: x14 :: x15 :: x16 :: x17 :: x18 :: r) 18 y = x0 :: x1 :: x2 :: x3 :: x4 :: x5 :: x6 :: x7 :: x8 :: x9 :: x10 :: x11 :: x12 :: x13 :: x14 :: x15 :: x16 :: x17 :: y :: r := rfl
theorem gt_19 {x0 x1 x2 x3 x4 x5 x6 x7 x8 x9 x10 x11 x12 x13 x14 x15 x16 x17 x18 x19 : Sl} {r : Sg} : gt (x0 :: x1 :: x2 :: x3 :: x4 :: x5 :: x6 :: x7 :: x8 :: x9 :: x10 :: x11 :: x12 :: x13 :: x14 :: x15 :: x16 :: x17 :: x18 :: x19 :: r) 19 = x19 := rfl
theorem set_19 {x0 x1 x2 x3 x4 x5 x6 x7 x8 x9 x10 x11 x12 x13 x14 x15 x16 x17 x18 x19 y : Sl} {r : Sg} : List.set (x0 :: x1 :: x2 :: x3 :: x4 :: x5 :: x6 :: x7 :: x8 :: x9 :: x10 :: x11 :: x12 :: x13 :: x14 :: x15 :: x16 :: x17 :: x18 :: x19 :: r) 19 y = x0 :: x1 :: x2 :: x3 :: x4 :: x5 :: x6 :: x7 :: x8 :: x9 :: x10 :: x11 :: x12 :: x13 :: x14 :: x15 :: x16 :: x17 :: x18 :: y :: r := rfl
theorem gt_20 {x0 x1 x2 x3 x4 x5 x6 x7 x8 x9 x10 x11 x12 x13 x14 x15 x16 x17 x18 x19 x20 : Sl} {r : Sg} : gt (x0 :: x1 :: x2 :: x3 :: x4 :: x5 :: x6 :: x7 :: x8 :: x9 :: x10 :: x11 :: x12 :: x13 :: x14 :: x15 :: x16 :: x17 :: x18 :: x19 :: x20 :: r) 20 = x20 := rfl
theorem set_20 {x0 x1 x2 x3 x4 x5 x6 x7 x8 x9 x10 x11 x12 x13 x14 x15 x16 x17 x18 x19 x20 y : Sl} {r : Sg} : List.set (x0 :: x1 :: x2 :: x3 :: x4 :: x5 :: x6 :: x7 :: x8 :: x9 :: x10 :: x11 :: x12 :: x13 :: x14 :: x15 :: x16 :: x17 :: x18 :: x19 :: x20 :: r) 20 y = x0 :: x1 :: x2 :: x3 :: x4 :: x5 :: x6 :: x7 :: x8 :: x9 :: x10 :: x11 :: x12 :: x13 :: x14 :: x15 :: x16 :: x17 :: x18 :: x19 :: y :: r := rfl
theorem gt_21 {x0 x1 x2 x3 x4 x5 x6 x7 x8 x9 x10 x11 x12 x13 x14 x15 x16 x17 x18 x19 x20 x21 : Sl} {r : Sg} : gt (x0 :: x1 :: x2 :: x3 :: x4 :: x5 :: x6 :: x7 :: x8 :: x9 :: x10 :: x11 :: x12 :: x13 :: x14 :: x15 :: x16 :: x17 :: x18 :: x19 :: x20 :: x21 :: r) 21 = x21 := rfl
theorem set_21 {x0 x1 x2 x3 x4 x5 x6 x7 x8 x9 x10 x11 x12 x13 x14 x15 x16 x17 x18 x19 x20 x21 y : Sl} {r : Sg} : List.set (x0 :: x1 :: x2 :: x3 :: x4 :: x5 :: x6 :: x7 :: x8 :: x9 :: x10 :: x11 :: x12 :: x13 :: x14 :: x15 :: x16 :: x17 :: x18 :: x19 :: x20 :: x21 :: r) 21 y = x0 :: x1 :: x2 :: x3 :: x4 :: x5 :: x6 :: x7 :: x8 :: x9 :: x10 :: x11 :: x12 :: x13 :: x14 :: x15 :: x16 :: x17 :: x18 :: x19 :: x20 :: y :: r := rfl
theorem gt_22 {x0 x1 x2 x3 x4 x5 x6 x7 x8 x9 x10 x11 x12 x13 x14 x15 x16 x17 x18 x19 x20 x21 x22 : Sl} {r : Sg} : gt (x0 :: x1 :: x2 :: x3 :: x4 :: x5 :: x6 :: x7 :: x8 :: x9 :: x10 :: x11 :: x12 :: x13 :: x14 :: x15 :: x16 :: x17 :: x18 :: x19 :: x20 :: x21 :: x22 :: r) 22 = x22 := rfl
theorem set_22 {x0 x1 x2 x3 x4 x5 x6 x7 x8 x9 x10 x11 x12 x13 x14 x15 x16 x17 x18 x19 x20 x21 x22 y : Sl} {r : Sg} : List.set (x0 :: x1 :: x2 :: x3 :: x4 :: x5 :: x6 :: x7 :: x8 :: x9 :: x10 :: x11 :: x12 :: x13 :: x14 :: x15 :: x16 :: x17 :: x18 :: x19 :: x20 :: x21 :: x22 :: r) 22 y = x0 :: x1 :: x2 :: x3 :: x4 :: x5 :: x6 :: x7 :: x8 :: x9 :: x10 :: x11 :: x12 :: x13 :: x14 :: x15 :: x16 :: x17 :: x18 :: x19 :: x20 :: x21 :: y :: r := rfl
theorem gt_23 {x0 x1 x2 x3 x4 x5 x6 x7 x8 x9 x10 x11 x12 x13 x14 x15 x16 x17 x18 x19 x20 x21 x22 x23 : Sl} {r : Sg} : gt (x0 :: x1 :: x2 :: x3 :: x4 :: x5 :: x6 :: x7 :: x8 :: x9 :: x10 :: x11 :: x12 :: x13 :: x14 :: x15 :: x16 :: x17 :: x18 :: x19 :: x20 :: x21 :: x22 :: x23 :: r) 23 = x23 := rfl
theorem set_23 {x0 x1 x2 x3 x4 x5 x6 x7 x8 x9 x10 x11 x12 x13 x14 x15 x16 x17 x18 x19 x20 x21 x22 x23 y : Sl} {r : Sg} : List.set (x0 :: x1 :: x2 :: x3 :: x4 :: x5 :: x6 :: x7 :: x8 :: x9 :: x10 :: x11 :: x12 :: x13 :: x14 :: x15 :: x16 :: x17 :: x18 :: x19 :: x20 :: x21 :: x22 :: x23 :: r) 23 y = x0 :: x1 :: x2 :: x3 :: x4 :: x5 :: x6 :: x7 :: x8 :: x9 :: x10 :: x11 :: x12 :: x13 :: x14 :: x15 :: x16 :: x17 :: x18 :: x19 :: x20 :: x21 :: x22 :: y :: r := rfl
theorem gt_24 {x0 x1 x2 x3 x4 x5 x6 x7 x8 x9 x10 x11 x12 x13 x14 x15 x16 x17 x18 x19 x20 x21 x22 x23 x24 : Sl} {r : Sg} : gt (x0 :: x1 :: x2 :: x3 :: x4 :: x5 :: x6 :: x7 :: x8 :: x9 :: x10 :: x11 :: x12 :: x13 :: x14 :: x15 :: x16 :: x17 :: x18 :: x19 :: x20 :: x21 :: x22 :: x23 :: x24 :: r) 24 = x24 := rfl
theorem set_24 {x0 x1 x2 x3 x4 x5 x6 x7 x8 x9 x10 x11 x12 x13 x14 x15 x16 x17 x18 x19 x20 x21 x22 x23 x24 y : Sl} {r : Sg} : List.set (x0 :: x1 :: x2 :: x3 :: x4 :: x5 :: x6 :: x7 :: x8 :: x9 :: x10 :: x11 :: x12 :: x13 :: x14 :: x15 :: x16 :: x17 :: x18 :: x19 :: x20 :: x21 :: x22 :: x23 :: x24 :: r) 24 y = x0 :: x1 :: x2 :: x3 :: x4 :: x5 :: x6 :: x7 :: x8 :: x9 :: x10 :: x11 :: x12 :: x13 :: x14 :: x15 :: x16 :: x17 :: x18 :: x19 :: x20 :: x21 :: x22 :: x23 :: y :: r := rfl
theorem gt_25 {x0 x1 x2 x3 x4 x5 x6 x7 x8 x9 x10 x11 x12 x13 x14 x15 x16 x17 x18 x19 x20 x21 x22 x23 x24 x25 : Sl} {r : Sg} : gt (x0 :: x1 :: x2 :: x3 :: x4 :: x5 :: x6 :: x7 :: x8 :: x9 :: x10 :: x11 :: x12 :: x13 :: x14 :: x15 :: x16 :: x17 :: x18 :: x19 :: x20 :: x21 :: x22 :: x23 :: x24 :: x25 :: r) 25 = x25 := rfl
theorem set_25 {x0 x1 x2 x3 x4 x5 x6 x7 x8 x9 x10 x11 x12 x13 x14 x15 x16 x17 x18 x19 x20 x21 x22 x23 x24 x25 y : Sl} {r : Sg} : List.set (x0 :: x1 :: x2 :: x3 :: x4 :: x5 :: x6 :: x7 :: x8 :: x9 :: x10 :: x11 :: x12 :: x13 :: x14 :: x15 :: x16 :: x17 :: x18 :: x19 :: x20 :: x21 :: x22 :: x23 :: x24 :: x25 :: r) 25 y = x0 :: x1 :: x2 :: x3 :: x4 :: x5 :: x6 :: x7 :: x8 :: x9 :: x10 :: x11 :: x12 :: x13 :: x14 :: x15 :: x16 :: x17 :: x18 :: x19 :: x20 :: x21 :: x22 :: x23 :: x24 :: y :: r := rfl
section
variable {α β : Type} {S S1 S2 : Sg} {a b m m2 me : EM} {g : D → D → Option Rs} {x y : D} {r r2 : Rs} {i : Nat} {t c tb : TM} {rs : List Rs} {ds : List D}
def frzK (r : Rs) (S : Sg) : Out Rs := .ok (frzR r) S
theorem e_frz : frz a S = (a S).bind frzK := rfl
theorem e_frzK : frzK r S = .ok (frzR r) S := rfl
theorem e_frz1 : frzR (.d x) = .d x := rfl
theorem e_frz2 : frzR (.ref i) = .ref i := rfl
theorem e_frz3 {o : Ob} : frzR (.tmp o) = .d o.toD := rfl
theorem e_toD1 : Ob.toD (.lst ds) = .list ds := rfl
theorem e_toD2 {es : List (D × D)} : Ob.toD (.dct es) = .dict es := rfl
def varK (i : Nat) (s : Sl) (S : Sg) : Out Rs := match s with
  | .d x => .ok (.d x) S
  | .own _ _ => .ok (.ref i) S
  | _ => .st
theorem e_mV : mV i S = varK i (gt S i) S := rfl
theorem e_varK1 : varK i (.d x) S = .ok (.d x) S := rfl
theorem e_varK2 {k : Bool} {o : Ob} : varK i (.own k o) S = .ok (.ref i) S := rfl
theorem e_mC : mC x S = .ok (.d x) S := rfl
theorem e_pk1 : peek S (.d x) = some x := rfl
theorem e_pk3 {o : Ob} : peek S (.tmp o) = some o.toD := rfl
def pkK : Sl → Option D
  | .d x => some x
  | .own _ o => some o.toD
  | _ => none
theorem e_pk2 : peek S (.ref i) = pkK (gt S i) := rfl
theorem e_pkK1 : pkK (.d x) = some x := rfl
theorem e_pkK2 {k : Bool} {o : Ob} : pkK (.own k o) = some o.toD := rfl
theorem e_ofO1 : ofO (some r) S = .ok r S := rfl
theorem e_ofB1 {k : Bool} : ofB (some k) S = .ok k S := rfl
def binC (x y : Option D) (g : D → D → Option Rs) (S : Sg) : Out Rs := match x, y with
  | some x, some y => ofO (g x y) S
  | _, _ => .st
def binB (g : D → D → Option Rs) (r1 r2 : Rs) (S2 : Sg) : Out Rs := binC (peek S2 r1) (peek S2 r2) g S2
def binA (g : D → D → Option Rs) (b : EM) (r1 : Rs) (S1 : Sg) : Out Rs := (frz b S1).bind (binB g r1)
theorem e_mBin : mBin g a b S = (frz a S).bind (binA g b) := rfl
theorem e_binA : binA g b r S = (frz b S).bind (binB g r) := rfl
theorem e_binB : binB g r r2 S = binC (peek S r) (peek S r2) g S := rfl
theorem e_binC : binC (some x) (some y) g S = ofO (g x y) S := rfl
def asBK (r : Rs) (S1 : Sg) : Out Bool := match r with
  | .d (.bool b) => .ok b S1
  | _ => .st
theorem e_asB : asB m S = (m S).bind asBK := rfl
theorem e_asBK {k : Bool} : asBK (.d (.bool k)) S = .ok k S := rfl
def truK (r : Rs) (S : Sg) : Out Bool := ofB ((peek S r).bind truth) S
theorem e_tru : mTruth m S = (frz m S).bind truK := rfl
theorem e_truK : truK r S = ofB ((peek S r).bind truth) S := rfl
def andK (b : TM) (c : Bool) (S : Sg) : Out Bool := if c = true then b S else .ok false S
def orK (b : TM) (c : Bool) (S : Sg) : Out Bool := if c = true then .ok true S else b S
def notK (c : Bool) (S : Sg) : Out Bool := .ok (!c) S
def iteK {α : Type} (a b : Sg → Out α) (c : Bool) (S : Sg) : Out α := if c = true then a S else b S
theorem e_and : mAnd c tb S = (c S).bind (andK tb) := rfl
theorem e_andT : andK tb true S = tb S := rfl
theorem e_andF : andK tb false S = .ok false S := rfl
theorem e_or : mOr c tb S = (c S).bind (orK tb) := rfl
theorem e_orT : orK tb true S = .ok true S := rfl
theorem e_orF : orK tb false S = tb S := rfl
theorem e_not : mNot c S = (c S).bind notK := rfl
theorem e_notK {k : Bool} : notK k S = .ok (!k) S := rfl
theorem e_ite {p q : Sg → Out α} : mIte c p q S = (c S).bind (iteK p q) := rfl
theorem e_iteT {p q : Sg → Out α} : iteK p q true S = p S := rfl
theorem e_iteF {p q : Sg → Out α} : iteK p q false S = q S := rfl
def andVC (k : Option Bool) (b : EM) (r : Rs) (S : Sg) : Out Rs := match k with
  | none => .st
  | some k => if k = true then b S else .ok r S
def andVK (b : EM) (r : Rs) (S : Sg) : Out Rs := andVC ((peek S r).bind truth) b r S
def orVC (k : Option Bool) (b : EM) (r : Rs) (S : Sg) : Out Rs := match k with
  | none => .st
  | some k => if k = true then .ok r S else b S
def orVK (b : EM) (r : Rs) (S : Sg) : Out Rs := orVC ((peek S r).bind truth) b r S
def notVC (k : Option Bool) (S : Sg) : Out Rs := match k with
  | none => .st
  | some k => .ok (.d (.bool (!k))) S
def notVK (r : Rs) (S : Sg) : Out Rs := notVC ((peek S r).bind truth) S
def unC (x : Option D) (g : D → Option Rs) (S : Sg) : Out Rs := match x with
  | some x => ofO (g x) S
  | none => .st
def unK (g : D → Option Rs) (r : Rs) (S : Sg) : Out Rs := unC (peek S r) g S
theorem e_andV : mAndV a b S = (frz a S).bind (andVK b) := rfl
theorem e_andVK : andVK b r S = andVC ((peek S r).bind truth) b r S := rfl
theorem e_andVT : andVC (some true) b r S = b S := rfl
theorem e_andVF : andVC (some false) b r S = .ok r S := rfl
theorem e_orV : mOrV a b S = (frz a S).bind (orVK b) := rfl
theorem e_orVK : orVK b r S = orVC ((peek S r).bind truth) b r S := rfl
theorem e_orVT : orVC (some true) b r S = .ok r S := rfl
theorem e_orVF : orVC (some false) b r S = b S := rfl
theorem e_notV : mNotV a S = (frz a S).bind notVK := rfl
theorem e_notVK : notVK r S = notVC ((peek S r).bind truth) S := rfl
theorem e_notVC {k : Bool} : notVC (some k) S = .ok (.d (.bool (!k))) S := rfl
theorem e_un {g : D → Option Rs} : mUn g a S = (frz a S).bind (unK g) := rfl
theorem e_unK {g : D → Option Rs} : unK g r S = unC (peek S r) g S := rfl
theorem e_unC {g : D → Option Rs} : unC (some x) g S = ofO (g x) S := rfl
def mDC (q : Option (D × Sg)) : Out D := match q with
  | some (x, S2) => .ok x S2
  | none => .st
def mDK (r : Rs) (S : Sg) : Out D := mDC (share r S)
def shK (i : Nat) (s : Sl) (S : Sg) : Option (D × Sg) := match s with
  | .d x => some (x, S)
  | .own false o => some (o.toD, S.set i (.d o.toD))
  | _ => none
theorem e_mD : mD m S = (m S).bind mDK := rfl
theorem e_mDK : mDK r S = mDC (share r S) := rfl
theorem e_mDC : mDC (some (x, S2)) = .ok x S2 := rfl
theorem e_sh1 : share (.d x) S = some (x, S) := rfl
theorem e_sh3 {o : Ob} : share (.tmp o) S = some (o.toD, S) := rfl
theorem e_sh2 : share (.ref i) S = shK i (gt S i) S := rfl
theorem e_shK1 : shK i (.d x) S = some (x, S) := rfl
theorem e_shK2 {o : Ob} : shK i (.own false o) S = some (o.toD, S.set i (.d o.toD)) := rfl
def dK2 (x : D) (xs : List D) (S : Sg) : Out (List D) := .ok (x :: xs) S
def dK (r : DM) (x : D) (S : Sg) : Out (List D) := (r S).bind (dK2 x)
def tupK (ds : List D) (S : Sg) : Out Rs := gd (ds.length ≤ lim) (.ok (.d (.tuple ds)) S)
def lstK (ds : List D) (S : Sg) : Out Rs := gd (ds.length ≤ lim) (.ok (.tmp (.lst ds)) S)
theorem e_dNil : dNil S = .ok [] S := rfl
theorem e_dCons {q : DM} : dCons a q S = (mD a S).bind (dK q) := rfl
theorem e_dK {q : DM} : dK q x S = (q S).bind (dK2 x) := rfl
theorem e_dK2 : dK2 x ds S = .ok (x :: ds) S := rfl
theorem e_tup {q : DM} : mTup q S = (q S).bind tupK := rfl
theorem e_lst {q : DM} : mLst q S = (q S).bind lstK := rfl
theorem e_tupK : tupK ds S = gd (ds.length ≤ lim) (.ok (.d (.tuple ds)) S) := rfl
theorem e_lstK : lstK ds S = gd (ds.length ≤ lim) (.ok (.tmp (.lst ds)) S) := rfl
def pk2 {α : Type} (x : Option α) (xs : Option (List α)) : Option (List α) := match x, xs with
  | some d, some ds => some (d :: ds)
  | _, _ => none
def biC (q : Option (List D)) (g : List D → Option Rs) (S : Sg) : Out Rs := match q with
  | some ds => ofO (g ds) S
  | none => .st
def biK (g : List D → Option Rs) (rs : List Rs) (S : Sg) : Out Rs := biC (peeks S rs) g S
theorem e_pk2_ {x : α} {xs : List α} : pk2 (some x) (some xs) = some (x :: xs) := rfl
theorem e_peeks0 : peeks S [] = some [] := rfl
theorem e_peeks1 : peeks S (r :: rs) = pk2 (peek S r) (peeks S rs) := by rw [peeks]; cases peek S r <;> cases peeks S rs <;> rfl
theorem e_bi {g : List D → Option Rs} {q : AM} : mBi g q S = (q S).bind (biK g) := rfl
theorem e_biK {g : List D → Option Rs} : biK g rs S = biC (peeks S rs) g S := rfl
theorem e_biC {g : List D → Option Rs} : biC (some ds) g S = ofO (g ds) S := rfl
def lastK (r : Rs) (S : Sg) : Out (List Rs) := .ok [r] S
def consK2 (x : Rs) (xs : List Rs) (S : Sg) : Out (List Rs) := .ok (x :: xs) S
def consK (q : AM) (x : Rs) (S : Sg) : Out (List Rs) := (q S).bind (consK2 x)
theorem e_aNil : aNil S = .ok [] S := rfl
theorem e_aLast : aLast a S = (a S).bind lastK := rfl
theorem e_fLast : fLast a S = (frz a S).bind lastK := rfl
theorem e_lastK : lastK r S = .ok [r] S := rfl
theorem e_aCons {q : AM} : aCons a q S = (frz a S).bind (consK q) := rfl
theorem e_consK {q : AM} : consK q r S = (q S).bind (consK2 r) := rfl
theorem e_consK2 : consK2 r rs S = .ok (r :: rs) S := rfl
def argK : Sl → Option Sl
  | .d x => some (.d x)
  | .own _ o => some (.own true o)
  | _ => none
def orfK (i : Nat) (l : List Nat) : Sl → List Nat
  | .own _ _ => i :: l
  | _ => l
def callC (n : Bool) (w : Option Sg) (r : Rs) : Out Rs := if n then (match w with
  | some S2 => .ok r S2
  | none => .st) else .st
def callX (w : Option Sg) (c : Str) : Out Rs := match w with
  | some S2 => .ex c S2
  | none => .st
def callB (n : Bool) (o : FO) (rs : List Rs) (S : Sg) : Out Rs := if n then (match o with
  | .st => .st
  | .ok r outs => callC (notRef r) (wb S rs outs) r
  | .ex c outs => callX (wb S rs outs) c) else .st
def callA (sl : Option (List Sl)) (f : FM) (rs : List Rs) (S : Sg) : Out Rs := match sl with
  | none => .st
  | some sl => callB (nodupB (ownRefs S rs)) (f sl) rs S
def callK (f : FM) (rs : List Rs) (S : Sg) : Out Rs := callA (argSls S rs) f rs S
def wbK (b : Bool) (i : Nat) (S : Sg) : Sl → Option Sg
  | .own _ o => some (S.set i (.own b o))
  | _ => none
def wbS (i : Nat) (x : Sl) (S : Sg) : Sl → Option Sg
  | .own b _ => wbK b i S x
  | _ => some S
theorem e_argSls0 : argSls S [] = some [] := rfl
theorem e_argSls1 : argSls S (r :: rs) = pk2 (argSl S r) (argSls S rs) := by rw [argSls]; cases argSl S r <;> cases argSls S rs <;> rfl
theorem e_arg1 : argSl S (.d x) = some (.d x) := rfl
theorem e_arg3 {o : Ob} : argSl S (.tmp o) = some (.own true o) := rfl
theorem e_arg2 : argSl S (.ref i) = argK (gt S i) := rfl
theorem e_argK1 : argK (.d x) = some (.d x) := rfl
theorem e_argK2 {k : Bool} {o : Ob} : argK (.own k o) = some (.own true o) := rfl
theorem e_orf0 : ownRefs S [] = [] := rfl
theorem e_orf1 : ownRefs S (.d x :: rs) = ownRefs S rs := rfl
theorem e_orf3 {o : Ob} : ownRefs S (.tmp o :: rs) = ownRefs S rs := rfl
theorem e_orf2 : ownRefs S (.ref i :: rs) = orfK i (ownRefs S rs) (gt S i) := by rw [ownRefs]; cases gt S i <;> rfl
theorem e_orfK1 {l : List Nat} : orfK i l (.d x) = l := rfl
theorem e_orfK2 {l : List Nat} {k : Bool} {o : Ob} : orfK i l (.own k o) = i :: l := rfl
theorem e_nd0 : nodupB [] = true := rfl
theorem e_nd1 : nodupB [i] = true := rfl
theorem e_call {f : FM} {q : AM} : mCall f q S = (q S).bind (callK f) := rfl
theorem e_callK {f : FM} : callK f rs S = callA (argSls S rs) f rs S := rfl
theorem e_callA {f : FM} {sl : List Sl} : callA (some sl) f rs S = callB (nodupB (ownRefs S rs)) (f sl) rs S := rfl
theorem e_callB1 {outs : List Sl} : callB true (.ok r outs) rs S = callC (notRef r) (wb S rs outs) r := rfl
theorem e_callB2 {outs : List Sl} {k : Str} : callB true (.ex k outs) rs S = callX (wb S rs outs) k := rfl
theorem e_callC : callC true (some S2) r = .ok r S2 := rfl
theorem e_callX {k : Str} : callX (some S2) k = .ex k S2 := rfl
theorem e_nr1 : notRef (.d x) = true := rfl
theorem e_nr2 {o : Ob} : notRef (.tmp o) = true := rfl
theorem e_wb0 : wb S [] [] = some S := rfl
theorem e_wb1 {xs : List Sl} {s : Sl} : wb S (r :: rs) (s :: xs) = (wb1 S r s).bind fun S1 => wb S1 rs xs := rfl
theorem e_wbd {s : Sl} : wb1 S (.d x) s = some S := rfl
theorem e_wbt {s : Sl} {o : Ob} : wb1 S (.tmp o) s = some S := rfl
theorem e_wbr {s : Sl} : wb1 S (.ref i) s = wbS i s S (gt S i) := by cases h : gt S i with | own b o => cases s <;> simp [wb1, wbS, wbK, h] | _ => simp [wb1, wbS, h]
theorem e_wbS1 {s : Sl} : wbS i s S (.d x) = some S := rfl
theorem e_wbS2 {s : Sl} {k : Bool} {o : Ob} : wbS i s S (.own k o) = wbK k i S s := rfl
theorem e_wbK {k k2 : Bool} {o : Ob} : wbK k i S (.own k2 o) = some (S.set i (.own k o)) := rfl
def isiC (k : Option Bool) (S : Sg) : Out Rs := match k with
  | some b => .ok (.d (.bool b)) S
  | none => .st
def isiK (t : Ty) (r : Rs) (S : Sg) : Out Rs := isiC ((peek S r).bind (isTy t)) S
theorem e_isi {t : Ty} : mIsi t m S = (frz m S).bind (isiK t) := rfl
theorem e_isiK {t : Ty} : isiK t r S = isiC ((peek S r).bind (isTy t)) S := rfl
theorem e_isiC {k : Bool} : isiC (some k) S = .ok (.d (.bool k)) S := rfl
def slC (x : Option D) (g : D → Option Int → Option Int → Option Rs) (l u : Option Int) (S : Sg) : Out Rs := match x with
  | some x => ofO (g x l u) S
  | none => .st
def slH (g : D → Option Int → Option Int → Option Rs) (r : Rs) (l u : Option Int) (S : Sg) : Out Rs := slC (peek S r) g l u S
def slL (g : D → Option Int → Option Int → Option Rs) (hi : OM) (r : Rs) (l : Option Int) (S : Sg) : Out Rs := (hi S).bind (slH g r l)
def slK (g : D → Option Int → Option Int → Option Rs) (lo hi : OM) (r : Rs) (S : Sg) : Out Rs := (lo S).bind (slL g hi r)
def oIntC (x : Option D) (S : Sg) : Out (Option Int) := match x with
  | some (.int i) => .ok (some i) S
  | _ => .st
def oIntK (r : Rs) (S : Sg) : Out (Option Int) := oIntC (peek S r) S
theorem e_sl {g : D → Option Int → Option Int → Option Rs} {lo hi : OM} : mSl g a lo hi S = (frz a S).bind (slK g lo hi) := rfl
theorem e_slK {g : D → Option Int → Option Int → Option Rs} {lo hi : OM} : slK g lo hi r S = (lo S).bind (slL g hi r) := rfl
theorem e_slL {g : D → Option Int → Option Int → Option Rs} {hi : OM} {l : Option Int} : slL g hi r l S = (hi S).bind (slH g r l) := rfl
theorem e_slH {g : D → Option Int → Option Int → Option Rs} {l u : Option Int} : slH g r l u S = slC (peek S r) g l u S := rfl
theorem e_slC {g : D → Option Int → Option Int → Option Rs} {l u : Option Int} : slC (some x) g l u S = ofO (g x l u) S := rfl
theorem e_oNo : oNo S = .ok none S := rfl
theorem e_oInt : oInt m S = (m S).bind oIntK := rfl
theorem e_oIntK : oIntK r S = oIntC (peek S r) S := rfl
theorem e_oIntC {j : Int} : oIntC (some (.int j)) S = .ok (some j) S := rfl
def setC (q : Option Sg) : Out Fl := match q with
  | some S2 => .ok .nx S2
  | none => .st
def setK (i : Nat) (r : Rs) (S : Sg) : Out Fl := setC (setR i r S)
def setRC (i : Nat) (q : Option (D × Sg)) : Option Sg := match q with
  | some (x, S1) => setD i x S1
  | none => none
def fset (b : Bool) (i : Nat) (s : Sl) (S : Sg) : Option Sg := if b then some (S.set i s) else none
theorem e_set : mSet i m S = (m S).bind (setK i) := rfl
theorem e_setK : setK i r S = setC (setR i r S) := rfl
theorem e_setC : setC (some S2) = .ok .nx S2 := rfl
theorem e_setR1 : setR i (.d x) S = setD i x S := rfl
theorem e_setR3 {o : Ob} : setR i (.tmp o) S = fset (free (gt S i)) i (.own false o) S := rfl
theorem e_setR2 {j : Nat} : setR i (.ref j) S = setRC i (share (.ref j) S) := rfl
theorem e_setRC : setRC i (some (x, S1)) = setD i x S1 := rfl
theorem e_setD : setD i x S = fset (free (gt S i)) i (.d x) S := rfl
theorem e_fset {s : Sl} : fset true i s S = some (S.set i s) := rfl
theorem e_free1 : free .no = true := rfl
theorem e_free2 : free (.d x) = true := rfl
theorem e_free3 {o : Ob} : free (.own false o) = true := rfl
def retC (q : Option (Rs × Sg)) : Out Fl := match q with
  | some (r2, S2) => .ok (.rt r2) S2
  | none => .st
def retK (r : Rs) (S : Sg) : Out Fl := retC (giveR r S)
def givK (i : Nat) (s : Sl) (S : Sg) : Option (Rs × Sg) := match s with
  | .d x => some (.d x, S)
  | .own false o => some (.tmp o, S.set i .no)
  | _ => none
def dropK (_ : Rs) (S : Sg) : Out Fl := .ok .nx S
theorem e_ret : mRet m S = (m S).bind retK := rfl
theorem e_retK : retK r S = retC (giveR r S) := rfl
theorem e_retC : retC (some (r, S)) = .ok (.rt r) S := rfl
theorem e_giv1 : giveR (.d x) S = some (.d x, S) := rfl
theorem e_giv3 {o : Ob} : giveR (.tmp o) S = some (.tmp o, S) := rfl
theorem e_giv2 : giveR (.ref i) S = givK i (gt S i) S := rfl
theorem e_givK1 : givK i (.d x) S = some (.d x, S) := rfl
theorem e_givK2 {o : Ob} : givK i (.own false o) S = some (.tmp o, S.set i .no) := rfl
theorem e_retN : mRetN S = .ok (.rt (.d .none)) S := rfl
theorem e_drop : mDrop m S = (m S).bind dropK := rfl
theorem e_dropK : dropK r S = .ok .nx S := rfl
theorem e_nx : mNx S = .ok .nx S := rfl
theorem e_bk : mBk S = .ok .bk S := rfl
theorem e_ct : mCt S = .ok .ct S := rfl
def seqK (b : SM) (o : Out Fl) : Out Fl := match o with
  | .ok .nx S1 => b S1
  | o => o
variable {p q : SM}
theorem e_seq : mSeq p q S = seqK q (p S) := by unfold mSeq seqK; rfl
theorem e_seq1 : seqK q (.ok .nx S) = q S := rfl
theorem e_seq2 : seqK q (.ok (.rt r) S) = .ok (.rt r) S := rfl
theorem e_seq3 : seqK q (.ok .bk S) = .ok .bk S := rfl
theorem e_seq4 : seqK q (.ok .ct S) = .ok .ct S := rfl
theorem e_seq5 {k : Str} : seqK q (.ex k S) = .ex k S := rfl
def pK2 (y : Rs) (ys : List Rs) (S : Sg) : Out (List Rs) := .ok (y :: ys) S
def pC (q : Option (Rs × Sg)) (r : PM) : Out (List Rs) := match q with
  | none => .st
  | some (y, S2) => (r S2).bind (pK2 y)
def pK (r : PM) (x : Rs) (S : Sg) : Out (List Rs) := pC (valR x S) r
def parK (is : List Nat) (rs : List Rs) (S : Sg) : Out Fl := setC (storeP is rs S)
def valM (q : Option (D × Sg)) : Option (Rs × Sg) := q.map fun q => (.d q.1, q.2)
theorem e_pNil : pNil S = .ok [] S := rfl
theorem e_pCons {w : PM} : pCons a w S = (a S).bind (pK w) := rfl
theorem e_pK {w : PM} : pK w r S = pC (valR r S) w := rfl
theorem e_pC {w : PM} : pC (some (r, S)) w = (w S).bind (pK2 r) := rfl
theorem e_pK2 : pK2 r rs S = .ok (r :: rs) S := rfl
theorem e_val1 {o : Ob} : valR (.tmp o) S = some (.tmp o, S) := rfl
theorem e_val2 : valR (.d x) S = some (.d x, S) := rfl
theorem e_val3 : valR (.ref i) S = valM (share (.ref i) S) := rfl
theorem e_valM : valM (some (x, S)) = some (.d x, S) := rfl
theorem e_par {is : List Nat} {w : PM} : mPar is w S = (w S).bind (parK is) := rfl
theorem e_parK {is : List Nat} : parK is rs S = setC (storeP is rs S) := rfl
theorem e_st0 : storeP [] [] S = some S := rfl
theorem e_st1 {is : List Nat} : storeP (i :: is) (.d x :: rs) S = (storeP is rs S).bind fun S1 => setD i x S1 := rfl
theorem e_st2 {is : List Nat} {o : Ob} : storeP (i :: is) (.tmp o :: rs) S = (storeP is rs S).bind fun S1 => fset (free (gt S1 i)) i (.own false o) S1 := rfl
def asgK (f : GM) (x : D) (S : Sg) : Out Fl := setC (f x S)
theorem e_asg {f : GM} : mAsg f m S = (mD m S).bind (asgK f) := rfl
theorem e_asgK {f : GM} : asgK f x S = setC (f x S) := rfl
theorem e_gSeq0 : gSeq [] [] S = some S := rfl
theorem e_gSeq1 {f : GM} {fs : List GM} : gSeq (f :: fs) (x :: ds) S = (f x S).bind fun S1 => gSeq fs ds S1 := rfl
theorem e_gTup {fs : List GM} (h : ds.length = fs.length) : gTupM fs (.tuple ds) S = gSeq fs ds S := by unfold gTupM; exact if_pos h
def forK (tg : GM) (body : SM) (q : List D × Lt) (S : Sg) : Out Fl := giveBack q.2 (loopD tg body q.1 S)
def loopB (tg : GM) (body : SM) (ds : List D) (o : Out Fl) : Out Fl := match o with
  | .ok .nx S2 => loopD tg body ds S2
  | .ok .ct S2 => loopD tg body ds S2
  | .ok .bk S2 => .ok .nx S2
  | o => o
def loopA (tg : GM) (body : SM) (ds : List D) (q : Option Sg) : Out Fl := match q with
  | none => .st
  | some S1 => loopB tg body ds (body S1)
variable {tg : GM} {bd : SM}
theorem e_for {it : IM} : mFor it tg bd S = (it S).bind (forK tg bd) := rfl
theorem e_forK {l : List D × Lt} : forK tg bd l S = giveBack l.2 (loopD tg bd l.1 S) := rfl
theorem e_loop0 : loopD tg bd [] S = .ok .nx S := rfl
theorem e_loop1 : loopD tg bd (x :: ds) S = loopA tg bd ds (tg x S) := by unfold loopA loopB; rfl
theorem e_loopA : loopA tg bd ds (some S) = loopB tg bd ds (bd S) := rfl
theorem e_loopB1 : loopB tg bd ds (.ok .nx S) = loopD tg bd ds S := rfl
theorem e_loopB2 : loopB tg bd ds (.ok .ct S) = loopD tg bd ds S := rfl
theorem e_loopB3 : loopB tg bd ds (.ok .bk S) = .ok .nx S := rfl
theorem e_loopB4 : loopB tg bd ds (.ok (.rt r) S) = .ok (.rt r) S := rfl
theorem e_loopB5 {k : Str} : loopB tg bd ds (.ex k S) = .ex k S := rfl
theorem e_gb0 {f : Fl} : giveBack none (.ok f S) = .ok f S := rfl
theorem e_gb0x {k : Str} : giveBack none (.ex k S) = .ex k S := rfl
theorem e_while : mWhile c bd S = whileN c bd wfuel S := rfl
def whB (c : TM) (b : SM) (n : Nat) (o : Out Fl) : Out Fl := match o with
  | .ok .nx S2 => whileN c b n S2
  | .ok .ct S2 => whileN c b n S2
  | .ok .bk S2 => .ok .nx S2
  | o => o
def whK (c : TM) (b : SM) (n : Nat) (k : Bool) (S : Sg) : Out Fl := if k = true then whB c b n (b S) else .ok .nx S
theorem e_whS {n : Nat} : whileN c bd (n + 1) S = (c S).bind (whK c bd n) := by unfold whK whB; rfl
theorem e_whT {n : Nat} : whK c bd n true S = whB c bd n (bd S) := rfl
theorem e_whF {n : Nat} : whK c bd n false S = .ok .nx S := rfl
theorem e_whB1 {n : Nat} : whB c bd n (.ok .nx S) = whileN c bd n S := rfl
theorem e_whB2 {n : Nat} : whB c bd n (.ok .ct S) = whileN c bd n S := rfl
theorem e_whB3 {n : Nat} : whB c bd n (.ok .bk S) = .ok .nx S := rfl
theorem e_whB4 {n : Nat} : whB c bd n (.ok (.rt r) S) = .ok (.rt r) S := rfl
theorem e_whB5 {n : Nat} {k : Str} : whB c bd n (.ex k S) = .ex k S := rfl
def r1K (ds : List D) (S : Sg) : Out (List D × Lt) := ofI (one1 rng1 ds) S
def r2K (ds : List D) (S : Sg) : Out (List D × Lt) := ofI (two2 rng2 ds) S
def zipK (ds : List D) (S : Sg) : Out (List D × Lt) := ofI (zipD ds) S
theorem e_r1 {w : DM} : mRange1 w S = (w S).bind r1K := rfl
theorem e_r1K (h : -big ≤ j ∧ j < big) : r1K [.int j] S = .ok (intsD 0 1 j.toNat, none) S := by unfold r1K one1 rng1; simp only [h, and_self, if_true, ofI]
theorem e_r2 {w : DM} : mRange2 w S = (w S).bind r2K := rfl
theorem e_r2K {j k : Int} (h : -big ≤ j ∧ j < big ∧ -big ≤ k ∧ k < big) : r2K [.int j, .int k] S = .ok (intsD j 1 (k - j).toNat, none) S := by unfold r2K two2 rng2; simp only [h, and_self, if_true, ofI]
theorem e_zip {w : DM} : mZip w S = (w S).bind zipK := rfl
theorem e_zipL {xs ys : List D} : zipK [.list xs, .list ys] S = .ok (pairsD xs ys, none) S := rfl
theorem e_zipT {xs ys : List D} : zipK [.tuple xs, .tuple ys] S = .ok (pairsD xs ys, none) S := rfl
theorem e_iter : mIter m S = (frz m S).bind iterOf := rfl
theorem e_iter1 : iterOf (.d x) S = iterD x S := rfl
theorem e_iter2 : iterOf (.ref i) S = iterSl i S (gt S i) := rfl
theorem e_iterS1 : iterSl i S (.d x) = iterD x S := rfl
theorem e_iterS2 {k : Bool} : iterSl i S (.own k (.lst ds)) = .ok (ds, some (i, .own k (.lst ds))) (S.set i .lent) := rfl
theorem e_iterD1 : iterD (.list ds) S = .ok (ds, none) S := rfl
theorem e_iterD2 : iterD (.tuple ds) S = .ok (ds, none) S := rfl
theorem e_iterD3 {z : Str} : iterD (.str z) S = .ok (signs z, none) S := rfl
theorem e_gb1 {f : Fl} {s : Sl} : giveBack (some (i, s)) (.ok f S) = if lentOk (some (i, s)) S then .ok f (S.set i s) else .st := rfl
theorem e_gb2 {k : Str} {s : Sl} : giveBack (some (i, s)) (.ex k S) = if lentOk (some (i, s)) S then .ex k (S.set i s) else .st := rfl
def lentK : Sl → Bool
  | .lent => true
  | _ => false
theorem e_lent0 : lentOk none S = true := rfl
theorem e_lent1 {s : Sl} : lentOk (some (i, s)) S = lentK (gt S i) := by simp only [lentOk]; cases gt S i <;> rfl
theorem e_lentK : lentK .lent = true := rfl
theorem e_unl0 : unlend none S = S := rfl
theorem e_unl1 {s : Sl} : unlend (some (i, s)) S = S.set i s := rfl
def chgD (q : Option (D × List D)) (b : Bool) (i : Nat) (S : Sg) : Out Rs := match q with
  | some (r, ds') => .ok (.d r) (S.set i (.own b (.lst ds')))
  | none => .st
def chgC (s : Sl) (i : Nat) (g : List D → Option (D × List D)) (S : Sg) : Out Rs := match s with
  | .own b (.lst ds) => chgD (g ds) b i S
  | _ => .st
def own1K (i : Nat) (g : D → List D → Option (D × List D)) (x : D) (S : Sg) : Out Rs := chg i (g x) S
def own2L (i : Nat) (g : D → D → List D → Option (D × List D)) (x y : D) (S : Sg) : Out Rs := chg i (g x y) S
def own2K (i : Nat) (g : D → D → List D → Option (D × List D)) (m2 : EM) (x : D) (S : Sg) : Out Rs := (mD m2 S).bind (own2L i g x)
def ownLK : Sl → Bool
  | .own _ (.lst _) => true
  | _ => false
def ownO (b : Bool) (o : Out Rs) : Out Rs := if b then o else .st
theorem e_chg {g : List D → Option (D × List D)} : chg i g S = chgC (gt S i) i g S := by unfold chg chgC chgD; rfl
theorem e_chgC {g : List D → Option (D × List D)} {k : Bool} : chgC (.own k (.lst ds)) i g S = chgD (g ds) k i S := rfl
theorem e_chgD {k : Bool} {es : List D} : chgD (some (x, es)) k i S = .ok (.d x) (S.set i (.own k (.lst es))) := rfl
theorem e_ownL : ownL S i = ownLK (gt S i) := by unfold ownL ownLK; rfl
theorem e_ownLK {k : Bool} : ownLK (.own k (.lst ds)) = true := rfl
theorem e_ownO {o : Out Rs} : ownO true o = o := rfl
theorem e_own0 {g : List D → Option (D × List D)} : mOwn0 i g S = ownO (ownL S i) (chg i g S) := rfl
theorem e_own1 {g : D → List D → Option (D × List D)} : mOwn1 i g m S = ownO (ownL S i) ((mD m S).bind (own1K i g)) := rfl
theorem e_own1K {g : D → List D → Option (D × List D)} : own1K i g x S = chg i (g x) S := rfl
theorem e_own2 {g : D → D → List D → Option (D × List D)} : mOwn2 i g m m2 S = ownO (ownL S i) ((mD m S).bind (own2K i g m2)) := rfl
theorem e_own2K {g : D → D → List D → Option (D × List D)} : own2K i g m2 x S = (mD m2 S).bind (own2L i g x) := rfl
theorem e_own2L {g : D → D → List D → Option (D × List D)} : own2L i g x y S = chg i (g x y) S := rfl
def fnK (np : Nat) (o : Out Fl) : FO := match o with
  | .ok .nx S => .ok (.d .none) (outsOf np S)
  | .ok (.rt r) S => if notRef r then .ok r (outsOf np S) else .st
  | .ex c S => .ex c (outsOf np S)
  | _ => .st
theorem e_fn {np n : Nat} {sl : List Sl} : fnM np n bd sl = fnK np (bd (sl ++ List.replicate (n - np) .no)) := by unfold fnM fnK; rfl
theorem e_fn1 {np : Nat} : fnK np (.ok .nx S) = .ok (.d .none) (outsOf np S) := rfl
theorem e_fn2 {np : Nat} : fnK np (.ok (.rt (.d x)) S) = .ok (.d x) (outsOf np S) := rfl
theorem e_fn3 {np : Nat} {o : Ob} : fnK np (.ok (.rt (.tmp o)) S) = .ok (.tmp o) (outsOf np S) := rfl
theorem e_fn4 {np : Nat} {k : Str} : fnK np (.ex k S) = .ex k (outsOf np S) := rfl
theorem e_out0 : outsOf 0 S = [] := rfl
theorem e_out1 {s : Sl} : outsOf 1 (s :: S) = clean s :: outsOf 0 S := rfl
theorem e_out2 {s : Sl} : outsOf 2 (s :: S) = clean s :: outsOf 1 S := rfl
theorem e_out3 {s : Sl} : outsOf 3 (s :: S) = clean s :: outsOf 2 S := rfl
theorem e_out4 {s : Sl} : outsOf 4 (s :: S) = clean s :: outsOf 3 S := rfl
theorem e_out5 {s : Sl} : outsOf 5 (s :: S) = clean s :: outsOf 4 S := rfl
theorem e_out6 {s : Sl} : outsOf 6 (s :: S) = clean s :: outsOf 5 S := rfl
theorem e_cl1 : clean .no = .no := rfl
theorem e_cl2 : clean (.d x) = .no := rfl
theorem e_cl3 {o : Ob} : clean (.own true o) = .own true o := rfl
theorem e_cl4 {o : Ob} : clean (.own false o) = .no := rfl
theorem e_rep0 : List.replicate 0 Sl.no = [] := rfl
theorem e_rep1 : List.replicate 1 Sl.no = [Sl.no] := rfl
theorem e_rep2 : List.replicate 2 Sl.no = [Sl.no, Sl.no] := rfl
theorem e_rep3 : List.replicate 3 Sl.no = [Sl.no, Sl.no, Sl.no] := rfl
theorem e_rep4 : List.replicate 4 Sl.no = [Sl.no, Sl.no, Sl.no, Sl.no] := rfl
theorem e_rep5 : List.replicate 5 Sl.no = [Sl.no, Sl.no, Sl.no, Sl.no, Sl.no] := rfl
theorem e_rep6 : List.replicate 6 Sl.no = [Sl.no, Sl.no, Sl.no, Sl.no, Sl.no, Sl.no] := rfl
theorem e_rep7 : List.replicate 7 Sl.no = [Sl.no, Sl.no, Sl.no, Sl.no, Sl.no, Sl.no, Sl.no] := rfl
theorem e_rep8 : List.replicate 8 Sl.no = [Sl.no, Sl.no, Sl.no, Sl.no, Sl.no, Sl.no, Sl.no, Sl.no] := rfl
theorem e_rep9 : List.replicate 9 Sl.no = [Sl.no, Sl.no, Sl.no, Sl.no, Sl.no, Sl.no, Sl.no, Sl.no, Sl.no] := rfl
theorem e_rep10 : List.replicate 10 Sl.no = [Sl.no, Sl.no, Sl.no, Sl.no, Sl.no, Sl.no, Sl.no, Sl.no, Sl.no, Sl.no] := rfl
theorem e_rep11 : List.replicate 11 Sl.no = [Sl.no, Sl.no, Sl.no, Sl.no, Sl.no, Sl.no, Sl.no, Sl.no, Sl.no, Sl.no, Sl.no] := rfl
theorem e_rep12 : List.replicate 12 Sl.no = [Sl.no, Sl.no, Sl.no, Sl.no, Sl.no, Sl.no, Sl.no, Sl.no, Sl.no, Sl.no, Sl.no, Sl.no] := rfl
theorem e_rep13 : List.replicate 13 Sl.no = [Sl.no, Sl.no, Sl.no, Sl.no, Sl.no, Sl.no, Sl.no, Sl.no, Sl.no, Sl.no, Sl.no, Sl.no, Sl.no] := rfl
theorem e_rep14 : List.replicate 14 Sl.no = [Sl.no, Sl.no, Sl.no, Sl.no, Sl.no, Sl.no, Sl.no, Sl.no, Sl.no, Sl.no, Sl.no, Sl.no, Sl.no, Sl.no] := rfl
theorem e_rep15 : List.replicate 15 Sl.no = [Sl.no, Sl.no, Sl.no, Sl.no, Sl.no, Sl.no, Sl.no, Sl.no, Sl.no, Sl.no, Sl.no, Sl.no, Sl.no, Sl.no, Sl.no] := rfl
theorem e_rep16 : List.replicate 16 Sl.no = [Sl.no, Sl.no, Sl.no, Sl.no, Sl.no, Sl.no, Sl.no, Sl.no, Sl.no, Sl.no, Sl.no, Sl.no, Sl.no, Sl.no, Sl.no, Sl.no] := rfl
theorem e_rep17 : List.replicate 17 Sl.no = [Sl.no, Sl.no, Sl.no, Sl.no, Sl.no, Sl.no, Sl.no, Sl.no, Sl.no, Sl.no, Sl.no, Sl.no, Sl.no, Sl.no, Sl.no, Sl.no, Sl.no] := rfl
theorem e_rep18 : List.replicate 18 Sl.no = [Sl.no, Sl.no, Sl.no, Sl.no, Sl.no, Sl.no, Sl.no, Sl.no, Sl.no, Sl.no, Sl.no, Sl.no, Sl.no, Sl.no, Sl.no, Sl.no, Sl.no, Sl.no] := rfl
theorem e_rep19 : List.replicate 19 Sl.no = [Sl.no, Sl.no, Sl.no, Sl.no, Sl.no, Sl.no, Sl.no, Sl.no, Sl.no, Sl.no, Sl.no, Sl.no, Sl.no, Sl.no, Sl.no, Sl.no, Sl.no, Sl.no, Sl.no] := rfl
theorem e_rep20 : List.replicate 20 Sl.no = [Sl.no, Sl.no, Sl.no, Sl.no, Sl.no, Sl.no, Sl.no, Sl.no, Sl.no, Sl.no, Sl.no, Sl.no, Sl.no, Sl.no, Sl.no, Sl.no, Sl.no, Sl.no, Sl.no, Sl.no] := rfl
theorem e_rep21 : List.replicate 21 Sl.no = [Sl.no, Sl.no, Sl.no, Sl.no, Sl.no, Sl.no, Sl.no, Sl.no, Sl.no, Sl.no, Sl.no, Sl.no, Sl.no, Sl.no, Sl.no, Sl.no, Sl.no, Sl.no, Sl.no, Sl.no, Sl.no] := rfl
theorem e_rep22 : List.replicate 22 Sl.no = [Sl.no, Sl.no, Sl.no, Sl.no, Sl.no, Sl.no, Sl.no, Sl.no, Sl.no, Sl.no, Sl.no, Sl.no, Sl.no, Sl.no, Sl.no, Sl.no, Sl.no, Sl.no, Sl.no, Sl.no, Sl.no, Sl.no] := rfl
theorem e_rep23 : List.replicate 23 Sl.no = [Sl.no, Sl.no, Sl.no, Sl.no, Sl.no, Sl.no, Sl.no, Sl.no, Sl.no, Sl.no, Sl.no, Sl.no, Sl.no, Sl.no, Sl.no, Sl.no, Sl.no, Sl.no, Sl.no, Sl.no, Sl.no, Sl.no, Sl.no] := rfl
theorem e_rep24 : List.replicate 24 Sl.no = [Sl.no, Sl.no, Sl.no, Sl.no, Sl.no, Sl.no, Sl.no, Sl.no, Sl.no, Sl.no, Sl.no, Sl.no, Sl.no, Sl.no, Sl.no, Sl.no, Sl.no, Sl.no, Sl.no, Sl.no, Sl.no, Sl.no, Sl.no, Sl.no] := rfl
theorem e_rep25 : List.replicate 25 Sl.no = [Sl.no, Sl.no, Sl.no, Sl.no, Sl.no, Sl.no, Sl.no, Sl.no, Sl.no, Sl.no, Sl.no, Sl.no, Sl.no, Sl.no, Sl.no, Sl.no, Sl.no, Sl.no, Sl.no, Sl.no, Sl.no, Sl.no, Sl.no, Sl.no, Sl.no] := rfl
def compA (tg : GM) (tt : TM) (me : EM) (own : List Nat) (ds acc : List D) (q : Option Sg) : Out (List D) := match q with
  | none => .st
  | some S1 => compB tg tt me own ds acc (tt S1)
where
  compE (tg : GM) (tt : TM) (me : EM) (own : List Nat) (ds acc : List D) (o : Out D) : Out (List D) := match o with
    | .ok x S3 => if acc.length < lim then compD tg tt me own ds (acc ++ [x]) (noS S3 own) else .st
    | _ => .st
  compB (tg : GM) (tt : TM) (me : EM) (own : List Nat) (ds acc : List D) (o : Out Bool) : Out (List D) := match o with
    | .ok true S2 => compE tg tt me own ds acc (mD me S2)
    | .ok false S2 => compD tg tt me own ds acc (noS S2 own)
    | _ => .st
variable {own : List Nat} {acc : List D}
theorem e_comp {it : IM} : mComp it tg t me own S = (it S).bind (compK tg t me own) := rfl
theorem e_compD0 : compD tg t me own [] acc S = .ok acc S := rfl
theorem e_compD1 : compD tg t me own (x :: ds) acc S = compA tg t me own ds acc (tg x S) := by unfold compA compA.compB compA.compE; rfl
theorem e_compA : compA tg t me own ds acc (some S) = compA.compB tg t me own ds acc (t S) := rfl
theorem e_compB1 : compA.compB tg t me own ds acc (.ok true S) = compA.compE tg t me own ds acc (mD me S) := rfl
theorem e_compB2 : compA.compB tg t me own ds acc (.ok false S) = compD tg t me own ds acc (noS S own) := rfl
theorem e_compE (h : acc.length < lim) : compA.compE tg t me own ds acc (.ok x S) = compD tg t me own ds (acc ++ [x]) (noS S own) := if_pos h
def compF (S : Sg) (own : List Nat) (l : Lt) (o : Out (List D)) : Out Rs := match o with
  | .ok ds S2 => if ownOk S own && lentOk l (resS S S2 own) then .ok (.tmp (.lst ds)) (unlend l (resS S S2 own)) else .st
  | _ => .st
theorem e_compK {l : List D × Lt} : compK tg t me own l S = compF S own l.2 (compD tg t me own l.1 [] (noS S own)) := by unfold compK compF; rfl
def compH (k : Bool) (S : Sg) (l : Lt) (ds : List D) : Out Rs := if k then .ok (.tmp (.lst ds)) (unlend l S) else .st
def compG (k : Bool) (S : Sg) (l : Lt) (ds : List D) : Out Rs := if k then compH (lentOk l S) S l ds else .st
theorem e_compF {l : Lt} : compF S own l (.ok ds S1) = compG (ownOk S own) (resS S S1 own) l ds := by simp only [compF, compG, compH]; cases ownOk S own <;> simp
theorem e_compG {l : Lt} : compG true S l ds = compH (lentOk l S) S l ds := rfl
theorem e_compH {l : Lt} : compH true S l ds = .ok (.tmp (.lst ds)) (unlend l S) := rfl
theorem e_tYes : tYesM S = .ok true S := rfl
theorem e_noS0 : noS S [] = S := rfl
theorem e_noS1 {vs : List Nat} : noS S (i :: vs) = (noS S vs).set i .no := rfl
theorem e_resS0 : resS S S1 [] = S1 := rfl
theorem e_resS1 {vs : List Nat} : resS S S1 (i :: vs) = (resS S S1 vs).set i (gt S i) := rfl
def okSl : Sl → Bool
  | .no => true
  | .d _ => true
  | _ => false
theorem e_ownOk0 : ownOk S [] = true := rfl
theorem e_ownOk1 {vs : List Nat} : ownOk S (i :: vs) = (okSl (gt S i) && ownOk S vs) := by unfold ownOk; rw [List.all_cons]; cases gt S i <;> rfl
theorem e_okSl1 : okSl .no = true := rfl
theorem e_okSl2 : okSl (.d x) = true := rfl
theorem e_gd {k : Prop} [Decidable k] (h : k) (o : Out α) : gd k o = o := if_pos h
theorem e_b1 {k : α → Sg → Out β} {z : α} : (Out.ok z S).bind k = k z S := rfl
theorem e_b2 {k : α → Sg → Out β} : (Out.st : Out α).bind k = .st := rfl
theorem e_b3 {k : α → Sg → Out β} {c : Str} : (Out.ex c S : Out α).bind k = .ex c S := rfl
end
section
variable {i j : Int} {x y : D} {xs ys : List D} {s z : Str}
theorem o_add1 : gAdd (.int i) (.int j) = some (.d (.int (i + j))) := rfl
theorem o_add2 (h : s.length + z.length ≤ lim) : gAdd (.str s) (.str z) = some (.d (.str (s ++ z))) := if_pos h
theorem o_add3 (h : xs.length + ys.length ≤ lim) : gAdd (.tuple xs) (.tuple ys) = some (.d (.tuple (xs ++ ys))) := if_pos h
theorem o_add4 (h : xs.length + ys.length ≤ lim) : gAdd (.list xs) (.list ys) = some (.tmp (.lst (xs ++ ys))) := if_pos h
theorem o_sub : gSub (.int i) (.int j) = some (.d (.int (i - j))) := by simp [gSub, gI]
theorem o_div (h : 0 < j ∧ j < 1073741824) : gDiv (.int i) (.int j) = some (.d (.int (i / j))) := if_pos h
theorem o_mod (h : 0 < j) : gMod (.int i) (.int j) = some (.d (.int (i % j))) := if_pos h
theorem log_small {i : Int} (h : -1000000000000 ≤ i ∧ i ≤ 1000000000000) : i.natAbs.log2 < 64 := by
  by_cases h0 : i.natAbs = 0
  · rw [h0]; decide
  · exact (Nat.log2_lt h0).mpr (by omega)
theorem o_mul (h : -1000000000000 ≤ i ∧ i ≤ 1000000000000) (h2 : -1000000000000 ≤ j ∧ j ≤ 1000000000000) : gMul (.int i) (.int j) = some (.d (.int (i * j))) := if_pos (by have := log_small h; have := log_small h2; omega)
theorem o_neg : gNeg (.int i) = some (.d (.int (-i))) := rfl
theorem o_lt : gLt (.int i) (.int j) = some (.d (.bool (decide (i < j)))) := rfl
theorem o_le : gLe (.int i) (.int j) = some (.d (.bool (decide (i ≤ j)))) := rfl
theorem o_gt : gGt (.int i) (.int j) = some (.d (.bool (decide (j < i)))) := rfl
theorem o_ge : gGe (.int i) (.int j) = some (.d (.bool (decide (j ≤ i)))) := rfl
theorem o_is : gIs false x .none = some (.d (.bool (isNonD x))) := rfl
theorem o_isn : gIs true x .none = some (.d (.bool (!isNonD x))) := rfl
theorem o_non_none : isNonD (.none) = true := rfl
theorem o_non_bool {b : Bool} : isNonD (.bool b) = false := rfl
theorem o_non_int {b : Int} : isNonD (.int b) = false := rfl
theorem o_non_str {b : Str} : isNonD (.str b) = false := rfl
theorem o_non_tuple {b : List D} : isNonD (.tuple b) = false := rfl
theorem o_non_list {b : List D} : isNonD (.list b) = false := rfl
theorem o_non_dict {b : List (D × D)} : isNonD (.dict b) = false := rfl
theorem o_eq (h : fineN 64 x = true) (h2 : fineN 64 y = true) : gEq false x y = some (.d (.bool (PyData.eqv x y))) := by unfold gEq; rw [h, h2]; rfl
theorem o_ne (h : fineN 64 x = true) (h2 : fineN 64 y = true) : gEq true x y = some (.d (.bool (!PyData.eqv x y))) := by unfold gEq; rw [h, h2]; rfl
theorem o_ix1 : gIx (.list xs) (.int i) = (atI xs i).map .d := rfl
theorem o_ix2 : gIx (.tuple xs) (.int i) = (atI xs i).map .d := rfl
theorem o_ixS {ns : List Int} : gIx (scrD ns) (.int i) = (atI (ns.map PyData.int) i).map .d := rfl
theorem o_len1 (h : xs.length ≤ lim) : gLen [.list xs] = some (.d (.int xs.length)) := if_pos h
theorem o_len2 (h : xs.length ≤ lim) : gLen [.tuple xs] = some (.d (.int xs.length)) := if_pos h
theorem o_len3 (h : s.length ≤ lim) : gLen [.str s] = some (.d (.int s.length)) := if_pos h
theorem o_lenS {ns : List Int} (h : ns.length ≤ lim) : gLen [scrD ns] = some (.d (.int ns.length)) := by
  unfold scrD gLen lenD scrOf
  simp [h]
theorem o_tup1 : gTuple [.list xs] = some (.d (.tuple xs)) := rfl
theorem o_tup2 : gTuple [.tuple xs] = some (.d (.tuple xs)) := rfl
theorem o_list1 : gList [.list xs] = some (.tmp (.lst xs)) := rfl
theorem o_list2 : gList [.tuple xs] = some (.tmp (.lst xs)) := rfl
theorem intsOf_map : ∀ ns : List Int, intsOf (ns.map PyData.int) = some ns
  | [] => rfl
  | n :: ns => by simp [intsOf, intsOf_map ns]
theorem blsOf_map : ∀ ns : List Bool, blsOf (ns.map PyData.bool) = some ns
  | [] => rfl
  | n :: ns => by simp [blsOf, blsOf_map ns]
theorem o_sum1 {ns : List Int} : gSum [.list (ns.map PyData.int)] = some (.d (.int ns.sum)) := by simp [gSum, seqD, intsOf_map]
theorem o_sum2 {ns : List Int} : gSum [.tuple (ns.map PyData.int)] = some (.d (.int ns.sum)) := by simp [gSum, seqD, intsOf_map]
theorem o_all {bs : List Bool} : gAll [.list (bs.map PyData.bool)] = some (.d (.bool (bs.all id))) := by simp [gAll, blsOf_map]
theorem o_any {bs : List Bool} : gAny [.list (bs.map PyData.bool)] = some (.d (.bool (bs.any id))) := by simp [gAny, blsOf_map]
theorem o_abs : gAbs [.int i] = some (.d (.int (if i < 0 then -i else i))) := rfl
theorem o_int1 : gInt [.int i] = some (.d (.int i)) := rfl
theorem o_int2 {b : Bool} : gInt [.bool b] = some (.d (.int (if b then 1 else 0))) := rfl
theorem o_max2 : gMax [.int i, .int j] = some (.d (.int (if j > i then j else i))) := rfl
theorem o_min2 : gMin [.int i, .int j] = some (.d (.int (if j < i then j else i))) := rfl
theorem o_sl1 {l u : Option Int} : gSl (.list xs) l u = some (.tmp (.lst (cutD xs l u))) := rfl
theorem o_sl2 {l u : Option Int} : gSl (.tuple xs) l u = some (.d (.tuple (cutD xs l u))) := rfl
theorem o_back1 : gBack (.list xs) = some (.tmp (.lst xs.reverse)) := rfl
theorem o_back2 : gBack (.tuple xs) = some (.d (.tuple xs.reverse)) := rfl
theorem o_app (h : xs.length < lim) : oApp x xs = some (.none, xs ++ [x]) := if_pos h
theorem o_is_int_none : isTy .int (.none) = some false := rfl
theorem o_is_int_bool {b : Bool} : isTy .int (.bool b) = some true := rfl
theorem o_is_int_int {b : Int} : isTy .int (.int b) = some true := rfl
theorem o_is_int_str {b : Str} : isTy .int (.str b) = some false := rfl
theorem o_is_int_tuple {b : List D} : isTy .int (.tuple b) = some false := rfl
theorem o_is_int_list {b : List D} : isTy .int (.list b) = some false := rfl
theorem o_is_bool_none : isTy .bool (.none) = some false := rfl
theorem o_is_bool_bool {b : Bool} : isTy .bool (.bool b) = some true := rfl
theorem o_is_bool_int {b : Int} : isTy .bool (.int b) = some false := rfl
theorem o_is_bool_str {b : Str} : isTy .bool (.str b) = some false := rfl
theorem o_is_bool_tuple {b : List D} : isTy .bool (.tuple b) = some false := rfl
theorem o_is_bool_list {b : List D} : isTy .bool (.list b) = some false := rfl
theorem o_is_str_none : isTy .str (.none) = some false := rfl
theorem o_is_str_bool {b : Bool} : isTy .str (.bool b) = some false := rfl
theorem o_is_str_int {b : Int} : isTy .str (.int b) = some false := rfl
theorem o_is_str_str {b : Str} : isTy .str (.str b) = some true := rfl
theorem o_is_str_tuple {b : List D} : isTy .str (.tuple b) = some false := rfl
theorem o_is_str_list {b : List D} : isTy .str (.list b) = some false := rfl
theorem o_is_tuple_none : isTy .tuple (.none) = some false := rfl
theorem o_is_tuple_bool {b : Bool} : isTy .tuple (.bool b) = some false := rfl
theorem o_is_tuple_int {b : Int} : isTy .tuple (.int b) = some false := rfl
theorem o_is_tuple_str {b : Str} : isTy .tuple (.str b) = some false := rfl
theorem o_is_tuple_tuple {b : List D} : isTy .tuple (.tuple b) = some true := rfl
theorem o_is_tuple_list {b : List D} : isTy .tuple (.list b) = some false := rfl
theorem o_is_list_none : isTy .list (.none) = some false := rfl
theorem o_is_list_bool {b : Bool} : isTy .list (.bool b) = some false := rfl
theorem o_is_list_int {b : Int} : isTy .list (.int b) = some false := rfl
theorem o_is_list_str {b : Str} : isTy .list (.str b) = some false := rfl
theorem o_is_list_tuple {b : List D} : isTy .list (.tuple b) = some false := rfl
theorem o_is_list_list {b : List D} : isTy .list (.list b) = some true := rfl
theorem o_is_dict_none : isTy .dict (.none) = some false := rfl
theorem o_is_dict_bool {b : Bool} : isTy .dict (.bool b) = some false := rfl
theorem o_is_dict_int {b : Int} : isTy .dict (.int b) = some false := rfl
theorem o_is_dict_str {b : Str} : isTy .dict (.str b) = some false := rfl
theorem o_is_dict_tuple {b : List D} : isTy .dict (.tuple b) = some false := rfl
theorem o_is_dict_list {b : List D} : isTy .dict (.list b) = some false := rfl
theorem o_tr1 : truth .none = some false := rfl
theorem o_tr2 {b : Bool} : truth (.bool b) = some b := rfl
theorem o_tr3 : truth (.int i) = some (i != 0) := rfl
theorem o_tr4 : truth (.list xs) = some (!xs.isEmpty) := rfl
theorem o_tr5 : truth (.tuple xs) = some (!xs.isEmpty) := rfl
theorem o_tr6 (h : s.length ≤ lim) : truth (.str s) = some ((s.length : Int) != 0) := if_pos h
theorem o_trS {ns : List Int} : truth (scrD ns) = some (!ns.isEmpty) := by cases ns <;> rfl
end
end Ev

namespace Ev
open PySem PySem.Spec L2

/-! ### numbers and texts read at once -/
def scal : V → D → Prop
  | .int i, .int j => i = j
  | .str x, .str y => x = y
  | .non, .none => True
  | .bl x, .bool y => x = y
  | _, _ => False
def scD : D → Bool
  | .int _ => true
  | .str _ => true
  | .none => true
  | .bool _ => true
  | _ => false
def scC (x : Option D) (S : Sg) : Out D := match x with
  | some x => if scD x then .ok x S else .st
  | none => .st
def scK (r : Rs) (S : Sg) : Out D := scC (peek S r) S
def mSc (m : EM) : Sg → Out D := fun S => (m S).bind scK
theorem scal_of {F Z : Hp} {B : Nat → Option V} {S : Sg} {σ : L2.St} {H : Hp} {r : Rs} {v : V} {x : D} (h : ResOk F Z B S σ H r v) (hp : peek S r = some x) (hx : scD x = true) : RepSt F Z B S σ H none ∧ scal v x := by
  have key : ∀ {v}, View Z H v x → scal v x := fun {v} vw => by
    cases x with
    | int i => rw [view_int vw]; rfl
    | str s => rw [view_str vw]; rfl
    | none => rw [view_non vw]; trivial
    | bool b => rw [view_bl vw]; rfl
    | _ => cases hx
  cases r with
  | d y => cases hp; exact ⟨h.1, key (Rep.view h.1.exZ h.2)⟩
  | ref i => exact ⟨h.1, key (peek_ref h.1 h.2 hp)⟩
  | tmp o =>
    cases hp
    cases o <;> cases hx
theorem tE_sc {W : WM} {m : EM} {σ : L2.St} {H : Hp} {Q R : VK} {k : D → Sg → Out Rs} (h : tE W (fun S => (mSc m S).bind k) σ H Q)
    (hk : ∀ F Z B S x v H1, RepSt F Z B S σ H1 none → scal v x → PostE F Z B σ W Q (k x S) → R v H1) : tE W m σ H R := by
  obtain ⟨F, Z, B, S, RS, p⟩ := h
  refine ⟨F, Z, B, S, RS, ?_⟩
  revert p
  simp only [mSc]
  cases m S with
  | st => exact fun p => p
  | ex c S1 => exact fun p => p
  | ok r S1 =>
    intro p Z1 H1 v e1 hr
    simp only [bind_ok, scK] at p
    cases hp : peek S1 r with
    | none => rw [hp] at p; exact p.elim
    | some x =>
      rw [hp] at p
      simp only [scC] at p
      by_cases hx : scD x = true
      · rw [if_pos hx] at p
        obtain ⟨R1, sc⟩ := scal_of hr hp hx
        exact hk F Z1 B S1 x v H1 R1 sc (p.mono e1)
      · rw [if_neg hx] at p; exact p.elim
/-- a comparison that chains -/
def rC (g : D → D → Option Rs) : R2 := fun x y H Q => ∃ dx dy b, scal x dx ∧ scal y dy ∧ g dx dy = some (.d (.bool b)) ∧ Q (.bl b) H
def chC2 (g2 : D → D → Option Rs) (y z : D) (S : Sg) : Out Rs := ofO (g2 y z) S
def chC (g2 : D → D → Option Rs) (c : EM) (y : D) (q : Option Rs) (S : Sg) : Out Rs := match q with
  | some (.d (.bool true)) => (mSc c S).bind (chC2 g2 y)
  | some (.d (.bool false)) => .ok (.d (.bool false)) S
  | _ => .st
def chB (g g2 : D → D → Option Rs) (c : EM) (x y : D) (S : Sg) : Out Rs := chC g2 c y (g x y) S
def chA (g g2 : D → D → Option Rs) (b c : EM) (x : D) (S : Sg) : Out Rs := (mSc b S).bind (chB g g2 c x)
def mChain (g g2 : D → D → Option Rs) (a b c : EM) : EM := fun S => (mSc a S).bind (chA g g2 b c)
section
variable {X : Cx} {W : WM} {a b c : Expr} {ma mb mc : EM} {g g2 : D → D → Option Rs} {pos : Pos} {op op2 : CmpOp} {σ : L2.St} {H : Hp} {Q : VK}
theorem tE_chain (hg2 : ∀ x y r, g2 x y = some r → ∃ b, r = .d (.bool b)) (h : tE W (mChain g g2 ma mb mc) σ H Q) : tChain (rC g) (rC g2) (tE W ma) (tE W mb) (tE W mc) σ H Q := by
  refine tE_sc h fun F Z B S x v H1 R1 sx p1 => ?_
  refine tE_sc (k := chB g g2 mc x) ⟨F, Z, B, S, R1, p1⟩ fun F2 Z2 B2 S2 y w H2 R2 sy p2 => ?_
  simp only [chB] at p2
  cases hg : g x y with
  | none => rw [hg] at p2; exact p2.elim
  | some r =>
    rw [hg] at p2
    match r, hg, p2 with
    | .d (.bool true), hg, p2 =>
      refine ⟨x, y, true, sx, sy, hg, true, rfl, ?_⟩
      rw [if_pos rfl]
      refine tE_sc (k := chC2 g2 y) ⟨F2, Z2, B2, S2, R2, p2⟩ fun F3 Z3 B3 S3 z u H3 R3 sz p3 => ?_
      simp only [chC2] at p3
      cases hq : g2 y z with
      | none => rw [hq] at p3; exact p3.elim
      | some r3 =>
        rw [hq] at p3
        obtain ⟨k, rfl⟩ := hg2 y z r3 hq
        exact ⟨y, z, k, sy, sz, hq, p3 Z3 H3 _ (Ex.refl _) ⟨R3, .bl k⟩⟩
    | .d (.bool false), hg, p2 =>
      refine ⟨x, y, false, sx, sy, hg, false, rfl, ?_⟩
      rw [if_neg (by decide)]
      exact p2 Z2 H2 _ (Ex.refl _) ⟨R2, .bl false⟩
theorem ch_ord {f : Value → Value → Sem Value} {p : Int → Int → Bool} {ps : Str → Str → Bool} (h1 : OpR X f (rI0 fun i j => .bl (p i j))) (h2 : OpR X f (fun x y H Q => ∃ i j, x = .str i ∧ y = .str j ∧ Q (.bl (ps i j)) H)) : OpR X f (rC (gOrd p ps)) := by
  intro pins s σ H x y v u Q I rx ry ⟨dx, dy, k, sx, sy, hg, q⟩
  cases dx with
  | int i =>
    cases dy with
    | int j =>
      cases x with
      | int i' =>
        cases y with
        | int j' =>
          cases hg
          cases sx
          cases sy
          exact h1 pins s σ H _ _ v u Q I rx ry ⟨_, _, rfl, rfl, q⟩
        | _ => cases sy
      | _ => cases sx
    | _ => cases hg
  | str i =>
    cases dy with
    | str j =>
      cases x with
      | str i' =>
        cases y with
        | str j' =>
          cases hg
          cases sx
          cases sy
          exact h2 pins s σ H _ _ v u Q I rx ry ⟨_, _, rfl, rfl, q⟩
        | _ => cases sy
      | _ => cases sx
    | _ => cases hg
  | _ => cases dy <;> cases hg
theorem ch_lt : OpR X (compareOp .Lt) (rC gLt) := ch_ord op_lt op_lt_str
theorem ch_gt : OpR X (compareOp .Gt) (rC gGt) := ch_ord op_gt op_gt_str
theorem ch_le : OpR X (compareOp .LtE) (rC gLe) := ch_ord op_le fun pins s σ H x y v u Q I rx ry ⟨i, j, e1, e2, q⟩ => op_le_str pins s σ H x y v u Q I rx ry ⟨i, j, e1, e2, by rw [← le_not_lt]; exact q⟩
def gEqI : D → D → Option Rs
  | .int i, .int j => some (.d (.bool (decide (i = j))))
  | .none, .int _ => some (.d (.bool false))
  | .str i, .str j => some (.d (.bool (i == j)))
  | _, _ => none
theorem bl_eqI : ∀ x y r, gEqI x y = some r → ∃ b, r = .d (.bool b) := fun x y r h => by
  cases x <;> cases y <;> cases h <;> exact ⟨_, rfl⟩
theorem ch_eq : OpR X (compareOp .Eq) (rC gEqI) := by
  intro pins s σ H x y v u Q I rx ry ⟨dx, dy, k, sx, sy, hg, q⟩
  cases dx with
  | int i =>
    cases dy with
    | int j =>
      cases x with
      | int i' =>
        cases y with
        | int j' =>
          cases hg
          cases sx
          cases sy
          have e : ∀ p q : Int, decide (V.int p = V.int q) = decide (p = q) := by simp
          exact op_eq pins s σ H _ _ v u Q I rx ry ⟨by first | rfl | trivial | decide | exact ⟨rfl, rfl⟩, by rw [e]; exact q⟩
        | _ => cases sy
      | _ => cases sx
    | _ => cases hg
  | none =>
    cases dy with
    | int j =>
      cases x with
      | non =>
        cases y with
        | int j' =>
          cases hg
          exact op_eq pins s σ H _ _ v u Q I rx ry ⟨by first | rfl | trivial | decide | exact ⟨rfl, rfl⟩, by simpa using q⟩
        | _ => cases sy
      | _ => cases sx
    | _ => cases hg
  | str i =>
    cases dy with
    | str j =>
      cases x with
      | str i' =>
        cases y with
        | str j' =>
          cases hg
          cases sx
          cases sy
          exact op_eq pins s σ H _ _ v u Q I rx ry ⟨by first | rfl | trivial | decide | exact ⟨rfl, rfl⟩, by rw [dec_str]; exact q⟩
        | _ => cases sy
      | _ => cases sx
    | _ => cases hg
  | _ => cases dy <;> cases hg
theorem bl_ord {p : Int → Int → Bool} {ps : Str → Str → Bool} : ∀ x y r, gOrd p ps x y = some r → ∃ b, r = .d (.bool b) := fun x y r h => by
  cases x <;> cases y <;> cases h <;> exact ⟨_, rfl⟩
theorem je_chain (h1 : OpR X (compareOp op) (rC g)) (h2 : OpR X (compareOp op2) (rC g2)) (hg2 : ∀ x y r, g2 x y = some r → ∃ b, r = .d (.bool b)) (ha : JE X W a ma) (hb : JE X W b mb) (hc : JE X W c mc) (hm : lastMarks [op, op2] [b, c] = false := by with_unfolding_all rfl) :
    JE X W (.Compare a [op, op2] [b, c] pos) (mChain g g2 ma mb mc) := ⟨PE.imp (pe_chain h1 h2 ha.run hb.run hc.run hm) fun σ H Q h => tE_chain hg2 h⟩
theorem jt_chain (h1 : OpR X (compareOp op) (rC g)) (h2 : OpR X (compareOp op2) (rC g2)) (hg2 : ∀ x y r, g2 x y = some r → ∃ b, r = .d (.bool b)) (ha : JE X W a ma) (hb : JE X W b mb) (hc : JE X W c mc) (hm : lastMarks [op, op2] [b, c] = false := by with_unfolding_all rfl) :
    JT X W (.Compare a [op, op2] [b, c] pos) (asB (mChain g g2 ma mb mc)) := ⟨PT.imp (pt_chain h1 h2 ha.run hb.run hc.run hm) fun σ H Q h => tE_chain hg2 (asB_tE h)⟩
end

/-! ### tuple(range(..)), list(range(..)) -/
def rgN (x y : D) : Option (List D) := match x with
  | .int i => match y with
    | .int j => if -4611686018427387904 ≤ i ∧ i < 4611686018427387904 ∧ -4611686018427387904 ≤ j ∧ j < 4611686018427387904 ∧ (j - i).toNat ≤ lim then some (intsD i 1 (j - i).toNat) else none
    | _ => none
  | _ => none
def rgTC (q : Option (List D)) (S : Sg) : Out Rs := match q with
  | some xs => .ok (.d (.tuple xs)) S
  | none => .st
def rgLC (q : Option (List D)) (S : Sg) : Out Rs := match q with
  | some xs => .ok (.tmp (.lst xs)) S
  | none => .st
def rgTB (x y : D) (S : Sg) : Out Rs := rgTC (rgN x y) S
def rgLB (x y : D) (S : Sg) : Out Rs := rgLC (rgN x y) S
def rgTA (b : EM) (x : D) (S : Sg) : Out Rs := (mSc b S).bind (rgTB x)
def rgLA (b : EM) (x : D) (S : Sg) : Out Rs := (mSc b S).bind (rgLB x)
def mRgT (a b : EM) : EM := fun S => (mSc a S).bind (rgTA b)
def mRgL (a b : EM) : EM := fun S => (mSc a S).bind (rgLA b)
def mRgT1 (a : EM) : EM := fun S => (mSc a S).bind (rgTB (.int 0))
def mRgL1 (a : EM) : EM := fun S => (mSc a S).bind (rgLB (.int 0))
theorem rgN_some {x y : D} {xs : List D} (h : rgN x y = some xs) : ∃ i j, x = .int i ∧ y = .int j ∧ RgOk i j ∧ xs = intsD i 1 (j - i).toNat := by
  cases x with
  | int i =>
    cases y with
    | int j =>
      simp only [rgN] at h
      split at h
      · rename_i hc
        cases h
        exact ⟨i, j, rfl, rfl, ⟨by omega, by omega, by omega, by omega, by have := hc.2.2.2.2; show _ ≤ 16777216; exact this⟩, rfl⟩
      · cases h
    | _ => cases h
  | _ => cases h
theorem rgV_reps {Z : Hp} (i j : Int) : Reps Z (rgV i j) (intsD i 1 (j - i).toNat) := by
  unfold rgV intsD
  generalize (List.range (j - i).toNat) = l
  induction l with
  | nil => exact .nil
  | cons k l ih =>
    rw [List.map_cons, List.map_cons, Int.one_mul]
    exact .cons (.int _) ih
theorem scal_int {v : V} {i : Int} (h : scal v (.int i)) : v = .int i := by
  cases v with
  | int j => cases h; rfl
  | _ => cases h
section
variable {X : Cx} {W : WM} {a b : Expr} {ma mb : EM} {p p2 pos pos2 : Pos} {σ : L2.St} {H : Hp} {Q : VK}
theorem je_rgT (hc : X.calm = true) (ha : JE X W a ma) (hb : JE X W b mb) (hm : X.mg "tuple" = none) (hm2 : X.mg "range" = none) (hg : Gl X "tuple" := by first | exact Or.inl rfl | exact Or.inr rfl | exact rfl) (hg2 : Gl X "range" := by first | exact Or.inl rfl | exact Or.inr rfl | exact rfl)
    (na : starEach [a, b] X.env = (false, eval a X.env) :: starEach [b] X.env := by rfl) (nb : starEach [b] X.env = (false, eval b X.env) :: starEach [] X.env := by rfl) (hp : (backTo pos2 (starEach [b] X.env)).any (·.1) = false := by rfl)
    (nn : starEach [.Call (.Name "range" p2) [a, b] [] pos2] X.env = (false, eval (.Call (.Name "range" p2) [a, b] [] pos2) X.env) :: starEach [] X.env := by rfl) : JE X W (.Call (.Name "tuple" p) [.Call (.Name "range" p2) [a, b] [] pos2] [] pos) (mRgT ma mb) :=
  ⟨PE.imp (pe_tupRg hc hg hm (prg_2 hg2 hm2 ha.run hb.run na nb hp) nn) fun σ H Q h => tE_sc h fun F Z B S x v H1 R1 sx p1 => tE_sc (k := rgTB x) ⟨F, Z, B, S, R1, p1⟩ fun F2 Z2 B2 S2 y w H2 R2 sy p2 => by
    simp only [rgTB] at p2
    cases hr : rgN x y with
    | none => rw [hr] at p2; exact p2.elim
    | some xs =>
      rw [hr] at p2
      obtain ⟨i, j, rfl, rfl, ok, rfl⟩ := rgN_some hr
      exact ⟨i, j, scal_int sx, scal_int sy, ok, fun q hq => p2 _ _ _ (Ex.new (R2.exZ.free hq)) (ResOk.tup R2 hq (rgV_reps i j))⟩⟩
theorem je_rgL (hc : X.calm = true) (ha : JE X W a ma) (hb : JE X W b mb) (hm : X.mg "list" = none) (hm2 : X.mg "range" = none) (hg : Gl X "list" := by first | exact Or.inl rfl | exact Or.inr rfl | exact rfl) (hg2 : Gl X "range" := by first | exact Or.inl rfl | exact Or.inr rfl | exact rfl)
    (na : starEach [a, b] X.env = (false, eval a X.env) :: starEach [b] X.env := by rfl) (nb : starEach [b] X.env = (false, eval b X.env) :: starEach [] X.env := by rfl) (hp : (backTo pos2 (starEach [b] X.env)).any (·.1) = false := by rfl)
    (nn : starEach [.Call (.Name "range" p2) [a, b] [] pos2] X.env = (false, eval (.Call (.Name "range" p2) [a, b] [] pos2) X.env) :: starEach [] X.env := by rfl) : JE X W (.Call (.Name "list" p) [.Call (.Name "range" p2) [a, b] [] pos2] [] pos) (mRgL ma mb) :=
  ⟨PE.imp (pe_listRg hc hg hm (prg_2 hg2 hm2 ha.run hb.run na nb hp) nn) fun σ H Q h => tE_sc h fun F Z B S x v H1 R1 sx p1 => tE_sc (k := rgLB x) ⟨F, Z, B, S, R1, p1⟩ fun F2 Z2 B2 S2 y w H2 R2 sy p2 => by
    simp only [rgLB] at p2
    cases hr : rgN x y with
    | none => rw [hr] at p2; exact p2.elim
    | some xs =>
      rw [hr] at p2
      obtain ⟨i, j, rfl, rfl, ok, rfl⟩ := rgN_some hr
      exact ⟨i, j, scal_int sx, scal_int sy, ok, fun q hq => p2 _ _ _ (Ex.refl Z2) (ResOk.lst R2 hq (rgV_reps i j))⟩⟩
theorem je_rgT1 (hc : X.calm = true) (ha : JE X W a ma) (hm : X.mg "tuple" = none) (hm2 : X.mg "range" = none) (hg : Gl X "tuple" := by first | exact Or.inl rfl | exact Or.inr rfl | exact rfl) (hg2 : Gl X "range" := by first | exact Or.inl rfl | exact Or.inr rfl | exact rfl)
    (na : starEach [a] X.env = (false, eval a X.env) :: starEach [] X.env := by rfl)
    (nn : starEach [.Call (.Name "range" p2) [a] [] pos2] X.env = (false, eval (.Call (.Name "range" p2) [a] [] pos2) X.env) :: starEach [] X.env := by rfl) : JE X W (.Call (.Name "tuple" p) [.Call (.Name "range" p2) [a] [] pos2] [] pos) (mRgT1 ma) :=
  ⟨PE.imp (pe_tupRg hc hg hm (prg_1 hg2 hm2 ha.run na) nn) fun σ H Q h => tE_sc h fun F2 Z2 B2 S2 y w H2 R2 sy p2 => by
    simp only [rgTB] at p2
    cases hr : rgN (.int 0) y with
    | none => rw [hr] at p2; exact p2.elim
    | some xs =>
      rw [hr] at p2
      obtain ⟨i, j, e, rfl, ok, rfl⟩ := rgN_some hr
      cases e
      exact ⟨j, scal_int sy, ok, fun q hq => p2 _ _ _ (Ex.new (R2.exZ.free hq)) (ResOk.tup R2 hq (rgV_reps 0 j))⟩⟩
end

/-! ### sorted(list of ints) -/
def srtI (ns : List Int) : List Int := ns.mergeSort (fun a b => decide (a ≤ b))
theorem srtI_perm (ns : List Int) : (srtI ns).Perm ns := List.mergeSort_perm ns _
theorem srtI_sorted (ns : List Int) : (srtI ns).Pairwise (· ≤ ·) := by
  have := List.pairwise_mergeSort (le := fun a b : Int => decide (a ≤ b)) (by intro a b c; simp only [decide_eq_true_eq]; omega) (by intro a b; simp only [Bool.or_eq_true, decide_eq_true_eq]; omega) ns
  exact this.imp fun h => by simpa using h
theorem srt_unique {xs ys : List Int} (h : xs.Perm ys) (hx : xs.Pairwise (· ≤ ·)) (hy : ys.Pairwise (· ≤ ·)) : xs = ys :=
  h.eq_of_pairwise (fun a b _ _ h1 h2 => Int.le_antisymm h1 h2) hx hy
def gSorted : List D → Option Rs
  | [x] => match x with
    | .list ds => (intsOf ds).map fun ns => .tmp (.lst ((srtI ns).map PyData.int))
    | _ => none
  | _ => none
theorem cr_sortedD {X : Cx} : CallR X (.builtin "sorted") (rG gSorted) := CallR.imp (cr_sortedI (X := X)) fun vs H Q h => by
  obtain ⟨F, Z, B, S, σ, ds, r, R, vw, hg, q⟩ := h
  obtain ⟨x, e0, hg'⟩ := one_of hg
  subst e0
  clear hg
  obtain ⟨v, rfl, hv⟩ := views1 vw
  cases x with
  | list es =>
    dsimp only at hg'
    cases hi : intsOf es with
    | none => rw [hi] at hg'; cases hg'
    | some ns =>
      rw [hi] at hg'
      cases hg'
      obtain ⟨a, ys, rfl, h1, h2⟩ := hv
      have hy := intsOf_ok h2 hi
      subst hy
      refine ⟨a, ns, rfl, SqL.of h1, fun ns' p hperm hsrt hp => ?_⟩
      have e := srt_unique (hperm.trans (srtI_perm ns).symm) hsrt (srtI_sorted ns)
      rw [e]
      exact q _ _ _ (Ex.refl Z) (ResOk.lst R hp (reps_ints _))
  | _ => cases hg'
end Ev

namespace Ev
open PySem PySem.Spec L2

/-! ### enumerate(tuple), enumerate(list) -/
theorem draws_end {prog : Program} {w : World} {A : Around} (hh : A.handled = none) (it t : Addr) (hne : t ≠ it) (items : Array Value) (i : Nat) (hi : items[i]? = none) :
    Draws prog w A it [it, t] i (fun _ _ => True) (fun j h => j = i ∧ h.IsTupleIter it t i ∧ h.IsTuple t items) where
  live := fun _ _ st => let ⟨o, ho, _⟩ := st.2.1; ⟨o, ho⟩
  frame := fun _ _ _ st hk => ⟨st.1, st.2.1.at fun o e => hk it (by simp) o e, st.2.2.at fun o e => hk t (by simp) o e⟩
  item := fun j s Q E hj st _ => absurd hj (by have := st.1; omega)
  done := fun s Q E st hE => wpAny_nextOf_tuple_end hh st.2.1 st.2.2 hi hE
def IteT (K : PySem.W.Frag) (a : Addr) : It :=
  ⟨fun i H => ∃ (xs : List V) (x : V), SqT K H a xs ∧ xs[i]? = some x, fun i H v H' => ∃ T x, v = .ref T ∧ H T = none ∧ H' = upd H T (.tup [.int (i : Nat), x]) ∧ ∀ xs, SqT K H a xs → xs[i]? = some x, fun i H => ∃ xs : List V, SqT K H a xs ∧ xs.length ≤ i⟩
theorem turn_enumT {P : Program} {w : World} {K : PySem.W.Frag} {elts : List Expr} {kk : Nat} {tpos : Pos} (a e it : Addr) (hai : a ≠ it) (hae : a ≠ e) :
    Turn P w K (.Tuple elts kk tpos) (IteT K a) [e, it] e (fun i h => (∃ old, IsEnum h e it ((i : Nat) : Int) old) ∧ h.IsTupleIter it a i ∧ e ≠ it) where
  mem := by simp
  obj := fun i h st b hb => by
    obtain ⟨⟨old, he⟩, ⟨o, ho, hc, hd⟩, _⟩ := st
    rcases (show b = e ∨ b = it by simpa using hb) with z | z
    · rw [z]; exact ⟨_, he, fun v q => nomatch q⟩
    · rw [z]; exact ⟨o, ho, fun v q => by rw [hd] at q; cases q⟩
  keep := fun i h h' st k => by
    obtain ⟨⟨old, he⟩, hi, hne⟩ := st
    exact ⟨⟨old, k e (by simp) _ he⟩, hi.at fun o q => k it (by simp) o q, hne⟩
  item := by
    intro X eP ew eK hc i pins s σ H E I hf st hg
    subst eP ew eK
    obtain ⟨⟨old, he⟩, hit, hne⟩ := st
    obtain ⟨xs, x, hq, hx⟩ := hg
    obtain ⟨its, rv, tp, hz⟩ := I.tuple hq
    obtain ⟨u, hu, ru⟩ := rv.get hx
    have lte : e < s.heap.objs.size := Heap.lt_size he
    have lti : it < s.heap.objs.size := by obtain ⟨_, q, _⟩ := hit; exact Heap.lt_size q
    have Dr := Draws.tuple (prog := X.prog) (w := X.w) (A := X.A.in1) (I.ok.hd hc) it a hai its.toArray
    have hlt : i < its.toArray.size := by
      rw [List.size_toArray]
      exact (List.getElem?_eq_some_iff.mp hu).1
    refine wpAny_pyNext_enum_itemD Dr he ⟨hit, tp⟩ hlt hne (by simp; exact ⟨hne, fun z => hae z.symm⟩) fun u' h' tk hP ho hs' hT hsz hk => ?_
    have eu : u' = u := by
      have h1 : its.toArray[i]? = some u := by simpa using hu
      exact Option.some.inj (hP.symm.trans h1)
    subst eu
    refine ⟨_, rfl, wpAny_letOwnedTupleGo_enum (s := { s with heap := h', toks := tk + 1 }) ho fun h'' he' sb => ?_⟩
    have hT2 : h''.get? s.heap.objs.size = some { cls := .type "tuple", data := .seq #[.int i tk, u'] } := (sb.2 _ (Nat.ne_of_gt lte)).trans hT
    have hnew : ObjOk X.prog X.w (upd H s.heap.objs.size (.tup [.int (i : Nat), x])) h'' s.heap.objs.size (.tup [.int (i : Nat), x]) :=
      ⟨by show 2 ≤ sizeLine; decide, [.int i tk, u'], .cons ⟨_, rfl⟩ (.cons ru .nil), ⟨_, hT2, rfl, _, rfl⟩⟩
    have I9 : Inv X pins σ (upd H s.heap.objs.size (.tup [.int (i : Nat), x])) { s with heap := h'', toks := tk + 1 } :=
      I.turnedNew (ch := [e, it]) (fun b ob hb q => (sb.2 b (fun z => hb (by simp [z]))).trans (hk b ob (fun z => hb (by simp [z])) (fun z => hb (by simp [z])) q)) hf (Nat.le_refl _) hnew
    refine ⟨.ref s.heap.objs.size, _, I9, rfl, ⟨_, x, rfl, I.hok.fresh (Nat.le_refl _), rfl, fun ys hy => by rw [I.tuple_inj hy hq]; exact hx⟩, ⟨⟨u', ?_⟩, hs'.1.at fun o q => (sb.2 it (Ne.symm hne)).trans q, hne⟩, fun b hb => ?_⟩
    · have e1 : ((i + 1 : Nat) : Int) = (i : Int) + 1 := by omega
      rw [e1]; exact he'
    · have hb' : b < s.heap.objs.size := by
        rcases (show b = e ∨ b = it by simpa using hb) with z | z
        · rw [z]; exact lte
        · rw [z]; exact lti
      rw [upd_ne (Nat.ne_of_lt hb')]
      exact (hf b hb).1
  done := by
    intro X eP ew eK hc i pins s σ H E I hf st hg
    subst eP ew eK
    obtain ⟨⟨old, he⟩, hit, hne⟩ := st
    obtain ⟨xs, hq, hx⟩ := hg
    obtain ⟨its, rv, tp, hz⟩ := I.tuple hq
    obtain ⟨f0, f1, f2, f3, f4, f5⟩ := hf it (by simp)
    have hl := rv.length
    have hno : its.toArray[i]? = none := by simp; omega
    exact wpAny_pyNext_enum_endD (draws_end (prog := X.prog) (w := X.w) (A := X.A.in1) (I.ok.hd hc) it a hai its.toArray i hno) he ⟨rfl, hit, tp⟩ fun h' eb => ⟨rfl, I.turned (t' := s.toks) (fun b o hb q => eb b o hb q) f0 f1 f3 f4 f5⟩
  self := fun A i s Q E st h => by
    obtain ⟨⟨_, he⟩, _⟩ := st
    exact wpAny_pyIter_enum he h
/-- enumerate of one thing: its two new objects -/
theorem enum_new {v : Value} {o : Obj} {H : Heap → Prop} (B : Begins v o H) :
    Meets (Builtin.«enumerate.__new__» ⟨[.type "enumerate", v], []⟩) (fun _ R s => H s.heap ∧
      R (.ok (.ret (.ref (s.heap.push o).objs.size))) { s with heap := (s.heap.push o).push { cls := .type "enumerate", data := .fields #[.none, .bool false, .ref s.heap.objs.size, rawInt 0, .none, .none] } }) :=
  .of_wp fun prog w A R s hs => by
    obtain ⟨hp, gg, dd, tt, oo⟩ := s
    obtain ⟨hA, hB⟩ := hs
    have hsub := sub_enumerate
    have qi : ∀ {A' : Around} {E : Value → Shared → Prop} {Q : Value → Shared → Prop}, Q (.ref hp.objs.size) ⟨hp.push o, gg, dd, tt, oo⟩ → wpAny (model prog w) A' (pyIter v) Q E ⟨hp, gg, dd, tt, oo⟩ :=
      fun q => B.iter prog w _ _ ⟨hp, gg, dd, tt, oo⟩ _ hA q
    wp_walk using qi
    refine wpAny_stack_any fun sk => wpAny_pure ?_
    split
    · rename_i c _ _ _ _ _
      cases (c == Value.type "enumerate") <;> (wp_walk using qi; exact ⟨_, rfl, hB⟩)
    · wp_walk using qi
      exact ⟨_, rfl, hB⟩
theorem enum_tup {prog : Program} {w : World} {A : Around} {E : Value → Shared → Prop} {s : Shared} {t : Addr} {items : Array Value} {Q : Value → Shared → Prop} (ht : s.heap.IsTuple t items)
    (h : ∀ h', IsEnum h' (s.heap.objs.size + 1) s.heap.objs.size 0 .none → h'.IsTupleIter s.heap.objs.size t 0 → (∀ b o, s.heap.get? b = some o → h'.get? b = some o) → Q (.ref (s.heap.objs.size + 1)) { s with heap := h' }) :
    wpAny (model prog w) A (call (.type "enumerate") [.ref t]) Q E s := by
  have B := begins_tuple t items
  refine callType_new F.called_enumerate (by decide) (F.typeCall_enumerate_1 _) (F.newCall_enumerate_1 _) (fun obj => F.args_object_init_2 obj _) F.entry_enumerate_new (enum_new B) ⟨ht, ?_⟩
  have hz : (s.heap.push { cls := .type "tuple_iterator", data := .fields #[.ref t, .int 0 0] }).objs.size = s.heap.objs.size + 1 := Heap.size_push ..
  show _ ∧ _
  rw [hz]
  have he : IsEnum ((s.heap.push { cls := .type "tuple_iterator", data := .fields #[.ref t, .int 0 0] }).push { cls := .type "enumerate", data := .fields #[.none, .bool false, .ref s.heap.objs.size, rawInt 0, .none, .none] }) (s.heap.objs.size + 1) s.heap.objs.size 0 .none := by
    have q := Heap.get?_push_size (s.heap.push { cls := .type "tuple_iterator", data := .fields #[.ref t, .int 0 0] }) (o := { cls := .type "enumerate", data := .fields #[.none, .bool false, .ref s.heap.objs.size, rawInt 0, .none, .none] }) rfl
    rw [hz] at q; exact q
  refine ⟨⟨_, he, rfl⟩, h _ he ⟨_, Heap.get?_push_of_some _ (Heap.get?_push_size _ rfl), rfl, rfl⟩ fun b o x => Heap.get?_push_of_some _ (Heap.get?_push_of_some _ x)⟩
def iEnumT (K : PySem.W.Frag) (ta : TA) : TI := fun σ H R => ta σ H fun vs H1 => ∃ a xs, vs = [.ref a] ∧ SqT K H1 a xs ∧ R (IteT K a) H1
theorem pi_enumT {X : Cx} {e : Expr} {ta : TA} {p pos tpos : Pos} {elts : List Expr} {kk : Nat} (hg : Gl X "enumerate") (hm : X.mg "enumerate" = none) (ha : PA X [e] ta) (hs : starEach [e] X.env = [(false, eval e X.env)] := by rfl) :
    PI X (.Tuple elts kk tpos) (.Call (.Name "enumerate" p) [e] [] pos) (iEnumT X.K ta) := by
  refine ⟨fun pins s σ H R I h => PyProof.Rows.Call_ (ld_blt I hg hm PyProof.Rows.boot_enumerate (PyProof.Rows.callWith_type1 (thn (ha.run pos pins s σ H _ I h) fun us s1 ⟨vs, H1, I1, r1, a, xs, ex, hq, q⟩ => ?_) hs rfl))⟩
  subst ex
  cases r1 with
  | cons r rr =>
    cases rr
    cases r
    obtain ⟨its, rv, tp, hz⟩ := I1.tuple hq
    have hlt : a < s1.heap.objs.size := by obtain ⟨_, q, _⟩ := id tp; exact Heap.lt_size q
    refine enum_tup (items := its.toArray) tp fun h' he hit hk => wpAny_pyIter_enum he ?_
    have I2 : Inv X pins σ H1 { s1 with heap := h' } := I1.kept (t' := s1.toks) hk
    refine ⟨s1.heap.objs.size + 1, [s1.heap.objs.size + 1, s1.heap.objs.size], _, _, H1, rfl, I2, turn_enumT a (s1.heap.objs.size + 1) s1.heap.objs.size (Nat.ne_of_lt hlt) (Nat.ne_of_lt (Nat.lt_succ_of_lt hlt)), ⟨⟨.none, he⟩, hit, Nat.succ_ne_self _⟩, fun b hb => ?_, q⟩
    have hle : s1.heap.objs.size ≤ b := by
      rcases (show b = s1.heap.objs.size + 1 ∨ b = s1.heap.objs.size by simpa using hb) with z | z
      · rw [z]; exact Nat.le_succ _
      · rw [z]; exact Nat.le_refl _
    exact I1.fpOk hle (I1.hok.fresh hle)
/-- the items with their places -/
def numD : Nat → List D → List D
  | _, [] => []
  | k, x :: xs => .tuple [.int (k : Nat), x] :: numD (k + 1) xs
theorem numD_get : ∀ (xs : List D) (k i : Nat), (numD k xs)[i]? = (xs[i]?).map fun x => .tuple [.int ((k + i : Nat) : Int), x]
  | [], k, i => by simp [numD]
  | x :: xs, k, 0 => by simp [numD]
  | x :: xs, k, i + 1 => by
    simp only [numD, List.getElem?_cons_succ]
    rw [numD_get xs (k + 1) i]
    have : k + 1 + i = k + (i + 1) := by omega
    rw [this]
theorem numD_len : ∀ (xs : List D) (k : Nat), (numD k xs).length = xs.length
  | [], k => rfl
  | x :: xs, k => by simp [numD, numD_len xs (k + 1)]
def enuD : List D → Option (List D)
  | [x] => match x with
    | .list xs => some (numD 0 xs)
    | .tuple xs => some (numD 0 xs)
    | _ => none
  | _ => none
theorem enuD_some {ds xs : List D} (h : enuD ds = some xs) : (∃ es, ds = [.list es] ∧ xs = numD 0 es) ∨ ∃ es, ds = [.tuple es] ∧ xs = numD 0 es := by
  obtain ⟨x, e, h2⟩ := one_of h
  cases x with
  | list es => cases h2; exact .inl ⟨es, e, rfl⟩
  | tuple es => cases h2; exact .inr ⟨es, e, rfl⟩
  | _ => cases h2
def enuK (ds : List D) (S : Sg) : Out (List D × Lt) := ofI (enuD ds) S
def mEnum (m : DM) : IM := fun S => (m S).bind enuK
theorem wk_enumL {K : PySem.W.Frag} {F Z : Hp} {a : Addr} {xs : List V} {ds : List D} (ha : Z a = some (.lst xs)) (r : Reps Z xs ds) : Wk F Z (Ite K a) (numD 0 ds) := fun i H e1 e2 => by
  have h1 : SqL K H a xs := SqL.of (e1 _ _ ha)
  refine ⟨fun d hd => ?_, fun hl => ⟨xs, h1, by rw [numD_len] at hl; rw [r.length]; exact hl⟩⟩
  rw [numD_get] at hd
  cases hx : ds[i]? with
  | none => rw [hx] at hd; cases hd
  | some dx =>
    rw [hx] at hd
    cases hd
    obtain ⟨x, gx, rx⟩ := r.get hx
    refine ⟨⟨xs, x, h1, gx⟩, fun v H' ⟨T, x', e3, hT, e4, fx⟩ => ?_⟩
    have e5 := (fx _ h1).symm.trans gx
    cases e5
    subst e3 e4
    exact .inr ⟨T, _, hT, rfl, rfl, _, rfl, by rw [Nat.zero_add]; exact .cons (.int _) (.cons rx .nil)⟩
theorem wk_enumT {K : PySem.W.Frag} {F Z : Hp} {a : Addr} {xs : List V} {ds : List D} (ha : Z a = some (.tup xs)) (r : Reps Z xs ds) : Wk F Z (IteT K a) (numD 0 ds) := fun i H e1 e2 => by
  have h1 : SqT K H a xs := SqT.of (e1 _ _ ha)
  refine ⟨fun d hd => ?_, fun hl => ⟨xs, h1, by rw [numD_len] at hl; rw [r.length]; exact hl⟩⟩
  rw [numD_get] at hd
  cases hx : ds[i]? with
  | none => rw [hx] at hd; cases hd
  | some dx =>
    rw [hx] at hd
    cases hd
    obtain ⟨x, gx, rx⟩ := r.get hx
    refine ⟨⟨xs, x, h1, gx⟩, fun v H' ⟨T, x', e3, hT, e4, fx⟩ => ?_⟩
    have e5 := (fx _ h1).symm.trans gx
    cases e5
    subst e3 e4
    exact .inr ⟨T, _, hT, rfl, rfl, _, rfl, by rw [Nat.zero_add]; exact .cons (.int _) (.cons rx .nil)⟩
theorem ji_enum {X : Cx} {W : WM} {e : Expr} {m : DM} {p pos tpos : Pos} {elts : List Expr} {kk : Nat} (hm : X.mg "enumerate" = none) (ha : JD X W [e] m) (hg : Gl X "enumerate" := by first | exact Or.inl rfl | exact Or.inr rfl | exact rfl) (hs : starEach [e] X.env = [(false, eval e X.env)] := by rfl) :
    JI X W (.Tuple elts kk tpos) (.Call (.Name "enumerate" p) [e] [] pos) (mEnum m) := by
  refine ⟨⟨fun pins s σ H R I hq => ?_⟩⟩
  obtain ⟨F, Z, B, S, R0, pp⟩ := hq
  have L : iEnum X.K (tDs W m) σ H R → _ := fun q => (pi_enum (elts := elts) (kk := kk) (tpos := tpos) (p := p) (pos := pos) hg hm ha.run hs).run pins s σ H R I q
  have T : iEnumT X.K (tDs W m) σ H R → _ := fun q => (pi_enumT (elts := elts) (kk := kk) (tpos := tpos) (p := p) (pos := pos) hg hm ha.run hs).run pins s σ H R I q
  revert pp
  simp only [mEnum]
  cases hme : m S with
  | st => exact fun p => p.elim
  | ex c S1 => exact fun p => L ⟨F, Z, B, S, R0, by rw [hme]; exact p⟩
  | ok ds S1 =>
    simp only [bind_ok, enuK]
    cases he : enuD ds with
    | none => exact fun p => p.elim
    | some xs =>
      rcases enuD_some he with ⟨es, e1, e2⟩ | ⟨es, e1, e2⟩
      · subst e1 e2
        refine fun q => L ⟨F, Z, B, S, R0, ?_⟩
        rw [hme]
        intro Z1 H1 vs e1 R1 hr
        cases hr with
        | cons r1 r2 =>
          cases r2
          cases r1 with
          | lst h1 rr => exact ⟨_, _, rfl, SqL.of (R1.exZ _ _ h1), q Z1 H1 _ F B e1 R1 (wk_enumL h1 rr) back0⟩
      · subst e1 e2
        refine fun q => T ⟨F, Z, B, S, R0, ?_⟩
        rw [hme]
        intro Z1 H1 vs e1 R1 hr
        cases hr with
        | cons r1 r2 =>
          cases r2
          cases r1 with
          | tup h1 rr => exact ⟨_, _, rfl, SqT.of (R1.exZ _ _ h1), q Z1 H1 _ F B e1 R1 (wk_enumT h1 rr) back0⟩
end Ev

namespace Ev
open PySem PySem.Spec L2

/-! ### xs[i] = v, xs a list of our own -/
def putS (b : Bool) (k : Nat) (v : D) (ds : List D) (j : Option Nat) (S : Sg) : Out Fl := match j with
  | some j => .ok .nx (S.set k (.own b (.lst (ds.set j v))))
  | none => .st
def putC (k : Nat) (v : D) (i : Int) (S : Sg) : Sl → Out Fl
  | .own b (.lst ds) => putS b k v ds (ixN ds.length i) S
  | _ => .st
def putB (k : Nat) (v : D) (i : D) (S : Sg) : Out Fl := match i with
  | .int i => putC k v i S (gt S k)
  | _ => .st
def putO (b : Bool) (o : Out Fl) : Out Fl := if b then o else .st
def putA (k : Nat) (mi : EM) (v : D) (S : Sg) : Out Fl := putO (ownL S k) ((mSc mi S).bind (putB k v))
def mPut (k : Nat) (mi mv : EM) : SM := fun S => (mD mv S).bind (putA k mi)
theorem sc_runS {W : WM} {m : EM} {F Z : Hp} {B : Nat → Option V} {S : Sg} {σ : L2.St} {H : Hp} {E : Ends} {R' : VK} {k : D → Sg → Out Fl} (R : RepSt F Z B S σ H none) (p : PostS F Z B W E ((mSc m S).bind k))
    (hk : ∀ Z2 H2 x v S2, Ex Z Z2 → RepSt F Z2 B S2 σ H2 none → scal v x → PostS F Z2 B W E (k x S2) → R' v H2) : tE W m σ H R' := by
  refine ⟨F, Z, B, S, R, ?_⟩
  revert p
  simp only [mSc]
  cases m S with
  | st => exact fun p => p
  | ex c S1 => exact fun p Z' H' e R' => p Z' σ H' e R'
  | ok r S1 =>
    intro p Z1 H1 v e1 hr
    simp only [bind_ok, scK] at p
    cases hp : peek S1 r with
    | none => rw [hp] at p; exact p.elim
    | some x =>
      rw [hp] at p
      simp only [scC] at p
      by_cases hx : scD x = true
      · rw [if_pos hx] at p
        obtain ⟨R1, sc⟩ := scal_of hr hp hx
        exact hk Z1 H1 x v S1 e1 R1 sc (p.mono e1)
      · rw [if_neg hx] at p; exact p.elim
theorem tD_runS {W : WM} {m : EM} {F Z : Hp} {B : Nat → Option V} {S : Sg} {σ : L2.St} {H : Hp} {E : Ends} {R' : VK} {k : D → Sg → Out Fl} (R : RepSt F Z B S σ H none) (p : PostS F Z B W E ((mD m S).bind k))
    (hk : ∀ Z2 H2 x v S2, Ex Z Z2 → RepSt F Z2 B S2 σ H2 none → Rep Z2 v x → PostS F Z2 B W E (k x S2) → R' v H2) : tE W m σ H R' := by
  refine ⟨F, Z, B, S, R, ?_⟩
  revert p
  simp only [mD]
  cases m S with
  | st => exact fun p => p
  | ex c S1 => exact fun p Z' H' e R' => p Z' σ H' e R'
  | ok r S1 =>
    intro p Z1 H1 v e1 hr
    simp only [bind_ok] at p
    cases hsh : share r S1 with
    | none => rw [hsh] at p; exact p.elim
    | some q =>
      obtain ⟨x, S2⟩ := q
      rw [hsh] at p
      simp only [bind_ok] at p
      obtain ⟨Z2, e2, R2, rep⟩ := share_ok hr hsh
      exact hk Z2 H1 x v S2 (e1.trans e2) R2 rep (p.mono (e1.trans e2))
section
variable {X : Cx} {W : WM} {i v : Expr} {mi mv : EM} {k : Nat} {x : Str} {p tpos pos : Pos}
theorem js_put (hi : JE X W i mi) (hv : JE X W v mv) (hN : X.N[k]? = some x := by rfl) (hx : Vis X.env.scope x := by first | exact Or.inl rfl | exact Or.inr (Or.inl rfl) | exact Or.inr (Or.inr rfl)) (hd : (x == ("__debug__" : Str)) = false := by decide) (hcd : (x == ("__classdict__" : Str)) = false := by decide)
    (ha : ∀ w, assign (.Subscript (.Name x p) i tpos) X.env w = (do
      let ov ← holding [w] (eval (.Name x p) X.env)
      let iv ← holding [w, ov] (eval i X.env)
      standAt tpos
      holding [w, ov, iv] (setItem ov iv w)
      release [w, ov, iv] []) := by intro _; rfl)
    (hs : swapsWithSole [.Subscript (.Name x p) i tpos] v pos.line X.env = pure false := by rfl) (hw : swappedStores [.Subscript (.Name x p) i tpos] v X.env = pure none := by rfl) (h1 : (assignEach [.Subscript (.Name x p) i tpos] X.env).map (·.2) = [assign (.Subscript (.Name x p) i tpos) X.env] := by rfl) :
    JS X W (.Assign [.Subscript (.Name x p) i tpos] v pos) (mPut k mi mv) :=
  ⟨PS.imp (ps_asg hv.run (pg_sub (pe_var hN hx hd hcd) hi.run set_list ha) hs hw h1) fun E σ H h => by
    obtain ⟨F, Z, B, S, R, q⟩ := h
    refine tD_runS R q fun Z2 H2 dx w S2 e2 R2 rep p2 => ?_
    simp only [putA] at p2
    by_cases ho : ownL S2 k = true
    · rw [ho] at p2
      obtain ⟨a, ha'⟩ := ownL_some R2 ho
      refine ⟨.ref a, ha', sc_runS (k := putB k dx) R2 p2 fun Z3 H3 di y S3 e3 R3 sy p3 => ?_⟩
      cases di with
      | int ii =>
        simp only [putB, putC] at p3
        cases hg : gt S3 k with
        | own b o =>
          cases o with
          | lst ds =>
            rw [hg] at p3
            dsimp only at p3
            obtain ⟨a', xs, g1, g2, g3, mk⟩ := R3.mutL hg
            rw [ha'] at g1
            cases g1
            cases hj : ixN ds.length ii with
            | none => rw [hj] at p3; exact p3.elim
            | some j =>
              rw [hj] at p3
              rw [scal_int sy]
              exact ⟨a, xs, ii, j, rfl, rfl, g2, by rw [g3.length]; exact hj, p3 Z3 σ _ (Ex.refl _) (mk _ _ (g3.set (rep.mono e3) j))⟩
          | dct es => rw [hg] at p3; exact p3.elim
        | no => rw [hg] at p3; exact p3.elim
        | d z => rw [hg] at p3; exact p3.elim
        | lent => rw [hg] at p3; exact p3.elim
      | _ => exact p3.elim
    · rw [Bool.not_eq_true] at ho
      rw [ho] at p2
      exact p2.elim⟩
end

/-! ### more methods of a list of our own -/
def oPopAt : D → List D → Option (D × List D) := fun x ds => match x with
  | .int i => if -1000000 ≤ i ∧ i ≤ 1000000 then (match seqIndex? i ds.length with
    | some k => (ds[k]?).map fun d => (d, ds.eraseIdx k)
    | none => none) else none
  | _ => none
theorem Reps.eraseIdx {Z : Hp} {vs : List V} {ds : List D} (h : Reps Z vs ds) : ∀ n : Nat, Reps Z (vs.eraseIdx n) (ds.eraseIdx n) := by
  intro n
  induction n generalizing vs ds with
  | zero => cases h with
    | nil => exact .nil
    | cons a b => exact b
  | succ n ih => cases h with
    | nil => exact .nil
    | cons a b => exact .cons a (ih b)
theorem own_popAt : Own1 rPopAt oPopAt := fun Z H a xs ds v d rd ds' Q hx h1 h2 h3 h4 k => by
  cases d with
  | int i =>
    simp only [oPopAt] at h4
    split at h4
    · rename_i hi
      cases hs : seqIndex? i ds.length with
      | none => rw [hs] at h4; cases h4
      | some j =>
        rw [hs] at h4
        dsimp only at h4
        cases hd : ds[j]? with
        | none => rw [hd] at h4; cases h4
        | some d =>
          rw [hd] at h4
          cases h4
          obtain ⟨w, h5, h6⟩ := h2.get hd
          rw [view_int (Rep.view hx h3)]
          exact ⟨a, xs, i, j, w, rfl, rfl, h1, by omega, by omega, by rw [h2.length]; exact hs, h5, k w _ h6 (h2.eraseIdx j)⟩
    · cases h4
  | _ => cases h4
def oExt : D → List D → Option (D × List D) := fun x ds => match x with
  | .list es => if ds.length + es.length ≤ lim then some (.none, ds ++ es) else none
  | _ => none
theorem own_ext : Own1 rExtend oExt := fun Z H a xs ds v d rd ds' Q hx h1 h2 h3 h4 k => by
  cases d with
  | list es =>
    simp only [oExt] at h4
    split at h4
    · rename_i hl
      cases h4
      cases h3 with
      | lst h5 h6 => exact ⟨a, _, xs, _, rfl, rfl, h1, hx _ _ h5, by rw [h2.length, h6.length]; exact lim_le hl, k .non _ .non (h2.append h6)⟩
    · cases h4
  | _ => cases h4
abbrev rIns : V → List V → Hp → VK → Prop := fun x vs H Q => ∃ (l : Addr) (xs : List V) (i : Int) (y : V), x = .ref l ∧ vs = [.int i, y] ∧ H l = some (.lst xs) ∧ xs.length < sizeLine ∧ 0 ≤ i ∧ i < 2 ^ 63 ∧ Q .non (upd H l (.lst (xs.take i.toNat ++ [y] ++ xs.drop i.toNat)))
def oIns : D → D → List D → Option (D × List D) := fun x y ds => match x with
  | .int i => if 0 ≤ i ∧ i ≤ 1000000 ∧ ds.length < lim then some (.none, ds.take i.toNat ++ [y] ++ ds.drop i.toNat) else none
  | _ => none
theorem own_ins : Own2 rIns oIns := fun Z H a xs ds v v2 d d2 rd ds' Q h1 h2 h3 h3' h4 k => by
  cases d with
  | int i =>
    simp only [oIns] at h4
    split at h4
    · rename_i hi
      cases h4
      cases h3
      exact ⟨a, xs, i, v2, rfl, rfl, h1, lim_lt (by rw [h2.length]; exact hi.2.2), hi.1, by omega, k .non _ .non (((h2.take _).append (.cons h3' .nil)).append (h2.drop _))⟩
    · cases h4
  | _ => cases h4
end Ev

namespace Ev
open PySem PySem.Spec L2
open AutoSeq1 (wpAny_loadPart')

theorem tupmul_same (l : Addr) (items : Array Value) (n : Nat) (dd : Option Addr) (sl : Array (Option Value)) (x : Int) (u : Tok) (z0 : (decide (x < -(2 ^ 63)) || decide (x ≥ 2 ^ 63)) = false) (z1 : (items.isEmpty || x == 1) = true) :
    Meets (Builtin.«tuple.__mul__» ⟨[.ref l, .int x u], []⟩) (fun _ R s => s.heap.get? l = some { cls := .type "tuple", dict := dd, data := .seq items n, slots := sl } ∧ R (.ok (.ret (.ref l))) s) :=
  .of_wp fun prog w A R s hs => by
    obtain ⟨hp, gg, ddn, tk, oo⟩ := s
    obtain ⟨hl, hR⟩ := hs
    have f1 := AutoSeq1.idx_int
    wp_walk using wpAny_loadPart' hl
    refine wpAny_ite_false (decide_eq_false (by rw [z0]; exact Bool.false_ne_true)) ?_
    wp_walk using wpAny_loadPart' hl
    exact ⟨_, rfl, hR⟩
theorem tupmul_zero (l : Addr) (items : Array Value) (n : Nat) (dd : Option Addr) (sl : Array (Option Value)) (x : Int) (u : Tok) (z0 : (decide (x < -(2 ^ 63)) || decide (x ≥ 2 ^ 63)) = false) (z1 : (items.isEmpty || x == 1) = false) (z2 : (decide (x ≤ 0) || items.isEmpty) = true) :
    Meets (Builtin.«tuple.__mul__» ⟨[.ref l, .int x u], []⟩) (fun _ R s => s.heap.get? l = some { cls := .type "tuple", dict := dd, data := .seq items n, slots := sl } ∧
      R (.ok (.ret (Value.ref s.heap.objs.size))) { s with heap := s.heap.push { cls := Value.type "tuple", data := Data.seq #[] }, toks := s.toks }) :=
  .of_wp fun prog w A R s hs => by
    obtain ⟨hp, gg, ddn, tk, oo⟩ := s
    obtain ⟨hl, hR⟩ := hs
    have f1 := AutoSeq1.idx_int
    wp_walk using wpAny_loadPart' hl
    refine wpAny_ite_false (decide_eq_false (by rw [z0]; exact Bool.false_ne_true)) ?_
    wp_walk using wpAny_loadPart' hl
    repeat (first
      | (refine wpAny_ite_false (decide_eq_false (by rw [z1]; exact Bool.false_ne_true)) ?_; wp_walk using wpAny_loadPart' hl)
      | (refine wpAny_ite_true (decide_eq_true z2) ?_; wp_walk using wpAny_loadPart' hl))
    exact ⟨_, rfl, hR⟩
def rTimes (K : PySem.W.Frag) : R2 := fun x y H Q => ∃ l k xs, x = .ref l ∧ y = .int k ∧ SqT K H l xs ∧ -1000 ≤ k ∧ k ≤ 1000 ∧ xs.length ≤ 1000 ∧ ((xs = [] ∨ k = 1) → Q (.ref l) H) ∧ (xs ≠ [] → k ≤ 0 → ∀ p, H p = none → Q (.ref p) (upd H p (.tup []))) ∧
  (xs ≠ [] → 2 ≤ k → ∀ p, H p = none → Q (.ref p) (upd H p (.tup (List.replicate k.toNat xs).flatten)))
theorem op_times {X : Cx} : OpR X (binaryOp .Mult) (rTimes X.K) := by
  intro pins s σ H x y v u Q I rx ry ⟨l, k, xs, ex, ey, hT, k0, k1, hz, q1, q2, q3⟩
  subst ex ey
  by_cases hsame : xs = [] ∨ k = 1
  · cases rx
    obtain ⟨t, rfl⟩ := ry
    obtain ⟨its, r, ⟨⟨cls, dd, data, sl⟩, ho, hc, n, hd⟩, hs⟩ := I.tuple hT
    simp only at hc hd
    subst hc hd
    have z0 : (decide (k < -(2 ^ 63)) || decide (k ≥ 2 ^ 63)) = false := by
      rw [decide_eq_false (by omega), decide_eq_false (by omega)]; rfl
    have z1 : (its.toArray.isEmpty || k == 1) = true := by
      rcases hsame with e | e
      · subst e
        cases r
        rfl
      · subst e
        simp
    exact wpAny_binaryOp_repeat_ref (T := "tuple") (U := "int") (by decide) ⟨_, ho, rfl⟩ (fun s' => typeIs_int s' k t) noFill_tuple_mul F.fills_int_mul F.slot_int_rmul repeat_tuple F.slot_int_index.lookup
      (call_meets F.slot_int_rmul (typeIs_int s k t) F.entry_int_rmul (F.args_int_rmul_2 _ _) (int_rmul_tuple k t l its.toArray n dd sl)
        ⟨ho, rfl, ⟨_, ho, rfl⟩, call_meets F.slot_tuple_mul ⟨_, ho, rfl⟩ F.entry_tuple_mul (F.args_tuple_mul_2 _ _) (tupmul_same l its.toArray n dd sl k t z0 z1) ⟨ho, ⟨.ref l, H, I, rfl, q1 hsame⟩⟩⟩)
  · have hne : xs ≠ [] := fun e => hsame (.inl e)
    by_cases hk : k ≤ 0
    · cases rx
      obtain ⟨t, rfl⟩ := ry
      obtain ⟨its, r, ⟨⟨cls, dd, data, sl⟩, ho, hc, n, hd⟩, hs⟩ := I.tuple hT
      simp only at hc hd
      subst hc hd
      have z0 : (decide (k < -(2 ^ 63)) || decide (k ≥ 2 ^ 63)) = false := by
        rw [decide_eq_false (by omega), decide_eq_false (by omega)]; rfl
      have hi : its.toArray.isEmpty = false := by
        cases its with
        | nil => cases r; exact absurd rfl hne
        | cons a b => rfl
      have z1 : (its.toArray.isEmpty || k == 1) = false := by
        rw [hi, Bool.false_or]
        exact beq_eq_false_iff_ne.mpr (by omega)
      have z2 : (decide (k ≤ 0) || its.toArray.isEmpty) = true := by rw [decide_eq_true hk]; rfl
      refine wpAny_binaryOp_repeat_ref (T := "tuple") (U := "int") (by decide) ⟨_, ho, rfl⟩ (fun s' => typeIs_int s' k t) noFill_tuple_mul F.fills_int_mul F.slot_int_rmul repeat_tuple F.slot_int_index.lookup
        (call_meets F.slot_int_rmul (typeIs_int s k t) F.entry_int_rmul (F.args_int_rmul_2 _ _) (int_rmul_tuple k t l its.toArray n dd sl)
          ⟨ho, rfl, ⟨_, ho, rfl⟩, call_meets F.slot_tuple_mul ⟨_, ho, rfl⟩ F.entry_tuple_mul (F.args_tuple_mul_2 _ _) (tupmul_zero l its.toArray n dd sl k t z0 z1 z2) ⟨ho, ?_⟩⟩)
      refine ⟨.ref s.heap.objs.size, _, I.laid (t' := s.toks) (o := .tup []) (fun b ob q => Heap.get?_push_of_some _ q) (Nat.le_refl _) ?_, rfl, q2 hne hk _ (I.hok.fresh (Nat.le_refl _))⟩
      exact ⟨Nat.zero_le _, [], .nil, PyProof.Rows.IsTup.new _ _⟩
    · have hk2 : 2 ≤ k := by
        have : k ≠ 1 := fun e => hsame (.inr e)
        omega
      exact op_repT pins s σ H _ _ v u Q I rx ry ⟨l, k, xs, rfl, rfl, hT, hne, hk2, k1, hz, q3 hne hk2⟩
def gMulT (x y : D) : Option Rs := match y with
  | .int j => (match x with
    | .tuple xs => if -1000 ≤ j ∧ j ≤ 1000 ∧ xs.length ≤ 1000 then some (.d (.tuple (List.replicate j.toNat xs).flatten)) else none
    | x => gMul x (.int j))
  | _ => none
theorem ok_mulT {X : Cx} : OpOk X (binaryOp .Mult) gMulT := by
  intro pins s σ H x y v u Q F Z B S dx dy r I rx ry R vx vy hg q
  cases dy with
  | int j =>
    cases dx with
    | tuple xs =>
      simp only [gMulT] at hg
      split at hg
      · rename_i hc
        cases hg
        rw [view_int vy] at ry
        have vx' := vx
        obtain ⟨a, ys, rfl, h1, h2⟩ := view_tup vx
        refine op_times pins s σ H _ _ v u Q I rx ry ⟨a, j, ys, rfl, rfl, SqT.of (R.exZ _ _ h1), hc.1, hc.2.1, by rw [h2.length]; exact hc.2.2, fun hs => ?_, fun hne hk p hp => ?_, fun hne hk p hp => q _ _ _ (Ex.new (R.exZ.free hp)) (ResOk.tup R hp (reps_rep h2 _))⟩
        · have e : (List.replicate j.toNat xs).flatten = xs := by
            rcases hs with e | e
            · subst e
              cases h2
              simp
            · subst e
              simp
          rw [e] at q
          exact q Z H _ (Ex.refl Z) ⟨R, vx'⟩
        · have e : (List.replicate j.toNat xs).flatten = [] := by
            have : j.toNat = 0 := by omega
            rw [this]; rfl
          rw [e] at q
          exact q _ _ _ (Ex.new (R.exZ.free hp)) (ResOk.tup R hp .nil)
      · cases hg
    | none => cases hg
    | bool b => cases hg
    | int b => exact ok_mul pins s σ H x y v u Q F Z B S _ _ r I rx ry R vx vy hg q
    | str b => cases hg
    | list b => exact ok_mul pins s σ H x y v u Q F Z B S _ _ r I rx ry R vx vy hg q
    | dict b => cases hg
  | none => cases hg
  | bool b => cases hg
  | str b => cases hg
  | list b => cases hg
  | tuple b => cases hg
  | dict b => cases hg
end Ev

namespace Ev
open PySem PySem.Spec L2
/-! ### evaluation, continued -/
section
variable {S S1 S2 : Sg} {a b c m : EM} {g g2 : D → D → Option Rs} {x y : D} {r : Rs} {k : Nat} {ds xs : List D} {i j : Int} {s z : Str}
theorem x_sc : mSc m S = (m S).bind scK := rfl
theorem x_scK : scK r S = scC (peek S r) S := rfl
theorem x_scC1 : scC (some (.int i)) S = .ok (.int i) S := rfl
theorem x_scC2 : scC (some (.str s)) S = .ok (.str s) S := rfl
theorem x_scC3 : scC (some .none) S = .ok .none S := rfl
theorem x_scC4 {e : Bool} : scC (some (.bool e)) S = .ok (.bool e) S := rfl
theorem x_ch : mChain g g2 a b c S = (mSc a S).bind (chA g g2 b c) := rfl
theorem x_chA : chA g g2 b c x S = (mSc b S).bind (chB g g2 c x) := rfl
theorem x_chB : chB g g2 c x y S = chC g2 c y (g x y) S := rfl
theorem x_chT : chC g2 c y (some (.d (.bool true))) S = (mSc c S).bind (chC2 g2 y) := rfl
theorem x_chF : chC g2 c y (some (.d (.bool false))) S = .ok (.d (.bool false)) S := rfl
theorem x_chC2 : chC2 g2 x y S = ofO (g2 x y) S := rfl
theorem x_eqI1 : gEqI (.int i) (.int j) = some (.d (.bool (decide (i = j)))) := rfl
theorem x_eqI2 : gEqI .none (.int j) = some (.d (.bool false)) := rfl
theorem x_eqI3 : gEqI (.str s) (.str z) = some (.d (.bool (s == z))) := rfl
theorem x_rgT : mRgT a b S = (mSc a S).bind (rgTA b) := rfl
theorem x_rgL : mRgL a b S = (mSc a S).bind (rgLA b) := rfl
theorem x_rgTA : rgTA b x S = (mSc b S).bind (rgTB x) := rfl
theorem x_rgLA : rgLA b x S = (mSc b S).bind (rgLB x) := rfl
theorem x_rgTB : rgTB x y S = rgTC (rgN x y) S := rfl
theorem x_rgLB : rgLB x y S = rgLC (rgN x y) S := rfl
theorem x_rgTC : rgTC (some xs) S = .ok (.d (.tuple xs)) S := rfl
theorem x_rgLC : rgLC (some xs) S = .ok (.tmp (.lst xs)) S := rfl
theorem x_rgT1 : mRgT1 a S = (mSc a S).bind (rgTB (.int 0)) := rfl
theorem x_rgL1 : mRgL1 a S = (mSc a S).bind (rgLB (.int 0)) := rfl
theorem x_rgN (h : -4611686018427387904 ≤ i ∧ i < 4611686018427387904 ∧ -4611686018427387904 ≤ j ∧ j < 4611686018427387904 ∧ (j - i).toNat ≤ lim) : rgN (.int i) (.int j) = some (intsD i 1 (j - i).toNat) := if_pos h
theorem x_enum {w : DM} : mEnum w S = (w S).bind enuK := rfl
theorem x_enuL : enuK [.list xs] S = .ok (numD 0 xs, none) S := rfl
theorem x_enuT : enuK [.tuple xs] S = .ok (numD 0 xs, none) S := rfl
theorem x_put : mPut k a b S = (mD b S).bind (putA k a) := rfl
theorem x_putA : putA k a x S = putO (ownL S k) ((mSc a S).bind (putB k x)) := rfl
theorem x_putO {o : Out Fl} : putO true o = o := rfl
theorem x_putB : putB k x (.int i) S = putC k x i S (gt S k) := rfl
theorem x_putC {e : Bool} : putC k x i S (.own e (.lst ds)) = putS e k x ds (ixN ds.length i) S := rfl
theorem x_putS {e : Bool} {n : Nat} : putS e k x ds (some n) S = .ok .nx (S.set k (.own e (.lst (ds.set n x)))) := rfl
theorem x_mulT : gMulT (.int i) (.int j) = gMul (.int i) (.int j) := rfl
theorem x_mulL : gMulT (.list xs) (.int j) = gMul (.list xs) (.int j) := rfl
theorem x_mulTT (h : -1000 ≤ j ∧ j ≤ 1000 ∧ xs.length ≤ 1000) : gMulT (.tuple xs) (.int j) = some (.d (.tuple (List.replicate j.toNat xs).flatten)) := if_pos h
theorem x_sorted {ns : List Int} : gSorted [.list (ns.map PyData.int)] = some (.tmp (.lst ((srtI ns).map PyData.int))) := by simp [gSorted, intsOf_map]
theorem fine_map (n : Nat) (ns : List Int) : (ns.map PyData.int).all (fineN n) = true := by
  refine List.all_eq_true.mpr fun x hx => ?_
  obtain ⟨i, _, rfl⟩ := List.mem_map.mp hx
  exact fineN_int _ _
theorem eqv_int (n i : Int) : PyData.eqv (.int n) (.int i) = (n == i) := by simp [PyData.eqv]
theorem any_eqv (i : Int) : ∀ ns : List Int, ((ns.map PyData.int).any fun z => PyData.eqv z (.int i)) = ns.contains i
  | [] => rfl
  | n :: ns => by
    rw [List.map_cons, List.any_cons, any_eqv i ns, List.contains_cons]
    have e : PyData.eqv (.int n) (.int i) = (i == n) := by
      rw [eqv_int, Bool.eq_iff_iff, beq_iff_eq, beq_iff_eq]
      exact eq_comm
    rw [e]
theorem x_inT {ns : List Int} : gIn false (.int i) (.tuple (ns.map PyData.int)) = some (.d (.bool (ns.contains i))) := by simp only [gIn, fineN_int, fine_map, Bool.and_self, if_true, any_eqv, Bool.false_eq_true, if_false]
theorem x_niT {ns : List Int} : gIn true (.int i) (.tuple (ns.map PyData.int)) = some (.d (.bool (!ns.contains i))) := by simp only [gIn, fineN_int, fine_map, Bool.and_self, if_true, any_eqv]
theorem x_inL {ns : List Int} : gIn false (.int i) (.list (ns.map PyData.int)) = some (.d (.bool (ns.contains i))) := by simp only [gIn, fineN_int, fine_map, Bool.and_self, if_true, any_eqv, Bool.false_eq_true, if_false]
theorem x_niL {ns : List Int} : gIn true (.int i) (.list (ns.map PyData.int)) = some (.d (.bool (!ns.contains i))) := by simp only [gIn, fineN_int, fine_map, Bool.and_self, if_true, any_eqv]
theorem fine_tupI (n : Nat) (ns : List Int) : fineN (n + 1) (.tuple (ns.map PyData.int)) = true := by rw [fineN_tup]; exact fine_map n ns
theorem x_eq0 {ns : List Int} : gEq false (.tuple (ns.map PyData.int)) (.tuple []) = some (.d (.bool ns.isEmpty)) := by
  have h1 := fine_tupI 63 ns
  have h2 := fine_tupI 63 []
  rw [List.map_nil] at h2
  simp only [gEq, h1, h2, Bool.and_self, if_true, Bool.false_eq_true, if_false]
  cases ns <;> simp [PyData.eqv, PyData.eqvAll]
theorem x_eqII : gEq false (.int i) (.int j) = some (.d (.bool (decide (i = j)))) := by
  simp only [gEq, fineN_int, Bool.and_self, if_true, Bool.false_eq_true, if_false]
  simp [PyData.eqv]
  rw [Bool.eq_iff_iff]; simp
theorem x_neII : gEq true (.int i) (.int j) = some (.d (.bool (!decide (i = j)))) := by
  simp only [gEq, fineN_int, Bool.and_self, if_true]
  simp [PyData.eqv]
  rw [Bool.eq_iff_iff]; simp
theorem at_nat {α : Type} {xs : List α} {j : Nat} {v : α} (h : xs[j]? = some v) : atI xs (j : Int) = some v := by
  have hj : j < xs.length := (List.getElem?_eq_some_iff.mp h).1
  unfold atI ixN
  rw [if_pos (by omega), if_pos (by omega)]
  simpa using h
theorem x_at0 {α : Type} {v : α} {l : List α} : atI (v :: l) 0 = some v := at_nat (j := 0) rfl
theorem x_at1 {α : Type} {u v : α} {l : List α} : atI (u :: v :: l) 1 = some v := at_nat (j := 1) rfl
theorem x_at2 {α : Type} {t u v : α} {l : List α} : atI (t :: u :: v :: l) 2 = some v := at_nat (j := 2) rfl
end
end Ev

namespace Lw
open PySem PySem.Spec L2 Ev
def topS (i : Nat) : Stmt := PySem.Challenge.pw_skittlehall_k05_whole_turns.main.body.getD i (.Pass ⟨0, 0, 0, 0⟩)
abbrev s_pins_of : Stmt := topS 1
abbrev s_all_pins : Stmt := topS 2
abbrev s_extra_for : Stmt := topS 4
abbrev s_begun : Stmt := topS 5
abbrev s_gone_on : Stmt := topS 6
abbrev s_walked : Stmt := topS 7
abbrev s_standing : Stmt := topS 8
abbrev s_is_over : Stmt := topS 9
abbrev s_kind_of : Stmt := topS 10
abbrev s__law_same : Stmt := topS 12
abbrev s__law_draw : Stmt := topS 13
abbrev s__law_pick : Stmt := topS 14
abbrev s__law_drawn_rules : Stmt := topS 15
abbrev s__law_every : Stmt := topS 16
abbrev s__law_few : Stmt := topS 17
abbrev s__law_drawn_throw : Stmt := topS 18
abbrev s__law_walked : Stmt := topS 19
abbrev s__law_kind : Stmt := topS 20
abbrev s_law : Stmt := topS 21
def mb_pins_of : SM :=
  (mRet (mBin gDiv (mBin gMulT (mBin gIx (mV 0) (mC (.int 0))) (mBin gAdd (mBin gIx (mV 0) (mC (.int 0))) (mC (.int 1)))) (mC (.int 2))))
def f_pins_of : FM := fnM 1 1 mb_pins_of
def mb_all_pins : SM :=
  (mRet (mRgT (mC (.int 1)) (mBin gAdd (mCall f_pins_of (aLast (mV 0))) (mC (.int 1)))))
def f_all_pins : FM := fnM 1 1 mb_all_pins
def mb_extra_for : SM :=
  (mSeq (mIte (mOr (mNot (mTruth (mV 2))) (mOr (mNot (mTruth (mV 0))) (asB (mBin gGt (mV 1) (mC (.int 2)))))) (mRet (mC (.int 0))) mNx)
  (mRet (mBin gSub (mC (.int 3)) (mV 1))))
def f_extra_for : FM := fnM 3 3 mb_extra_for
def mb_begun : SM :=
  (mRet (mTup (dCons (mCall f_all_pins (aLast (mV 0))) (dCons (mC (.int 0)) (dCons (mUn gNeg (mC (.int 1))) dNil)))))
def f_begun : FM := fnM 1 1 mb_begun
def ce1_gone_on (S : Sg) : Out Rs :=
  (mV 7) S
def ct2_gone_on (S : Sg) : Out Bool :=
  (asB (mBin (gIn true) (mV 7) (mBin gIx (mV 2) (mC (.int 0))))) S
def mb_gone_on : SM :=
  (mSeq (mAsg (gTupM [(setD 4), (setD 5), (setD 6)]) (mV 1))
  (mSeq (mSet 5 (mBin gAdd (mV 5) (mC (.int 1))))
  (mSeq (mIte (mNot (mTruth (mBin gIx (mV 2) (mC (.int 1))))) (mSet 4 (mBi gTuple (fLast (mComp (mIter (mV 4)) (setD 7) ct2_gone_on ce1_gone_on [7])))) mNx)
  (mSeq (mIte (asB (mBin gGt (mV 6) (mC (.int 0)))) (mSet 6 (mBin gSub (mV 6) (mC (.int 1)))) (mIte (mOr (mNot (mTruth (mV 4))) (asB (mBin (gEq false) (mV 5) (mBin gIx (mV 0) (mC (.int 1)))))) (mSet 6 (mCall f_extra_for (aCons (mNotV (mV 4)) (aCons (mV 5) (aLast (mV 3)))))) mNx))
  (mSeq (mIte (mAnd (asB (mBin gGt (mV 6) (mC (.int 0)))) (mNot (mTruth (mV 4)))) (mSet 4 (mCall f_all_pins (aLast (mV 0)))) mNx)
  (mRet (mTup (dCons (mV 4) (dCons (mV 5) (dCons (mV 6) dNil))))))))))
def f_gone_on : FM := fnM 4 8 mb_gone_on
def lp1_walked (S : Sg) : Out Fl :=
  (mSet 3 (mCall f_gone_on (aCons (mV 0) (aCons (mV 3) (aCons (mV 4) (aLast (mV 2))))))) S
def mb_walked : SM :=
  (mSeq (mSet 3 (mCall f_begun (aLast (mV 0))))
  (mSeq (mFor (mIter (mV 1)) (setD 4) lp1_walked)
  (mRet (mV 3))))
def f_walked : FM := fnM 3 5 mb_walked
def mb_standing : SM :=
  (mRet (mBin gIx (mCall f_walked (aCons (mV 0) (aCons (mV 1) (aLast (mV 2))))) (mC (.int 0))))
def f_standing : FM := fnM 3 3 mb_standing
def mb_is_over : SM :=
  (mRet (mBin (gEq false) (mBin gIx (mCall f_walked (aCons (mV 0) (aCons (mV 1) (aLast (mV 2))))) (mC (.int 2))) (mC (.int 0))))
def f_is_over : FM := fnM 3 3 mb_is_over
def lp1_kind_of (S : Sg) : Out Fl :=
  (mIte (asB (mBin (gEq true) (mBin gIx (mV 2) (mC (.int 2))) (mC (.int 0)))) (mSet 2 (mCall f_gone_on (aCons (mV 0) (aCons (mV 2) (aCons (mV 3) (aLast (mC (.bool false)))))))) mNx) S
def mb_kind_of : SM :=
  (mSeq (mSet 2 (mCall f_begun (aLast (mV 0))))
  (mSeq (mFor (mIter (mV 1)) (setD 3) lp1_kind_of)
  (mSeq (mIte (asB (mBin (gEq true) (mBin gIx (mV 2) (mC (.int 2))) (mC (.int 0)))) (mRet (mC .none)) mNx)
  (mSeq (mIte (mTruth (mBin gIx (mV 2) (mC (.int 0)))) (mRet (mC (.str "open"))) mNx)
  (mRet (mBin gIx (mTup (dCons (mC (.str "strike")) (dCons (mC (.str "spare")) (dCons (mC (.str "late")) dNil)))) (mBin gSub (mBin gIx (mV 2) (mC (.int 1))) (mC (.int 1)))))))))
def f_kind_of : FM := fnM 2 4 mb_kind_of
def ce1__law_same (rec : FM) (S : Sg) : Out Rs :=
  (mCall rec (aCons (mV 2) (aLast (mV 3)))) S
def mb__law_same (rec : FM) : SM :=
  (mSeq (mIte (asB (mBin (gIs false) (mV 1) (mC .none))) (mRet (mBin (gIs false) (mV 0) (mC .none))) mNx)
  (mSeq (mIte (mTruth (mIsi .bool (mV 1))) (mRet (mAndV (mIsi .bool (mV 0)) (mBin (gEq false) (mV 0) (mV 1)))) mNx)
  (mSeq (mIte (mTruth (mIsi .tuple (mV 1))) (mSeq (mIte (mOr (mNot (mTruth (mIsi .tuple (mV 0)))) (asB (mBin (gEq true) (mBi gLen (fLast (mV 0))) (mBi gLen (fLast (mV 1)))))) (mRet (mC (.bool false))) mNx)
  (mRet (mBi gAll (fLast (mComp (mZip (dCons (mV 0) (dCons (mV 1) dNil))) (gTupM [(setD 2), (setD 3)]) tYesM (ce1__law_same rec) [2, 3]))))) mNx)
  (mSeq (mIte (mTruth (mIsi .str (mV 1))) (mRet (mAndV (mIsi .str (mV 0)) (mBin (gEq false) (mV 0) (mV 1)))) mNx)
  (mRet (mAndV (mIsi .int (mV 0)) (mAndV (mNotV (mIsi .bool (mV 0))) (mBin (gEq false) (mV 0) (mV 1)))))))))
def f__law_same : Nat → FM
  | 0 => fun _ => .st
  | k + 1 => fnM 2 4 (mb__law_same (f__law_same k))
def mb__law_draw : SM :=
  (mSeq (mDrop (mOwn1 1 oApp (mC (.int 0))))
  (mSeq (mSet 3 (mBi gLen (fLast (mV 1))))
  (mSeq (mSet 4 (mC (.int 0)))
  (mSeq (mIte (mTruth (mV 0)) (mSet 4 (mBin gIx (mV 0) (mBin gMod (mV 3) (mBi gLen (fLast (mV 0)))))) mNx)
  (mSeq (mSet 5 (mBin gMod (mBin gAdd (mV 4) (mBin gMulT (mC (.int 104729)) (mV 3))) (mC (.int 4294967291))))
  (mSeq (mSet 5 (mBin gMod (mBin gMulT (mBin gMod (mBin gMulT (mV 5) (mV 5)) (mC (.int 4294967279))) (mC (.int 48271))) (mC (.int 4294967291))))
  (mSeq (mSet 6 (mBin gMod (mBin gMulT (mBin gMod (mBin gMulT (mV 5) (mV 5)) (mC (.int 4294967279))) (mC (.int 69621))) (mC (.int 4294967291))))
  (mRet (mBin gMod (mBin gAdd (mBin gMulT (mBin gDiv (mV 5) (mC (.int 64))) (mC (.int 67108864))) (mBin gDiv (mV 6) (mC (.int 64)))) (mV 2))))))))))
def f__law_draw : FM := fnM 3 7 mb__law_draw
def mb__law_pick : SM :=
  (mRet (mBin gIx (mV 2) (mCall f__law_draw (aCons (mV 0) (aCons (mV 1) (aLast (mBi gLen (fLast (mV 2)))))))))
def f__law_pick : FM := fnM 3 3 mb__law_pick
def mb__law_drawn_rules : SM :=
  (mSeq (mPar [2, 3] (pCons (mCall f__law_pick (aCons (mV 0) (aCons (mV 1) (aLast (mLst (dCons (mC (.int 1)) (dCons (mC (.int 2)) (dCons (mC (.int 2)) (dCons (mC (.int 3)) (dCons (mC (.int 3)) (dCons (mC (.int 4)) (dCons (mC (.int 4)) dNil)))))))))))) (pCons (mCall f__law_pick (aCons (mV 0) (aCons (mV 1) (aLast (mLst (dCons (mC (.int 1)) (dCons (mC (.int 2)) (dCons (mC (.int 3)) (dCons (mC (.int 4)) (dCons (mC (.int 5)) (dCons (mC (.int 10)) (dCons (mC (.int 12)) dNil)))))))))))) pNil)))
  (mRet (mTup (dCons (mV 2) (dCons (mBin gAdd (mC (.int 2)) (mCall f__law_draw (aCons (mV 0) (aCons (mV 1) (aLast (mC (.int 2))))))) (dCons (mV 3) dNil))))))
def f__law_drawn_rules : FM := fnM 2 4 mb__law_drawn_rules
def mb__law_every : SM :=
  (mRet (mRgT (mC (.int 1)) (mBin gAdd (mBin gDiv (mBin gMulT (mBin gIx (mV 0) (mC (.int 0))) (mBin gAdd (mBin gIx (mV 0) (mC (.int 0))) (mC (.int 1)))) (mC (.int 2))) (mC (.int 1)))))
def f__law_every : FM := fnM 1 1 mb__law_every
def ce1__law_few (S : Sg) : Out Rs :=
  (mV 4) S
def ct2__law_few (S : Sg) : Out Bool :=
  (asB (mBin (gEq false) (mCall f__law_draw (aCons (mV 0) (aCons (mV 1) (aLast (mC (.int 2)))))) (mC (.int 0)))) S
def mb__law_few : SM :=
  (mSeq (mSet 3 (mCall f__law_draw (aCons (mV 0) (aCons (mV 1) (aLast (mC (.int 7)))))))
  (mSeq (mIte (asB (mBin gLt (mV 3) (mC (.int 2)))) (mRet (mBin gMulT (mV 2) (mV 3))) mNx)
  (mSeq (mIte (asB (mBin (gEq false) (mV 3) (mC (.int 2)))) (mRet (mV 2)) mNx)
  (mRet (mBi gTuple (fLast (mComp (mIter (mV 2)) (setD 4) ct2__law_few ce1__law_few [4])))))))
def f__law_few : FM := fnM 3 5 mb__law_few
def mb__law_drawn_throw : SM :=
  (mRet (mTup (dCons (mCall f__law_few (aCons (mV 0) (aCons (mV 1) (aLast (mV 2))))) (dCons (mBin (gEq false) (mCall f__law_draw (aCons (mV 0) (aCons (mV 1) (aLast (mC (.int 8)))))) (mC (.int 0))) dNil))))
def f__law_drawn_throw : FM := fnM 3 3 mb__law_drawn_throw
def ce1__law_walked (S : Sg) : Out Rs :=
  (mV 7) S
def ct2__law_walked (S : Sg) : Out Bool :=
  (asB (mBin (gIn true) (mV 7) (mBin gIx (mV 6) (mC (.int 0))))) S
def lp3__law_walked (S : Sg) : Out Fl :=
  (mSeq (mIte (mNot (mTruth (mBin gIx (mV 6) (mC (.int 1))))) (mSet 3 (mBi gTuple (fLast (mComp (mIter (mV 3)) (setD 7) ct2__law_walked ce1__law_walked [7])))) mNx)
  (mSeq (mIte (mAnd (asB (mBin (gIs false) (mV 4) (mC .none))) (mOr (asB (mBin (gEq false) (mV 3) (mTup dNil))) (asB (mBin (gEq false) (mBin gAdd (mV 5) (mC (.int 1))) (mBin gIx (mV 0) (mC (.int 1))))))) (mSet 4 (mIte (mAnd (mTruth (mV 2)) (asB (mBin (gEq false) (mV 3) (mTup dNil)))) (mC (.int 3)) (mBin gAdd (mV 5) (mC (.int 1))))) mNx)
  (mIte (mAnd (asB (mBin (gEq false) (mV 3) (mTup dNil))) (mAnd (asB (mBin (gEq false) (mV 4) (mC (.int 3)))) (mAnd (mTruth (mV 2)) (asB (mBin gLt (mV 5) (mC (.int 2))))))) (mSet 3 (mCall f__law_every (aLast (mV 0)))) mNx))) S
def mb__law_walked : SM :=
  (mSeq (mPar [3, 4] (pCons (mCall f__law_every (aLast (mV 0))) (pCons (mC .none) pNil)))
  (mSeq (mFor (mEnum (dCons (mV 1) dNil)) (gTupM [(setD 5), (setD 6)]) lp3__law_walked)
  (mRet (mTup (dCons (mV 3) (dCons (mChain gEqI gGt (mV 4) (mBi gLen (fLast (mV 1))) (mC (.int 0))) dNil))))))
def f__law_walked : FM := fnM 3 8 mb__law_walked
def ce1__law_kind (S : Sg) : Out Rs :=
  (mV 5) S
def ct2__law_kind (S : Sg) : Out Bool :=
  (asB (mBin (gIn true) (mV 5) (mBin gIx (mV 4) (mC (.int 0))))) S
def lp3__law_kind (S : Sg) : Out Fl :=
  (mSeq (mIte (mNot (mTruth (mBin gIx (mV 4) (mC (.int 1))))) (mSet 2 (mBi gTuple (fLast (mComp (mIter (mV 2)) (setD 5) ct2__law_kind ce1__law_kind [5])))) mNx)
  (mIte (asB (mBin (gEq false) (mV 2) (mTup dNil))) (mRet (mBin gIx (mLst (dCons (mC (.str "strike")) (dCons (mC (.str "spare")) (dCons (mC (.str "late")) dNil)))) (mV 3))) mNx)) S
def mb__law_kind : SM :=
  (mSeq (mSet 2 (mCall f__law_every (aLast (mV 0))))
  (mSeq (mFor (mEnum (dCons (mSl gSl (mV 1) oNo (oInt (mBin gIx (mV 0) (mC (.int 1))))) dNil)) (gTupM [(setD 3), (setD 4)]) lp3__law_kind)
  (mRet (mIte (asB (mBin gGe (mBi gLen (fLast (mV 1))) (mBin gIx (mV 0) (mC (.int 1))))) (mC (.str "open")) (mC .none)))))
def f__law_kind : FM := fnM 2 6 mb__law_kind
def wc1_law (S : Sg) : Out Bool :=
  (mNot (mTruth (mV 6))) S
def wb2_law (S : Sg) : Out Fl :=
  (mSeq (mSet 5 (mBin gAdd (mV 5) (mTup (dCons (mCall f__law_drawn_throw (aCons (mV 0) (aCons (mV 1) (aLast (mBin gIx (mCall f__law_walked (aCons (mV 3) (aCons (mV 5) (aLast (mV 4))))) (mC (.int 0))))))) dNil))))
  (mSeq (mAsg (gTupM [(setD 7), (setD 6)]) (mCall f__law_walked (aCons (mV 3) (aCons (mV 5) (aLast (mV 4))))))
  (mSeq (mIte (mOr (mNot (mTruth (mCall (f__law_same 12) (aCons (mCall f_standing (aCons (mV 3) (aCons (mV 5) (aLast (mV 4))))) (aLast (mV 7)))))) (mNot (mTruth (mCall (f__law_same 12) (aCons (mCall f_is_over (aCons (mV 3) (aCons (mV 5) (aLast (mV 4))))) (aLast (mV 6))))))) (mRet (mC (.bool false))) mNx)
  (mIte (mNot (mTruth (mCall (f__law_same 12) (aCons (mCall f_kind_of (aCons (mV 3) (aLast (mV 5)))) (aLast (mCall f__law_kind (aCons (mV 3) (aLast (mV 5))))))))) (mRet (mC (.bool false))) mNx)))) S
def lp3_law (S : Sg) : Out Fl :=
  (mSeq (mPar [3, 4] (pCons (mCall f__law_drawn_rules (aCons (mV 0) (aLast (mV 1)))) (pCons (mBin (gEq false) (mCall f__law_draw (aCons (mV 0) (aCons (mV 1) (aLast (mC (.int 2)))))) (mC (.int 0))) pNil)))
  (mSeq (mAsg (gTupM [(setD 5), (setD 6)]) (mTup (dCons (mTup dNil) (dCons (mC (.bool false)) dNil))))
  (mSeq (mWhile wc1_law wb2_law)
  (mSeq (mIte (mNot (mTruth (mCall (f__law_same 12) (aCons (mTup (dCons (mCall f_standing (aCons (mV 3) (aCons (mTup dNil) (aLast (mV 4))))) (dCons (mCall f_is_over (aCons (mV 3) (aCons (mTup dNil) (aLast (mV 4))))) dNil))) (aLast (mTup (dCons (mCall f__law_every (aLast (mV 3))) (dCons (mC (.bool false)) dNil)))))))) (mRet (mC (.bool false))) mNx)
  (mIte (asB (mBin (gIs true) (mCall f_kind_of (aCons (mV 3) (aLast (mTup dNil)))) (mC .none))) (mRet (mC (.bool false))) mNx))))) S
def mb_law : SM :=
  (mSeq (mSet 1 (mLst dNil))
  (mSeq (mFor (mRange1 (dCons (mC (.int 16)) dNil)) (setD 2) lp3_law)
  (mRet (mC (.bool true)))))
def f_law : FM := fnM 1 8 mb_law
structure Tx (K : PySem.W.Frag) (mg : Str → Option Value) where
  a_pins_of : Addr
  fd_pins_of : FuncData
  F_pins_of : Fun K "pins_of" "pins_of" s_pins_of a_pins_of fd_pins_of
  B_pins_of : Binds K fd_pins_of ["rules"] []
  m_pins_of : mg "pins_of" = some (.ref a_pins_of)
  a_all_pins : Addr
  fd_all_pins : FuncData
  F_all_pins : Fun K "all_pins" "all_pins" s_all_pins a_all_pins fd_all_pins
  B_all_pins : Binds K fd_all_pins ["rules"] []
  m_all_pins : mg "all_pins" = some (.ref a_all_pins)
  a_extra_for : Addr
  fd_extra_for : FuncData
  F_extra_for : Fun K "extra_for" "extra_for" s_extra_for a_extra_for fd_extra_for
  B_extra_for : Binds K fd_extra_for ["empty", "done", "last"] []
  m_extra_for : mg "extra_for" = some (.ref a_extra_for)
  a_begun : Addr
  fd_begun : FuncData
  F_begun : Fun K "begun" "begun" s_begun a_begun fd_begun
  B_begun : Binds K fd_begun ["rules"] []
  m_begun : mg "begun" = some (.ref a_begun)
  a_gone_on : Addr
  fd_gone_on : FuncData
  F_gone_on : Fun K "gone_on" "gone_on" s_gone_on a_gone_on fd_gone_on
  B_gone_on : Binds K fd_gone_on ["rules", "state", "throw", "last"] []
  m_gone_on : mg "gone_on" = some (.ref a_gone_on)
  a_walked : Addr
  fd_walked : FuncData
  F_walked : Fun K "walked" "walked" s_walked a_walked fd_walked
  B_walked : Binds K fd_walked ["rules", "turn", "last"] []
  m_walked : mg "walked" = some (.ref a_walked)
  a_standing : Addr
  fd_standing : FuncData
  F_standing : Fun K "standing" "standing" s_standing a_standing fd_standing
  B_standing : Binds K fd_standing ["rules", "turn", "last"] []
  m_standing : mg "standing" = some (.ref a_standing)
  a_is_over : Addr
  fd_is_over : FuncData
  F_is_over : Fun K "is_over" "is_over" s_is_over a_is_over fd_is_over
  B_is_over : Binds K fd_is_over ["rules", "turn", "last"] []
  m_is_over : mg "is_over" = some (.ref a_is_over)
  a_kind_of : Addr
  fd_kind_of : FuncData
  F_kind_of : Fun K "kind_of" "kind_of" s_kind_of a_kind_of fd_kind_of
  B_kind_of : Binds K fd_kind_of ["rules", "turn"] []
  m_kind_of : mg "kind_of" = some (.ref a_kind_of)
  a__law_same : Addr
  fd__law_same : FuncData
  F__law_same : Fun K "_law_same" "_law_same" s__law_same a__law_same fd__law_same
  B__law_same : Binds K fd__law_same ["_law_got", "_law_due"] []
  m__law_same : mg "_law_same" = some (.ref a__law_same)
  a__law_draw : Addr
  fd__law_draw : FuncData
  F__law_draw : Fun K "_law_draw" "_law_draw" s__law_draw a__law_draw fd__law_draw
  B__law_draw : Binds K fd__law_draw ["_law_script", "_law_town", "_law_many"] []
  m__law_draw : mg "_law_draw" = some (.ref a__law_draw)
  a__law_pick : Addr
  fd__law_pick : FuncData
  F__law_pick : Fun K "_law_pick" "_law_pick" s__law_pick a__law_pick fd__law_pick
  B__law_pick : Binds K fd__law_pick ["_law_script", "_law_town", "_law_some"] []
  m__law_pick : mg "_law_pick" = some (.ref a__law_pick)
  a__law_drawn_rules : Addr
  fd__law_drawn_rules : FuncData
  F__law_drawn_rules : Fun K "_law_drawn_rules" "_law_drawn_rules" s__law_drawn_rules a__law_drawn_rules fd__law_drawn_rules
  B__law_drawn_rules : Binds K fd__law_drawn_rules ["_law_script", "_law_town"] []
  m__law_drawn_rules : mg "_law_drawn_rules" = some (.ref a__law_drawn_rules)
  a__law_every : Addr
  fd__law_every : FuncData
  F__law_every : Fun K "_law_every" "_law_every" s__law_every a__law_every fd__law_every
  B__law_every : Binds K fd__law_every ["_law_rules"] []
  m__law_every : mg "_law_every" = some (.ref a__law_every)
  a__law_few : Addr
  fd__law_few : FuncData
  F__law_few : Fun K "_law_few" "_law_few" s__law_few a__law_few fd__law_few
  B__law_few : Binds K fd__law_few ["_law_script", "_law_town", "_law_pins"] []
  m__law_few : mg "_law_few" = some (.ref a__law_few)
  a__law_drawn_throw : Addr
  fd__law_drawn_throw : FuncData
  F__law_drawn_throw : Fun K "_law_drawn_throw" "_law_drawn_throw" s__law_drawn_throw a__law_drawn_throw fd__law_drawn_throw
  B__law_drawn_throw : Binds K fd__law_drawn_throw ["_law_script", "_law_town", "_law_stand"] []
  m__law_drawn_throw : mg "_law_drawn_throw" = some (.ref a__law_drawn_throw)
  a__law_walked : Addr
  fd__law_walked : FuncData
  F__law_walked : Fun K "_law_walked" "_law_walked" s__law_walked a__law_walked fd__law_walked
  B__law_walked : Binds K fd__law_walked ["_law_rules", "_law_turn", "_law_last"] []
  m__law_walked : mg "_law_walked" = some (.ref a__law_walked)
  a__law_kind : Addr
  fd__law_kind : FuncData
  F__law_kind : Fun K "_law_kind" "_law_kind" s__law_kind a__law_kind fd__law_kind
  B__law_kind : Binds K fd__law_kind ["_law_rules", "_law_turn"] []
  m__law_kind : mg "_law_kind" = some (.ref a__law_kind)
  a_law : Addr
  fd_law : FuncData
  F_law : Fun K "law" "law" s_law a_law fd_law
  B_law : Binds K fd_law ["_law_script"] []
  m_law : mg "law" = some (.ref a_law)
  b_all : mg "all" = none
  b_bool : mg "bool" = none
  b_enumerate : mg "enumerate" = none
  b_int : mg "int" = none
  b_isinstance : mg "isinstance" = none
  b_len : mg "len" = none
  b_range : mg "range" = none
  b_str : mg "str" = none
  b_tuple : mg "tuple" = none
  b_zip : mg "zip" = none
theorem sc_pins_of : FnScope ["rules"] ["rules"] (defScope s_pins_of) := ⟨rfl, rfl, rfl, by decide +kernel, rfl, by decide +kernel, by decide +kernel⟩
theorem sc_all_pins : FnScope ["rules"] ["rules"] (defScope s_all_pins) := ⟨rfl, rfl, rfl, by decide +kernel, rfl, by decide +kernel, by decide +kernel⟩
theorem sc_extra_for : FnScope ["empty", "done", "last"] ["empty", "done", "last"] (defScope s_extra_for) := ⟨rfl, rfl, rfl, by decide +kernel, rfl, by decide +kernel, by decide +kernel⟩
theorem sc_begun : FnScope ["rules"] ["rules"] (defScope s_begun) := ⟨rfl, rfl, rfl, by decide +kernel, rfl, by decide +kernel, by decide +kernel⟩
theorem sc_gone_on : FnScope ["rules", "state", "throw", "last", "stand", "done", "extra", "pin"] ["rules", "state", "throw", "last"] (defScope s_gone_on) := ⟨rfl, rfl, rfl, by decide +kernel, rfl, by decide +kernel, by decide +kernel⟩
theorem sc_walked : FnScope ["rules", "turn", "last", "state", "throw"] ["rules", "turn", "last"] (defScope s_walked) := ⟨rfl, rfl, rfl, by decide +kernel, rfl, by decide +kernel, by decide +kernel⟩
theorem sc_standing : FnScope ["rules", "turn", "last"] ["rules", "turn", "last"] (defScope s_standing) := ⟨rfl, rfl, rfl, by decide +kernel, rfl, by decide +kernel, by decide +kernel⟩
theorem sc_is_over : FnScope ["rules", "turn", "last"] ["rules", "turn", "last"] (defScope s_is_over) := ⟨rfl, rfl, rfl, by decide +kernel, rfl, by decide +kernel, by decide +kernel⟩
theorem sc_kind_of : FnScope ["rules", "turn", "state", "throw"] ["rules", "turn"] (defScope s_kind_of) := ⟨rfl, rfl, rfl, by decide +kernel, rfl, by decide +kernel, by decide +kernel⟩
theorem sc__law_same : FnScope ["_law_got", "_law_due", "_law_one", "_law_other"] ["_law_got", "_law_due"] (defScope s__law_same) := ⟨rfl, rfl, rfl, by decide +kernel, rfl, by decide +kernel, by decide +kernel⟩
theorem sc__law_draw : FnScope ["_law_script", "_law_town", "_law_many", "_law_k", "_law_cell", "_law_number", "_law_more"] ["_law_script", "_law_town", "_law_many"] (defScope s__law_draw) := ⟨rfl, rfl, rfl, by decide +kernel, rfl, by decide +kernel, by decide +kernel⟩
theorem sc__law_pick : FnScope ["_law_script", "_law_town", "_law_some"] ["_law_script", "_law_town", "_law_some"] (defScope s__law_pick) := ⟨rfl, rfl, rfl, by decide +kernel, rfl, by decide +kernel, by decide +kernel⟩
theorem sc__law_drawn_rules : FnScope ["_law_script", "_law_town", "_law_rows", "_law_turns"] ["_law_script", "_law_town"] (defScope s__law_drawn_rules) := ⟨rfl, rfl, rfl, by decide +kernel, rfl, by decide +kernel, by decide +kernel⟩
theorem sc__law_every : FnScope ["_law_rules"] ["_law_rules"] (defScope s__law_every) := ⟨rfl, rfl, rfl, by decide +kernel, rfl, by decide +kernel, by decide +kernel⟩
theorem sc__law_few : FnScope ["_law_script", "_law_town", "_law_pins", "_law_way", "_law_pin"] ["_law_script", "_law_town", "_law_pins"] (defScope s__law_few) := ⟨rfl, rfl, rfl, by decide +kernel, rfl, by decide +kernel, by decide +kernel⟩
theorem sc__law_drawn_throw : FnScope ["_law_script", "_law_town", "_law_stand"] ["_law_script", "_law_town", "_law_stand"] (defScope s__law_drawn_throw) := ⟨rfl, rfl, rfl, by decide +kernel, rfl, by decide +kernel, by decide +kernel⟩
theorem sc__law_walked : FnScope ["_law_rules", "_law_turn", "_law_last", "_law_stand", "_law_ends", "_law_number", "_law_throw", "_law_pin"] ["_law_rules", "_law_turn", "_law_last"] (defScope s__law_walked) := ⟨rfl, rfl, rfl, by decide +kernel, rfl, by decide +kernel, by decide +kernel⟩
theorem sc__law_kind : FnScope ["_law_rules", "_law_turn", "_law_stand", "_law_number", "_law_throw", "_law_pin"] ["_law_rules", "_law_turn"] (defScope s__law_kind) := ⟨rfl, rfl, rfl, by decide +kernel, rfl, by decide +kernel, by decide +kernel⟩
theorem sc_law : FnScope ["_law_script", "_law_town", "_law_k", "_law_rules", "_law_last", "_law_turn", "_law_over_now", "_law_stand"] ["_law_script"] (defScope s_law) := ⟨rfl, rfl, rfl, by decide +kernel, rfl, by decide +kernel, by decide +kernel⟩
section
variable {P : Program} {w : World} {K : PySem.W.Frag} {mg : Str → Option Value} {base : Heap}
theorem ok_pins_of (T : Tx K mg) : FnOk P w K mg base (L2.CX P w) 1 T.a_pins_of T.fd_pins_of ["rules"] (spF mg 1 f_pins_of) :=
  fn_ok (N := ["rules"]) T.F_pins_of sc_pins_of fun cdv A outer s H E hr => have sc := sc_pins_of;
  (jb_one (js_ret (je_bin ok_div (je_bin ok_mulT (je_ix (je_var (i := 0)) je_int) (je_bin ok_add (je_ix (je_var (i := 0)) je_int) je_int)) je_int)))
theorem ok_all_pins (T : Tx K mg) : FnOk P w K mg base (L2.CX P w) 2 T.a_all_pins T.fd_all_pins ["rules"] (spF mg 1 f_all_pins) :=
  fn_ok (N := ["rules"]) T.F_all_pins sc_all_pins fun cdv A outer s H E hr => have sc := sc_all_pins;
  (jb_one (js_ret (je_rgT rfl je_int (je_bin ok_add (je_call ((ok_pins_of T).mono (by omega)) hr T.m_pins_of T.F_pins_of.kp T.B_pins_of tk_cx (by first | exact Or.inl rfl | exact Or.inr rfl | exact rfl) (jl_last (je_var (i := 0))) rfl) je_int) T.b_tuple T.b_range)))
theorem ok_extra_for (T : Tx K mg) : FnOk P w K mg base (L2.CX P w) 1 T.a_extra_for T.fd_extra_for ["empty", "done", "last"] (spF mg 3 f_extra_for) :=
  fn_ok (N := ["empty", "done", "last"]) T.F_extra_for sc_extra_for fun cdv A outer s H E hr => have sc := sc_extra_for;
  (jb_cons (js_if (JW.pt (jw_or (jt_not (jt_truth (je_var (i := 2)))) (jw_or (jt_not (jt_truth (je_var (i := 0)))) (jw_or1 (jt_cmp ok_gt (je_var (i := 1)) je_int (nomark _)))))) (jb_one (js_ret je_int)) jb_nil)
  (jb_one (js_ret (je_bin ok_sub je_int (je_var (i := 1))))))
theorem ok_begun (T : Tx K mg) : FnOk P w K mg base (L2.CX P w) 3 T.a_begun T.fd_begun ["rules"] (spF mg 1 f_begun) :=
  fn_ok (N := ["rules"]) T.F_begun sc_begun fun cdv A outer s H E hr => have sc := sc_begun;
  (jb_one (js_ret (je_tup (jd_cons (je_call ((ok_all_pins T).mono (by omega)) hr T.m_all_pins T.F_all_pins.kp T.B_all_pins tk_cx (by first | exact Or.inl rfl | exact Or.inr rfl | exact rfl) (jl_last (je_var (i := 0))) rfl) (jd_cons je_int (jd_cons (je_neg je_int) jd_nil))))))
theorem ok_gone_on (T : Tx K mg) : FnOk P w K mg base (L2.CX P w) 3 T.a_gone_on T.fd_gone_on ["rules", "state", "throw", "last"] (spF mg 4 f_gone_on) :=
  fn_ok (N := ["rules", "state", "throw", "last", "stand", "done", "extra", "pin"]) T.F_gone_on sc_gone_on fun cdv A outer s H E hr => have sc := sc_gone_on;
  (jb_cons (js_asg (je_var (i := 1)) (jg_tup rfl (jgs_cons (jg_name (i := 4) sc.nd) (jgs_cons (jg_name (i := 5) sc.nd) (jgs_cons (jg_name (i := 6) sc.nd) jgs_nil))) rfl))
  (jb_cons (js_set (i := 5) sc.nd (je_bin ok_add (je_var (i := 5)) je_int))
  (jb_cons (js_if (jt_not (jt_truth (je_ix (je_var (i := 2)) je_int))) (jb_one (js_set (i := 4) sc.nd (je_ty cr_tuple (jf_last (je_comp (own := ([("pin", 7)] : List (Str × Nat))) rfl sc.nd (ji_iter (je_var (i := 4))) (by rfl) (fun _ _ _ _ _ => (jg_name (i := 7) sc.nd)) (fun _ _ _ _ _ => (jts_one (jt_cmp (ok_notIn (hu66 hr)) (je_var (i := 7)) (je_ix (je_var (i := 2)) je_int) rfl))) (fun _ _ _ _ _ => (je_var (i := 7))) (by decide))) T.b_tuple))) jb_nil)
  (jb_cons (js_if (jt_cmp ok_gt (je_var (i := 6)) je_int (nomark _)) (jb_one (js_set (i := 6) sc.nd (je_bin ok_sub (je_var (i := 6)) je_int))) (jb_one (js_if (JW.pt (jw_or (jt_not (jt_truth (je_var (i := 4)))) (jw_or1 (jt_cmp (ok_eqG (hu66 hr)) (je_var (i := 5)) (je_ix (je_var (i := 0)) je_int) (nomark _))))) (jb_one (js_set (i := 6) sc.nd (je_call ((ok_extra_for T).mono (by omega)) hr T.m_extra_for T.F_extra_for.kp T.B_extra_for tk_cx (by first | exact Or.inl rfl | exact Or.inr rfl | exact rfl) (jl_cons (je_notV (je_var (i := 4))) (jl_cons (je_var (i := 5)) (jl_last (je_var (i := 3))))) rfl))) jb_nil)))
  (jb_cons (js_if (JW.pt (jw_and (jt_cmp ok_gt (je_var (i := 6)) je_int (nomark _)) (jw_and1 (jt_not (jt_truth (je_var (i := 4))))))) (jb_one (js_set (i := 4) sc.nd (je_call ((ok_all_pins T).mono (by omega)) hr T.m_all_pins T.F_all_pins.kp T.B_all_pins tk_cx (by first | exact Or.inl rfl | exact Or.inr rfl | exact rfl) (jl_last (je_var (i := 0))) rfl))) jb_nil)
  (jb_one (js_ret (je_tup (jd_cons (je_var (i := 4)) (jd_cons (je_var (i := 5)) (jd_cons (je_var (i := 6)) jd_nil)))))))))))
theorem ok_walked (T : Tx K mg) : FnOk P w K mg base (L2.CX P w) 4 T.a_walked T.fd_walked ["rules", "turn", "last"] (spF mg 3 f_walked) :=
  fn_ok (N := ["rules", "turn", "last", "state", "throw"]) T.F_walked sc_walked fun cdv A outer s H E hr => have sc := sc_walked;
  (jb_cons (js_set (i := 3) sc.nd (je_call ((ok_begun T).mono (by omega)) hr T.m_begun T.F_begun.kp T.B_begun tk_cx (by first | exact Or.inl rfl | exact Or.inr rfl | exact rfl) (jl_last (je_var (i := 0))) rfl))
  (jb_cons (js_for (ps_cx rfl) rfl (ji_iter (je_var (i := 1))) (jg_name (i := 4) sc.nd) (jb_one (js_set (i := 3) sc.nd (je_call ((ok_gone_on T).mono (by omega)) hr T.m_gone_on T.F_gone_on.kp T.B_gone_on tk_cx (by first | exact Or.inl rfl | exact Or.inr rfl | exact rfl) (jl_cons (je_var (i := 0)) (jl_cons (je_var (i := 3)) (jl_cons (je_var (i := 4)) (jl_last (je_var (i := 2)))))) rfl))))
  (jb_one (js_ret (je_var (i := 3))))))
theorem ok_standing (T : Tx K mg) : FnOk P w K mg base (L2.CX P w) 5 T.a_standing T.fd_standing ["rules", "turn", "last"] (spF mg 3 f_standing) :=
  fn_ok (N := ["rules", "turn", "last"]) T.F_standing sc_standing fun cdv A outer s H E hr => have sc := sc_standing;
  (jb_one (js_ret (je_ix (je_call ((ok_walked T).mono (by omega)) hr T.m_walked T.F_walked.kp T.B_walked tk_cx (by first | exact Or.inl rfl | exact Or.inr rfl | exact rfl) (jl_cons (je_var (i := 0)) (jl_cons (je_var (i := 1)) (jl_last (je_var (i := 2))))) rfl) je_int)))
theorem ok_is_over (T : Tx K mg) : FnOk P w K mg base (L2.CX P w) 5 T.a_is_over T.fd_is_over ["rules", "turn", "last"] (spF mg 3 f_is_over) :=
  fn_ok (N := ["rules", "turn", "last"]) T.F_is_over sc_is_over fun cdv A outer s H E hr => have sc := sc_is_over;
  (jb_one (js_ret (je_cmp (ok_eqG (hu66 hr)) (je_ix (je_call ((ok_walked T).mono (by omega)) hr T.m_walked T.F_walked.kp T.B_walked tk_cx (by first | exact Or.inl rfl | exact Or.inr rfl | exact rfl) (jl_cons (je_var (i := 0)) (jl_cons (je_var (i := 1)) (jl_last (je_var (i := 2))))) rfl) je_int) je_int (nomark _))))
theorem ok_kind_of (T : Tx K mg) : FnOk P w K mg base (L2.CX P w) 4 T.a_kind_of T.fd_kind_of ["rules", "turn"] (spF mg 2 f_kind_of) :=
  fn_ok (N := ["rules", "turn", "state", "throw"]) T.F_kind_of sc_kind_of fun cdv A outer s H E hr => have sc := sc_kind_of;
  (jb_cons (js_set (i := 2) sc.nd (je_call ((ok_begun T).mono (by omega)) hr T.m_begun T.F_begun.kp T.B_begun tk_cx (by first | exact Or.inl rfl | exact Or.inr rfl | exact rfl) (jl_last (je_var (i := 0))) rfl))
  (jb_cons (js_for (ps_cx rfl) rfl (ji_iter (je_var (i := 1))) (jg_name (i := 3) sc.nd) (jb_one (js_if (jt_cmp (ok_neG (hu66 hr)) (je_ix (je_var (i := 2)) je_int) je_int (nomark _)) (jb_one (js_set (i := 2) sc.nd (je_call ((ok_gone_on T).mono (by omega)) hr T.m_gone_on T.F_gone_on.kp T.B_gone_on tk_cx (by first | exact Or.inl rfl | exact Or.inr rfl | exact rfl) (jl_cons (je_var (i := 0)) (jl_cons (je_var (i := 2)) (jl_cons (je_var (i := 3)) (jl_last je_bl)))) rfl))) jb_nil)))
  (jb_cons (js_if (jt_cmp (ok_neG (hu66 hr)) (je_ix (je_var (i := 2)) je_int) je_int (nomark _)) (jb_one (js_ret je_non)) jb_nil)
  (jb_cons (js_if (jt_truth (je_ix (je_var (i := 2)) je_int)) (jb_one (js_ret je_str)) jb_nil)
  (jb_one (js_ret (je_ix (je_tup (jd_cons je_str (jd_cons je_str (jd_cons je_str jd_nil)))) (je_bin ok_sub (je_ix (je_var (i := 2)) je_int) je_int))))))))
theorem ok__law_same (T : Tx K mg) : ∀ n : Nat, FnOk P w K mg base (L2.CX P w) (1 + n) T.a__law_same T.fd__law_same ["_law_got", "_law_due"] (spF mg 2 (f__law_same n))
  | 0 => fn_none rfl
  | n + 1 => fn_ok (k := 1 + n) (N := ["_law_got", "_law_due", "_law_one", "_law_other"]) T.F__law_same sc__law_same fun cdv A outer s H E hr => have sc := sc__law_same; have recok := ok__law_same T n;
  (jb_cons (js_if (jt_cmp ok_is (je_var (i := 1)) je_non (nomark _)) (jb_one (js_ret (je_cmp ok_is (je_var (i := 0)) je_non (nomark _)))) jb_nil)
  (jb_cons (js_if (jt_truth (je_isi .bool (je_var (i := 1)) T.b_isinstance T.b_bool (by first | rfl | decide +kernel))) (jb_one (js_ret (je_andV (je_isi .bool (je_var (i := 0)) T.b_isinstance T.b_bool (by first | rfl | decide +kernel)) (je_oneV (je_cmp (ok_eqG (hu66 hr)) (je_var (i := 0)) (je_var (i := 1)) (nomark _)))))) jb_nil)
  (jb_cons (js_if (jt_truth (je_isi .tuple (je_var (i := 1)) T.b_isinstance T.b_tuple (by first | rfl | decide +kernel))) (jb_cons (js_if (JW.pt (jw_or (jt_not (jt_truth (je_isi .tuple (je_var (i := 0)) T.b_isinstance T.b_tuple (by first | rfl | decide +kernel)))) (jw_or1 (jt_cmp (ok_neG (hu66 hr)) (je_blt cr_len (jf_last (je_var (i := 0))) T.b_len) (je_blt cr_len (jf_last (je_var (i := 1))) T.b_len) (nomark _))))) (jb_one (js_ret je_bl)) jb_nil)
  (jb_one (js_ret (je_blt (cr_allD rfl) (jf_last (je_comp (own := ([("_law_one", 2), ("_law_other", 3)] : List (Str × Nat))) rfl sc.nd (ji_zip T.b_zip (jd_cons (je_var (i := 0)) (jd_cons (je_var (i := 1)) jd_nil))) (by rfl) (fun _ _ _ _ _ => (jg_tup rfl (jgs_cons (jg_name (i := 2) sc.nd) (jgs_cons (jg_name (i := 3) sc.nd) jgs_nil)) rfl)) (fun _ _ _ _ _ => jts_nil) (fun _ _ _ _ _ => (je_call recok hr T.m__law_same T.F__law_same.kp T.B__law_same tk0 (by first | exact Or.inl rfl | exact Or.inr rfl | exact rfl) (jl_cons (je_var (i := 2)) (jl_last (je_var (i := 3)))) rfl)) (by decide))) T.b_all)))) jb_nil)
  (jb_cons (js_if (jt_truth (je_isi .str (je_var (i := 1)) T.b_isinstance T.b_str (by first | rfl | decide +kernel))) (jb_one (js_ret (je_andV (je_isi .str (je_var (i := 0)) T.b_isinstance T.b_str (by first | rfl | decide +kernel)) (je_oneV (je_cmp (ok_eqG (hu66 hr)) (je_var (i := 0)) (je_var (i := 1)) (nomark _)))))) jb_nil)
  (jb_one (js_ret (je_andV (je_isi .int (je_var (i := 0)) T.b_isinstance T.b_int (by first | rfl | decide +kernel)) (je_andV (je_notV (je_isi .bool (je_var (i := 0)) T.b_isinstance T.b_bool (by first | rfl | decide +kernel))) (je_oneV (je_cmp (ok_eqG (hu66 hr)) (je_var (i := 0)) (je_var (i := 1)) (nomark _)))))))))))
theorem ok__law_draw (T : Tx K mg) : FnOk P w K mg base (L2.CX P w) 1 T.a__law_draw T.fd__law_draw ["_law_script", "_law_town", "_law_many"] (spF mg 3 f__law_draw) :=
  fn_ok (N := ["_law_script", "_law_town", "_law_many", "_law_k", "_law_cell", "_law_number", "_law_more"]) T.F__law_draw sc__law_draw fun cdv A outer s H E hr => have sc := sc__law_draw;
  (jb_cons (js_expr (je_own1 (i := 1) mt_append own_app PySem.F.slot_list_append PySem.F.type_list_append je_int))
  (jb_cons (js_set (i := 3) sc.nd (je_blt cr_len (jf_last (je_var (i := 1))) T.b_len))
  (jb_cons (js_set (i := 4) sc.nd je_int)
  (jb_cons (js_if (jt_truth (je_var (i := 0))) (jb_one (js_set (i := 4) sc.nd (je_ix (je_var (i := 0)) (je_bin ok_mod (je_var (i := 3)) (je_blt cr_len (jf_last (je_var (i := 0))) T.b_len))))) jb_nil)
  (jb_cons (js_set (i := 5) sc.nd (je_bin ok_mod (je_bin ok_add (je_var (i := 4)) (je_bin ok_mulT je_int (je_var (i := 3)))) je_int))
  (jb_cons (js_set (i := 5) sc.nd (je_bin ok_mod (je_bin ok_mulT (je_bin ok_mod (je_bin ok_mulT (je_var (i := 5)) (je_var (i := 5))) je_int) je_int) je_int))
  (jb_cons (js_set (i := 6) sc.nd (je_bin ok_mod (je_bin ok_mulT (je_bin ok_mod (je_bin ok_mulT (je_var (i := 5)) (je_var (i := 5))) je_int) je_int) je_int))
  (jb_one (js_ret (je_bin ok_mod (je_bin ok_add (je_bin ok_mulT (je_bin ok_div (je_var (i := 5)) je_int) je_int) (je_bin ok_div (je_var (i := 6)) je_int)) (je_var (i := 2))))))))))))
theorem ok__law_pick (T : Tx K mg) : FnOk P w K mg base (L2.CX P w) 2 T.a__law_pick T.fd__law_pick ["_law_script", "_law_town", "_law_some"] (spF mg 3 f__law_pick) :=
  fn_ok (N := ["_law_script", "_law_town", "_law_some"]) T.F__law_pick sc__law_pick fun cdv A outer s H E hr => have sc := sc__law_pick;
  (jb_one (js_ret (je_ix (je_var (i := 2)) (je_call ((ok__law_draw T).mono (by omega)) hr T.m__law_draw T.F__law_draw.kp T.B__law_draw tk_cx (by first | exact Or.inl rfl | exact Or.inr rfl | exact rfl) (jl_cons (je_var (i := 0)) (jl_cons (je_var (i := 1)) (jl_last (je_blt cr_len (jf_last (je_var (i := 2))) T.b_len)))) rfl))))
theorem ok__law_drawn_rules (T : Tx K mg) : FnOk P w K mg base (L2.CX P w) 3 T.a__law_drawn_rules T.fd__law_drawn_rules ["_law_script", "_law_town"] (spF mg 2 f__law_drawn_rules) :=
  fn_ok (N := ["_law_script", "_law_town", "_law_rows", "_law_turns"]) T.F__law_drawn_rules sc__law_drawn_rules fun cdv A outer s H E hr => have sc := sc__law_drawn_rules;
  (jb_cons (js_par2 (i := 2) (j := 3) rfl sc.nd (jp_cons (je_call ((ok__law_pick T).mono (by omega)) hr T.m__law_pick T.F__law_pick.kp T.B__law_pick tk_cx (by first | exact Or.inl rfl | exact Or.inr rfl | exact rfl) (jl_cons (je_var (i := 0)) (jl_cons (je_var (i := 1)) (jl_last (je_lst (jd_cons je_int (jd_cons je_int (jd_cons je_int (jd_cons je_int (jd_cons je_int (jd_cons je_int (jd_cons je_int jd_nil))))))))))) rfl) (jp_cons (je_call ((ok__law_pick T).mono (by omega)) hr T.m__law_pick T.F__law_pick.kp T.B__law_pick tk_cx (by first | exact Or.inl rfl | exact Or.inr rfl | exact rfl) (jl_cons (je_var (i := 0)) (jl_cons (je_var (i := 1)) (jl_last (je_lst (jd_cons je_int (jd_cons je_int (jd_cons je_int (jd_cons je_int (jd_cons je_int (jd_cons je_int (jd_cons je_int jd_nil))))))))))) rfl) jp_nil)))
  (jb_one (js_ret (je_tup (jd_cons (je_var (i := 2)) (jd_cons (je_bin ok_add je_int (je_call ((ok__law_draw T).mono (by omega)) hr T.m__law_draw T.F__law_draw.kp T.B__law_draw tk_cx (by first | exact Or.inl rfl | exact Or.inr rfl | exact rfl) (jl_cons (je_var (i := 0)) (jl_cons (je_var (i := 1)) (jl_last je_int))) rfl)) (jd_cons (je_var (i := 3)) jd_nil)))))))
theorem ok__law_every (T : Tx K mg) : FnOk P w K mg base (L2.CX P w) 1 T.a__law_every T.fd__law_every ["_law_rules"] (spF mg 1 f__law_every) :=
  fn_ok (N := ["_law_rules"]) T.F__law_every sc__law_every fun cdv A outer s H E hr => have sc := sc__law_every;
  (jb_one (js_ret (je_rgT rfl je_int (je_bin ok_add (je_bin ok_div (je_bin ok_mulT (je_ix (je_var (i := 0)) je_int) (je_bin ok_add (je_ix (je_var (i := 0)) je_int) je_int)) je_int) je_int) T.b_tuple T.b_range)))
theorem ok__law_few (T : Tx K mg) : FnOk P w K mg base (L2.CX P w) 2 T.a__law_few T.fd__law_few ["_law_script", "_law_town", "_law_pins"] (spF mg 3 f__law_few) :=
  fn_ok (N := ["_law_script", "_law_town", "_law_pins", "_law_way", "_law_pin"]) T.F__law_few sc__law_few fun cdv A outer s H E hr => have sc := sc__law_few;
  (jb_cons (js_set (i := 3) sc.nd (je_call ((ok__law_draw T).mono (by omega)) hr T.m__law_draw T.F__law_draw.kp T.B__law_draw tk_cx (by first | exact Or.inl rfl | exact Or.inr rfl | exact rfl) (jl_cons (je_var (i := 0)) (jl_cons (je_var (i := 1)) (jl_last je_int))) rfl))
  (jb_cons (js_if (jt_cmp ok_lt (je_var (i := 3)) je_int (nomark _)) (jb_one (js_ret (je_bin ok_mulT (je_var (i := 2)) (je_var (i := 3))))) jb_nil)
  (jb_cons (js_if (jt_cmp (ok_eqG (hu66 hr)) (je_var (i := 3)) je_int (nomark _)) (jb_one (js_ret (je_var (i := 2)))) jb_nil)
  (jb_one (js_ret (je_ty cr_tuple (jf_last (je_comp (own := ([("_law_pin", 4)] : List (Str × Nat))) rfl sc.nd (ji_iter (je_var (i := 2))) (by rfl) (fun _ _ _ _ _ => (jg_name (i := 4) sc.nd)) (fun _ _ _ _ _ => (jts_one (jt_cmp (ok_eqG (hu66 hr)) (je_call ((ok__law_draw T).mono (by omega)) hr T.m__law_draw T.F__law_draw.kp T.B__law_draw tk0 (by first | exact Or.inl rfl | exact Or.inr rfl | exact rfl) (jl_cons (je_var (i := 0)) (jl_cons (je_var (i := 1)) (jl_last je_int))) rfl) je_int (nomark _)))) (fun _ _ _ _ _ => (je_var (i := 4))) (by decide))) T.b_tuple))))))
theorem ok__law_drawn_throw (T : Tx K mg) : FnOk P w K mg base (L2.CX P w) 3 T.a__law_drawn_throw T.fd__law_drawn_throw ["_law_script", "_law_town", "_law_stand"] (spF mg 3 f__law_drawn_throw) :=
  fn_ok (N := ["_law_script", "_law_town", "_law_stand"]) T.F__law_drawn_throw sc__law_drawn_throw fun cdv A outer s H E hr => have sc := sc__law_drawn_throw;
  (jb_one (js_ret (je_tup (jd_cons (je_call ((ok__law_few T).mono (by omega)) hr T.m__law_few T.F__law_few.kp T.B__law_few tk_cx (by first | exact Or.inl rfl | exact Or.inr rfl | exact rfl) (jl_cons (je_var (i := 0)) (jl_cons (je_var (i := 1)) (jl_last (je_var (i := 2))))) rfl) (jd_cons (je_cmp (ok_eqG (hu66 hr)) (je_call ((ok__law_draw T).mono (by omega)) hr T.m__law_draw T.F__law_draw.kp T.B__law_draw tk_cx (by first | exact Or.inl rfl | exact Or.inr rfl | exact rfl) (jl_cons (je_var (i := 0)) (jl_cons (je_var (i := 1)) (jl_last je_int))) rfl) je_int (nomark _)) jd_nil)))))
theorem ok__law_walked (T : Tx K mg) : FnOk P w K mg base (L2.CX P w) 2 T.a__law_walked T.fd__law_walked ["_law_rules", "_law_turn", "_law_last"] (spF mg 3 f__law_walked) :=
  fn_ok (N := ["_law_rules", "_law_turn", "_law_last", "_law_stand", "_law_ends", "_law_number", "_law_throw", "_law_pin"]) T.F__law_walked sc__law_walked fun cdv A outer s H E hr => have sc := sc__law_walked;
  (jb_cons (js_par2 (i := 3) (j := 4) rfl sc.nd (jp_cons (je_call ((ok__law_every T).mono (by omega)) hr T.m__law_every T.F__law_every.kp T.B__law_every tk_cx (by first | exact Or.inl rfl | exact Or.inr rfl | exact rfl) (jl_last (je_var (i := 0))) rfl) (jp_cons je_non jp_nil)))
  (jb_cons (js_for (ps_cx rfl) rfl (ji_enum T.b_enumerate (jd_cons (je_var (i := 1)) jd_nil)) (jg_tup rfl (jgs_cons (jg_name (i := 5) sc.nd) (jgs_cons (jg_name (i := 6) sc.nd) jgs_nil)) rfl) (jb_cons (js_if (jt_not (jt_truth (je_ix (je_var (i := 6)) je_int))) (jb_one (js_set (i := 3) sc.nd (je_ty cr_tuple (jf_last (je_comp (own := ([("_law_pin", 7)] : List (Str × Nat))) rfl sc.nd (ji_iter (je_var (i := 3))) (by rfl) (fun _ _ _ _ _ => (jg_name (i := 7) sc.nd)) (fun _ _ _ _ _ => (jts_one (jt_cmp (ok_notIn (hu66 hr)) (je_var (i := 7)) (je_ix (je_var (i := 6)) je_int) rfl))) (fun _ _ _ _ _ => (je_var (i := 7))) (by decide))) T.b_tuple))) jb_nil)
  (jb_cons (js_if (JW.pt (jw_and (jt_cmp ok_is (je_var (i := 4)) je_non (nomark _)) (jw_and1 (JW.pt (jw_or (jt_cmp (ok_eqG (hu66 hr)) (je_var (i := 3)) (je_tup jd_nil) (nomark _)) (jw_or1 (jt_cmp (ok_eqG (hu66 hr)) (je_bin ok_add (je_var (i := 5)) je_int) (je_ix (je_var (i := 0)) je_int) (nomark _)))))))) (jb_one (js_set (i := 4) sc.nd (je_if (JW.pt (jw_and (jt_truth (je_var (i := 2))) (jw_and1 (jt_cmp (ok_eqG (hu66 hr)) (je_var (i := 3)) (je_tup jd_nil) (nomark _))))) je_int (je_bin ok_add (je_var (i := 5)) je_int)))) jb_nil)
  (jb_one (js_if (JW.pt (jw_and (jt_cmp (ok_eqG (hu66 hr)) (je_var (i := 3)) (je_tup jd_nil) (nomark _)) (jw_and (jt_cmp (ok_eqG (hu66 hr)) (je_var (i := 4)) je_int (nomark _)) (jw_and (jt_truth (je_var (i := 2))) (jw_and1 (jt_cmp ok_lt (je_var (i := 5)) je_int (nomark _))))))) (jb_one (js_set (i := 3) sc.nd (je_call ((ok__law_every T).mono (by omega)) hr T.m__law_every T.F__law_every.kp T.B__law_every tk_cx (by first | exact Or.inl rfl | exact Or.inr rfl | exact rfl) (jl_last (je_var (i := 0))) rfl))) jb_nil)))))
  (jb_one (js_ret (je_tup (jd_cons (je_var (i := 3)) (jd_cons (je_chain ch_eq ch_gt bl_ord (je_var (i := 4)) (je_blt cr_len (jf_last (je_var (i := 1))) T.b_len) je_int) jd_nil)))))))
theorem ok__law_kind (T : Tx K mg) : FnOk P w K mg base (L2.CX P w) 2 T.a__law_kind T.fd__law_kind ["_law_rules", "_law_turn"] (spF mg 2 f__law_kind) :=
  fn_ok (N := ["_law_rules", "_law_turn", "_law_stand", "_law_number", "_law_throw", "_law_pin"]) T.F__law_kind sc__law_kind fun cdv A outer s H E hr => have sc := sc__law_kind;
  (jb_cons (js_set (i := 2) sc.nd (je_call ((ok__law_every T).mono (by omega)) hr T.m__law_every T.F__law_every.kp T.B__law_every tk_cx (by first | exact Or.inl rfl | exact Or.inr rfl | exact rfl) (jl_last (je_var (i := 0))) rfl))
  (jb_cons (js_for (ps_cx rfl) rfl (ji_enum T.b_enumerate (jd_cons (je_sl (je_var (i := 1)) jo_no (jo_int (je_ix (je_var (i := 0)) je_int))) jd_nil)) (jg_tup rfl (jgs_cons (jg_name (i := 3) sc.nd) (jgs_cons (jg_name (i := 4) sc.nd) jgs_nil)) rfl) (jb_cons (js_if (jt_not (jt_truth (je_ix (je_var (i := 4)) je_int))) (jb_one (js_set (i := 2) sc.nd (je_ty cr_tuple (jf_last (je_comp (own := ([("_law_pin", 5)] : List (Str × Nat))) rfl sc.nd (ji_iter (je_var (i := 2))) (by rfl) (fun _ _ _ _ _ => (jg_name (i := 5) sc.nd)) (fun _ _ _ _ _ => (jts_one (jt_cmp (ok_notIn (hu66 hr)) (je_var (i := 5)) (je_ix (je_var (i := 4)) je_int) rfl))) (fun _ _ _ _ _ => (je_var (i := 5))) (by decide))) T.b_tuple))) jb_nil)
  (jb_one (js_if (jt_cmp (ok_eqG (hu66 hr)) (je_var (i := 2)) (je_tup jd_nil) (nomark _)) (jb_one (js_ret (je_ix (je_lst (jd_cons je_str (jd_cons je_str (jd_cons je_str jd_nil)))) (je_var (i := 3))))) jb_nil))))
  (jb_one (js_ret (je_if (jt_cmp ok_ge (je_blt cr_len (jf_last (je_var (i := 1))) T.b_len) (je_ix (je_var (i := 0)) je_int) (nomark _)) je_str je_non)))))
theorem ok_law (T : Tx K mg) : FnOk P w K mg base (L2.CX P w) 14 T.a_law T.fd_law ["_law_script"] (spF mg 1 f_law) :=
  fn_ok (N := ["_law_script", "_law_town", "_law_k", "_law_rules", "_law_last", "_law_turn", "_law_over_now", "_law_stand"]) T.F_law sc_law fun cdv A outer s H E hr => have sc := sc_law;
  (jb_cons (js_set (i := 1) sc.nd (je_lst jd_nil))
  (jb_cons (js_for (ps_cx rfl) rfl (ji_range1 T.b_range (jd_cons je_int jd_nil) (by first | exact Or.inl rfl | exact Or.inr rfl | exact rfl)) (jg_name (i := 2) sc.nd) (jb_cons (js_par2 (i := 3) (j := 4) rfl sc.nd (jp_cons (je_call ((ok__law_drawn_rules T).mono (by omega)) hr T.m__law_drawn_rules T.F__law_drawn_rules.kp T.B__law_drawn_rules tk_cx (by first | exact Or.inl rfl | exact Or.inr rfl | exact rfl) (jl_cons (je_var (i := 0)) (jl_last (je_var (i := 1)))) rfl) (jp_cons (je_cmp (ok_eqG (hu66 hr)) (je_call ((ok__law_draw T).mono (by omega)) hr T.m__law_draw T.F__law_draw.kp T.B__law_draw tk_cx (by first | exact Or.inl rfl | exact Or.inr rfl | exact rfl) (jl_cons (je_var (i := 0)) (jl_cons (je_var (i := 1)) (jl_last je_int))) rfl) je_int (nomark _)) jp_nil)))
  (jb_cons (js_asg (je_tup (jd_cons (je_tup jd_nil) (jd_cons je_bl jd_nil))) (jg_tup rfl (jgs_cons (jg_name (i := 5) sc.nd) (jgs_cons (jg_name (i := 6) sc.nd) jgs_nil)) rfl))
  (jb_cons (js_while (ps_cx rfl) (jt_not (jt_truth (je_var (i := 6)))) (jb_cons (js_set (i := 5) sc.nd (je_bin ok_add (je_var (i := 5)) (je_tup (jd_cons (je_call ((ok__law_drawn_throw T).mono (by omega)) hr T.m__law_drawn_throw T.F__law_drawn_throw.kp T.B__law_drawn_throw tk_cx (by first | exact Or.inl rfl | exact Or.inr rfl | exact rfl) (jl_cons (je_var (i := 0)) (jl_cons (je_var (i := 1)) (jl_last (je_ix (je_call ((ok__law_walked T).mono (by omega)) hr T.m__law_walked T.F__law_walked.kp T.B__law_walked tk_cx (by first | exact Or.inl rfl | exact Or.inr rfl | exact rfl) (jl_cons (je_var (i := 3)) (jl_cons (je_var (i := 5)) (jl_last (je_var (i := 4))))) rfl) je_int)))) rfl) jd_nil))))
  (jb_cons (js_asg (je_call ((ok__law_walked T).mono (by omega)) hr T.m__law_walked T.F__law_walked.kp T.B__law_walked tk_cx (by first | exact Or.inl rfl | exact Or.inr rfl | exact rfl) (jl_cons (je_var (i := 3)) (jl_cons (je_var (i := 5)) (jl_last (je_var (i := 4))))) rfl) (jg_tup rfl (jgs_cons (jg_name (i := 7) sc.nd) (jgs_cons (jg_name (i := 6) sc.nd) jgs_nil)) rfl))
  (jb_cons (js_if (JW.pt (jw_or (jt_not (jt_truth (je_call ((ok__law_same T 12).mono (by omega)) hr T.m__law_same T.F__law_same.kp T.B__law_same tk_cx (by first | exact Or.inl rfl | exact Or.inr rfl | exact rfl) (jl_cons (je_call ((ok_standing T).mono (by omega)) hr T.m_standing T.F_standing.kp T.B_standing tk_cx (by first | exact Or.inl rfl | exact Or.inr rfl | exact rfl) (jl_cons (je_var (i := 3)) (jl_cons (je_var (i := 5)) (jl_last (je_var (i := 4))))) rfl) (jl_last (je_var (i := 7)))) rfl))) (jw_or1 (jt_not (jt_truth (je_call ((ok__law_same T 12).mono (by omega)) hr T.m__law_same T.F__law_same.kp T.B__law_same tk_cx (by first | exact Or.inl rfl | exact Or.inr rfl | exact rfl) (jl_cons (je_call ((ok_is_over T).mono (by omega)) hr T.m_is_over T.F_is_over.kp T.B_is_over tk_cx (by first | exact Or.inl rfl | exact Or.inr rfl | exact rfl) (jl_cons (je_var (i := 3)) (jl_cons (je_var (i := 5)) (jl_last (je_var (i := 4))))) rfl) (jl_last (je_var (i := 6)))) rfl)))))) (jb_one (js_ret je_bl)) jb_nil)
  (jb_one (js_if (jt_not (jt_truth (je_call ((ok__law_same T 12).mono (by omega)) hr T.m__law_same T.F__law_same.kp T.B__law_same tk_cx (by first | exact Or.inl rfl | exact Or.inr rfl | exact rfl) (jl_cons (je_call ((ok_kind_of T).mono (by omega)) hr T.m_kind_of T.F_kind_of.kp T.B_kind_of tk_cx (by first | exact Or.inl rfl | exact Or.inr rfl | exact rfl) (jl_cons (je_var (i := 3)) (jl_last (je_var (i := 5)))) rfl) (jl_last (je_call ((ok__law_kind T).mono (by omega)) hr T.m__law_kind T.F__law_kind.kp T.B__law_kind tk_cx (by first | exact Or.inl rfl | exact Or.inr rfl | exact rfl) (jl_cons (je_var (i := 3)) (jl_last (je_var (i := 5)))) rfl))) rfl))) (jb_one (js_ret je_bl)) jb_nil))))))
  (jb_cons (js_if (jt_not (jt_truth (je_call ((ok__law_same T 12).mono (by omega)) hr T.m__law_same T.F__law_same.kp T.B__law_same tk_cx (by first | exact Or.inl rfl | exact Or.inr rfl | exact rfl) (jl_cons (je_tup (jd_cons (je_call ((ok_standing T).mono (by omega)) hr T.m_standing T.F_standing.kp T.B_standing tk_cx (by first | exact Or.inl rfl | exact Or.inr rfl | exact rfl) (jl_cons (je_var (i := 3)) (jl_cons (je_tup jd_nil) (jl_last (je_var (i := 4))))) rfl) (jd_cons (je_call ((ok_is_over T).mono (by omega)) hr T.m_is_over T.F_is_over.kp T.B_is_over tk_cx (by first | exact Or.inl rfl | exact Or.inr rfl | exact rfl) (jl_cons (je_var (i := 3)) (jl_cons (je_tup jd_nil) (jl_last (je_var (i := 4))))) rfl) jd_nil))) (jl_last (je_tup (jd_cons (je_call ((ok__law_every T).mono (by omega)) hr T.m__law_every T.F__law_every.kp T.B__law_every tk_cx (by first | exact Or.inl rfl | exact Or.inr rfl | exact rfl) (jl_last (je_var (i := 3))) rfl) (jd_cons je_bl jd_nil))))) rfl))) (jb_one (js_ret je_bl)) jb_nil)
  (jb_one (js_if (jt_cmp ok_isNot (je_call ((ok_kind_of T).mono (by omega)) hr T.m_kind_of T.F_kind_of.kp T.B_kind_of tk_cx (by first | exact Or.inl rfl | exact Or.inr rfl | exact rfl) (jl_cons (je_var (i := 3)) (jl_last (je_tup jd_nil))) rfl) je_non (nomark _)) (jb_one (js_ret je_bl)) jb_nil)))))))
  (jb_one (js_ret je_bl))))
end
theorem all_mk {l : PySem.W.OpenLaw} {w : World} {K : PySem.W.Frag} {h : Heap} {mg : Str → Option Value} {fa f0 f1 f2 f3 f4 f5 f6 f7 f8 f9 f10 f11 f12 f13 f14 f15 f16 f17 f18 : Addr} (X : K.In h) (G : h.Ns mainGlobals mg) (hfa : mg "law" = some (.ref fa))
    {od0 an0 od1 an1 od2 an2 od3 an3 od4 an4 od5 an5 od6 an6 od7 an7 od8 an8 od9 an9 od10 an10 od11 an11 od12 an12 od13 an13 od14 an14 od15 an15 od16 an16 od17 an17 od18 an18 : Option Addr} {sl0 sl1 sl2 sl3 sl4 sl5 sl6 sl7 sl8 sl9 sl10 sl11 sl12 sl13 sl14 sl15 sl16 sl17 sl18 : Array (Option Value)} {oc0 kV0 dc0 pm0 cd0 ct0 oc1 kV1 dc1 pm1 cd1 ct1 oc2 kV2 dc2 pm2 cd2 ct2 oc3 kV3 dc3 pm3 cd3 ct3 oc4 kV4 dc4 pm4 cd4 ct4 oc5 kV5 dc5 pm5 cd5 ct5 oc6 kV6 dc6 pm6 cd6 ct6 oc7 kV7 dc7 pm7 cd7 ct7 oc8 kV8 dc8 pm8 cd8 ct8 oc9 kV9 dc9 pm9 cd9 ct9 oc10 kV10 dc10 pm10 cd10 ct10 oc11 kV11 dc11 pm11 cd11 ct11 oc12 kV12 dc12 pm12 cd12 ct12 oc13 kV13 dc13 pm13 cd13 ct13 oc14 kV14 dc14 pm14 cd14 ct14 oc15 kV15 dc15 pm15 cd15 ct15 oc16 kV16 dc16 pm16 cd16 ct16 oc17 kV17 dc17 pm17 cd17 ct17 oc18 kV18 dc18 pm18 cd18 ct18 : Value} {lm : FM} (hlm : lm = f_law)
    (a0 : PySem.W.nsIn K mainGlobals "pins_of" = some (some (.ref f0))) (l0 : K.lookup f0 = some ⟨oc0, od0, .func (PySem.W.fnOf "pins_of" "pins_of" (defArgs s_pins_of) (defBody s_pins_of) (defScope s_pins_of) .none kV0 dc0 pm0 an0 cd0 ct0), sl0⟩) (c0 : PySem.W.codeIn K cd0 "pins_of" = true) (k0 : PySem.W.keepIn K (.ref f0) = true)
    (a1 : PySem.W.nsIn K mainGlobals "all_pins" = some (some (.ref f1))) (l1 : K.lookup f1 = some ⟨oc1, od1, .func (PySem.W.fnOf "all_pins" "all_pins" (defArgs s_all_pins) (defBody s_all_pins) (defScope s_all_pins) .none kV1 dc1 pm1 an1 cd1 ct1), sl1⟩) (c1 : PySem.W.codeIn K cd1 "all_pins" = true) (k1 : PySem.W.keepIn K (.ref f1) = true)
    (a2 : PySem.W.nsIn K mainGlobals "extra_for" = some (some (.ref f2))) (l2 : K.lookup f2 = some ⟨oc2, od2, .func (PySem.W.fnOf "extra_for" "extra_for" (defArgs s_extra_for) (defBody s_extra_for) (defScope s_extra_for) .none kV2 dc2 pm2 an2 cd2 ct2), sl2⟩) (c2 : PySem.W.codeIn K cd2 "extra_for" = true) (k2 : PySem.W.keepIn K (.ref f2) = true)
    (a3 : PySem.W.nsIn K mainGlobals "begun" = some (some (.ref f3))) (l3 : K.lookup f3 = some ⟨oc3, od3, .func (PySem.W.fnOf "begun" "begun" (defArgs s_begun) (defBody s_begun) (defScope s_begun) .none kV3 dc3 pm3 an3 cd3 ct3), sl3⟩) (c3 : PySem.W.codeIn K cd3 "begun" = true) (k3 : PySem.W.keepIn K (.ref f3) = true)
    (a4 : PySem.W.nsIn K mainGlobals "gone_on" = some (some (.ref f4))) (l4 : K.lookup f4 = some ⟨oc4, od4, .func (PySem.W.fnOf "gone_on" "gone_on" (defArgs s_gone_on) (defBody s_gone_on) (defScope s_gone_on) .none kV4 dc4 pm4 an4 cd4 ct4), sl4⟩) (c4 : PySem.W.codeIn K cd4 "gone_on" = true) (k4 : PySem.W.keepIn K (.ref f4) = true)
    (a5 : PySem.W.nsIn K mainGlobals "walked" = some (some (.ref f5))) (l5 : K.lookup f5 = some ⟨oc5, od5, .func (PySem.W.fnOf "walked" "walked" (defArgs s_walked) (defBody s_walked) (defScope s_walked) .none kV5 dc5 pm5 an5 cd5 ct5), sl5⟩) (c5 : PySem.W.codeIn K cd5 "walked" = true) (k5 : PySem.W.keepIn K (.ref f5) = true)
    (a6 : PySem.W.nsIn K mainGlobals "standing" = some (some (.ref f6))) (l6 : K.lookup f6 = some ⟨oc6, od6, .func (PySem.W.fnOf "standing" "standing" (defArgs s_standing) (defBody s_standing) (defScope s_standing) .none kV6 dc6 pm6 an6 cd6 ct6), sl6⟩) (c6 : PySem.W.codeIn K cd6 "standing" = true) (k6 : PySem.W.keepIn K (.ref f6) = true)
    (a7 : PySem.W.nsIn K mainGlobals "is_over" = some (some (.ref f7))) (l7 : K.lookup f7 = some ⟨oc7, od7, .func (PySem.W.fnOf "is_over" "is_over" (defArgs s_is_over) (defBody s_is_over) (defScope s_is_over) .none kV7 dc7 pm7 an7 cd7 ct7), sl7⟩) (c7 : PySem.W.codeIn K cd7 "is_over" = true) (k7 : PySem.W.keepIn K (.ref f7) = true)
    (a8 : PySem.W.nsIn K mainGlobals "kind_of" = some (some (.ref f8))) (l8 : K.lookup f8 = some ⟨oc8, od8, .func (PySem.W.fnOf "kind_of" "kind_of" (defArgs s_kind_of) (defBody s_kind_of) (defScope s_kind_of) .none kV8 dc8 pm8 an8 cd8 ct8), sl8⟩) (c8 : PySem.W.codeIn K cd8 "kind_of" = true) (k8 : PySem.W.keepIn K (.ref f8) = true)
    (a9 : PySem.W.nsIn K mainGlobals "_law_same" = some (some (.ref f9))) (l9 : K.lookup f9 = some ⟨oc9, od9, .func (PySem.W.fnOf "_law_same" "_law_same" (defArgs s__law_same) (defBody s__law_same) (defScope s__law_same) .none kV9 dc9 pm9 an9 cd9 ct9), sl9⟩) (c9 : PySem.W.codeIn K cd9 "_law_same" = true) (k9 : PySem.W.keepIn K (.ref f9) = true)
    (a10 : PySem.W.nsIn K mainGlobals "_law_draw" = some (some (.ref f10))) (l10 : K.lookup f10 = some ⟨oc10, od10, .func (PySem.W.fnOf "_law_draw" "_law_draw" (defArgs s__law_draw) (defBody s__law_draw) (defScope s__law_draw) .none kV10 dc10 pm10 an10 cd10 ct10), sl10⟩) (c10 : PySem.W.codeIn K cd10 "_law_draw" = true) (k10 : PySem.W.keepIn K (.ref f10) = true)
    (a11 : PySem.W.nsIn K mainGlobals "_law_pick" = some (some (.ref f11))) (l11 : K.lookup f11 = some ⟨oc11, od11, .func (PySem.W.fnOf "_law_pick" "_law_pick" (defArgs s__law_pick) (defBody s__law_pick) (defScope s__law_pick) .none kV11 dc11 pm11 an11 cd11 ct11), sl11⟩) (c11 : PySem.W.codeIn K cd11 "_law_pick" = true) (k11 : PySem.W.keepIn K (.ref f11) = true)
    (a12 : PySem.W.nsIn K mainGlobals "_law_drawn_rules" = some (some (.ref f12))) (l12 : K.lookup f12 = some ⟨oc12, od12, .func (PySem.W.fnOf "_law_drawn_rules" "_law_drawn_rules" (defArgs s__law_drawn_rules) (defBody s__law_drawn_rules) (defScope s__law_drawn_rules) .none kV12 dc12 pm12 an12 cd12 ct12), sl12⟩) (c12 : PySem.W.codeIn K cd12 "_law_drawn_rules" = true) (k12 : PySem.W.keepIn K (.ref f12) = true)
    (a13 : PySem.W.nsIn K mainGlobals "_law_every" = some (some (.ref f13))) (l13 : K.lookup f13 = some ⟨oc13, od13, .func (PySem.W.fnOf "_law_every" "_law_every" (defArgs s__law_every) (defBody s__law_every) (defScope s__law_every) .none kV13 dc13 pm13 an13 cd13 ct13), sl13⟩) (c13 : PySem.W.codeIn K cd13 "_law_every" = true) (k13 : PySem.W.keepIn K (.ref f13) = true)
    (a14 : PySem.W.nsIn K mainGlobals "_law_few" = some (some (.ref f14))) (l14 : K.lookup f14 = some ⟨oc14, od14, .func (PySem.W.fnOf "_law_few" "_law_few" (defArgs s__law_few) (defBody s__law_few) (defScope s__law_few) .none kV14 dc14 pm14 an14 cd14 ct14), sl14⟩) (c14 : PySem.W.codeIn K cd14 "_law_few" = true) (k14 : PySem.W.keepIn K (.ref f14) = true)
    (a15 : PySem.W.nsIn K mainGlobals "_law_drawn_throw" = some (some (.ref f15))) (l15 : K.lookup f15 = some ⟨oc15, od15, .func (PySem.W.fnOf "_law_drawn_throw" "_law_drawn_throw" (defArgs s__law_drawn_throw) (defBody s__law_drawn_throw) (defScope s__law_drawn_throw) .none kV15 dc15 pm15 an15 cd15 ct15), sl15⟩) (c15 : PySem.W.codeIn K cd15 "_law_drawn_throw" = true) (k15 : PySem.W.keepIn K (.ref f15) = true)
    (a16 : PySem.W.nsIn K mainGlobals "_law_walked" = some (some (.ref f16))) (l16 : K.lookup f16 = some ⟨oc16, od16, .func (PySem.W.fnOf "_law_walked" "_law_walked" (defArgs s__law_walked) (defBody s__law_walked) (defScope s__law_walked) .none kV16 dc16 pm16 an16 cd16 ct16), sl16⟩) (c16 : PySem.W.codeIn K cd16 "_law_walked" = true) (k16 : PySem.W.keepIn K (.ref f16) = true)
    (a17 : PySem.W.nsIn K mainGlobals "_law_kind" = some (some (.ref f17))) (l17 : K.lookup f17 = some ⟨oc17, od17, .func (PySem.W.fnOf "_law_kind" "_law_kind" (defArgs s__law_kind) (defBody s__law_kind) (defScope s__law_kind) .none kV17 dc17 pm17 an17 cd17 ct17), sl17⟩) (c17 : PySem.W.codeIn K cd17 "_law_kind" = true) (k17 : PySem.W.keepIn K (.ref f17) = true)
    (a18 : PySem.W.nsIn K mainGlobals "law" = some (some (.ref f18))) (l18 : K.lookup f18 = some ⟨oc18, od18, .func (PySem.W.fnOf "law" "law" (defArgs s_law) (defBody s_law) (defScope s_law) .none kV18 dc18 pm18 an18 cd18 ct18), sl18⟩) (c18 : PySem.W.codeIn K cd18 "law" = true) (k18 : PySem.W.keepIn K (.ref f18) = true)
    (z_all : PySem.W.nsIn K mainGlobals "all" = some none)
    (z_bool : PySem.W.nsIn K mainGlobals "bool" = some none)
    (z_enumerate : PySem.W.nsIn K mainGlobals "enumerate" = some none)
    (z_int : PySem.W.nsIn K mainGlobals "int" = some none)
    (z_isinstance : PySem.W.nsIn K mainGlobals "isinstance" = some none)
    (z_len : PySem.W.nsIn K mainGlobals "len" = some none)
    (z_range : PySem.W.nsIn K mainGlobals "range" = some none)
    (z_str : PySem.W.nsIn K mainGlobals "str" = some none)
    (z_tuple : PySem.W.nsIn K mainGlobals "tuple" = some none)
    (z_zip : PySem.W.nsIn K mainGlobals "zip" = some none)
    (hK : noLists K = true) (hlaw : ∀ ns : List Int, ns.length ≤ 63 → ∃ outs, lm [.d (scrD ns)] = .ok (.d (.bool true)) outs) :
    ∃ fd : FuncData, (∀ (s : Shared) (v : Value), BindsTo s fd ⟨[v], []⟩ [("_law_script", v)]) ∧ ∀ base : Heap, K.In base → base.Ns mainGlobals mg → FnOk l.prog w K mg base (L2.CX l.prog w) 14 fa fd ["_law_script"] (spLaw K) := by
  have e := hfa.symm.trans (PySem.W.mg_of X G a18)
  cases e
  subst hlm
  have F0 := fun_mk (st := s_pins_of) l0 c0 k0
  have b0 := F0.binds (ps := ["rules"]) fun _ _ _ _ _ _ us hl => match us, hl with | [_], _ => rfl
  have F1 := fun_mk (st := s_all_pins) l1 c1 k1
  have b1 := F1.binds (ps := ["rules"]) fun _ _ _ _ _ _ us hl => match us, hl with | [_], _ => rfl
  have F2 := fun_mk (st := s_extra_for) l2 c2 k2
  have b2 := F2.binds (ps := ["empty", "done", "last"]) fun _ _ _ _ _ _ us hl => match us, hl with | [_, _, _], _ => rfl
  have F3 := fun_mk (st := s_begun) l3 c3 k3
  have b3 := F3.binds (ps := ["rules"]) fun _ _ _ _ _ _ us hl => match us, hl with | [_], _ => rfl
  have F4 := fun_mk (st := s_gone_on) l4 c4 k4
  have b4 := F4.binds (ps := ["rules", "state", "throw", "last"]) fun _ _ _ _ _ _ us hl => match us, hl with | [_, _, _, _], _ => rfl
  have F5 := fun_mk (st := s_walked) l5 c5 k5
  have b5 := F5.binds (ps := ["rules", "turn", "last"]) fun _ _ _ _ _ _ us hl => match us, hl with | [_, _, _], _ => rfl
  have F6 := fun_mk (st := s_standing) l6 c6 k6
  have b6 := F6.binds (ps := ["rules", "turn", "last"]) fun _ _ _ _ _ _ us hl => match us, hl with | [_, _, _], _ => rfl
  have F7 := fun_mk (st := s_is_over) l7 c7 k7
  have b7 := F7.binds (ps := ["rules", "turn", "last"]) fun _ _ _ _ _ _ us hl => match us, hl with | [_, _, _], _ => rfl
  have F8 := fun_mk (st := s_kind_of) l8 c8 k8
  have b8 := F8.binds (ps := ["rules", "turn"]) fun _ _ _ _ _ _ us hl => match us, hl with | [_, _], _ => rfl
  have F9 := fun_mk (st := s__law_same) l9 c9 k9
  have b9 := F9.binds (ps := ["_law_got", "_law_due"]) fun _ _ _ _ _ _ us hl => match us, hl with | [_, _], _ => rfl
  have F10 := fun_mk (st := s__law_draw) l10 c10 k10
  have b10 := F10.binds (ps := ["_law_script", "_law_town", "_law_many"]) fun _ _ _ _ _ _ us hl => match us, hl with | [_, _, _], _ => rfl
  have F11 := fun_mk (st := s__law_pick) l11 c11 k11
  have b11 := F11.binds (ps := ["_law_script", "_law_town", "_law_some"]) fun _ _ _ _ _ _ us hl => match us, hl with | [_, _, _], _ => rfl
  have F12 := fun_mk (st := s__law_drawn_rules) l12 c12 k12
  have b12 := F12.binds (ps := ["_law_script", "_law_town"]) fun _ _ _ _ _ _ us hl => match us, hl with | [_, _], _ => rfl
  have F13 := fun_mk (st := s__law_every) l13 c13 k13
  have b13 := F13.binds (ps := ["_law_rules"]) fun _ _ _ _ _ _ us hl => match us, hl with | [_], _ => rfl
  have F14 := fun_mk (st := s__law_few) l14 c14 k14
  have b14 := F14.binds (ps := ["_law_script", "_law_town", "_law_pins"]) fun _ _ _ _ _ _ us hl => match us, hl with | [_, _, _], _ => rfl
  have F15 := fun_mk (st := s__law_drawn_throw) l15 c15 k15
  have b15 := F15.binds (ps := ["_law_script", "_law_town", "_law_stand"]) fun _ _ _ _ _ _ us hl => match us, hl with | [_, _, _], _ => rfl
  have F16 := fun_mk (st := s__law_walked) l16 c16 k16
  have b16 := F16.binds (ps := ["_law_rules", "_law_turn", "_law_last"]) fun _ _ _ _ _ _ us hl => match us, hl with | [_, _, _], _ => rfl
  have F17 := fun_mk (st := s__law_kind) l17 c17 k17
  have b17 := F17.binds (ps := ["_law_rules", "_law_turn"]) fun _ _ _ _ _ _ us hl => match us, hl with | [_, _], _ => rfl
  have F18 := fun_mk (st := s_law) l18 c18 k18
  have b18 := F18.binds (ps := ["_law_script"]) fun _ _ _ _ _ _ us hl => match us, hl with | [_], _ => rfl
  let T : Tx K mg := {
    a_pins_of := f0, fd_pins_of := _, F_pins_of := F0, B_pins_of := b0, m_pins_of := PySem.W.mg_of X G a0,
    a_all_pins := f1, fd_all_pins := _, F_all_pins := F1, B_all_pins := b1, m_all_pins := PySem.W.mg_of X G a1,
    a_extra_for := f2, fd_extra_for := _, F_extra_for := F2, B_extra_for := b2, m_extra_for := PySem.W.mg_of X G a2,
    a_begun := f3, fd_begun := _, F_begun := F3, B_begun := b3, m_begun := PySem.W.mg_of X G a3,
    a_gone_on := f4, fd_gone_on := _, F_gone_on := F4, B_gone_on := b4, m_gone_on := PySem.W.mg_of X G a4,
    a_walked := f5, fd_walked := _, F_walked := F5, B_walked := b5, m_walked := PySem.W.mg_of X G a5,
    a_standing := f6, fd_standing := _, F_standing := F6, B_standing := b6, m_standing := PySem.W.mg_of X G a6,
    a_is_over := f7, fd_is_over := _, F_is_over := F7, B_is_over := b7, m_is_over := PySem.W.mg_of X G a7,
    a_kind_of := f8, fd_kind_of := _, F_kind_of := F8, B_kind_of := b8, m_kind_of := PySem.W.mg_of X G a8,
    a__law_same := f9, fd__law_same := _, F__law_same := F9, B__law_same := b9, m__law_same := PySem.W.mg_of X G a9,
    a__law_draw := f10, fd__law_draw := _, F__law_draw := F10, B__law_draw := b10, m__law_draw := PySem.W.mg_of X G a10,
    a__law_pick := f11, fd__law_pick := _, F__law_pick := F11, B__law_pick := b11, m__law_pick := PySem.W.mg_of X G a11,
    a__law_drawn_rules := f12, fd__law_drawn_rules := _, F__law_drawn_rules := F12, B__law_drawn_rules := b12, m__law_drawn_rules := PySem.W.mg_of X G a12,
    a__law_every := f13, fd__law_every := _, F__law_every := F13, B__law_every := b13, m__law_every := PySem.W.mg_of X G a13,
    a__law_few := f14, fd__law_few := _, F__law_few := F14, B__law_few := b14, m__law_few := PySem.W.mg_of X G a14,
    a__law_drawn_throw := f15, fd__law_drawn_throw := _, F__law_drawn_throw := F15, B__law_drawn_throw := b15, m__law_drawn_throw := PySem.W.mg_of X G a15,
    a__law_walked := f16, fd__law_walked := _, F__law_walked := F16, B__law_walked := b16, m__law_walked := PySem.W.mg_of X G a16,
    a__law_kind := f17, fd__law_kind := _, F__law_kind := F17, B__law_kind := b17, m__law_kind := PySem.W.mg_of X G a17,
    a_law := fa, fd_law := _, F_law := F18, B_law := b18, m_law := PySem.W.mg_of X G a18,
    b_all := PySem.W.mg_none_of X G z_all, b_bool := PySem.W.mg_none_of X G z_bool, b_enumerate := PySem.W.mg_none_of X G z_enumerate, b_int := PySem.W.mg_none_of X G z_int, b_isinstance := PySem.W.mg_none_of X G z_isinstance, b_len := PySem.W.mg_none_of X G z_len, b_range := PySem.W.mg_none_of X G z_range, b_str := PySem.W.mg_none_of X G z_str, b_tuple := PySem.W.mg_none_of X G z_tuple, b_zip := PySem.W.mg_none_of X G z_zip }
  exact ⟨PySem.W.fnOf "law" "law" (defArgs s_law) (defBody s_law) (defScope s_law) .none kV18 dc18 pm18 an18 cd18 ct18, fun s v => .of_eq rfl, fun base _ _ => law_ok hK (ok_law T) hlaw⟩
end Lw

namespace Lw
open PySem PySem.Spec L2 Ev
local macro_rules | `(tactic| walk_at "ev") => `(tactic| simp only [*, gt_0, set_0, gt_1, set_1, gt_2, set_2, gt_3, set_3, gt_4, set_4, gt_5, set_5, gt_6, set_6, gt_7, set_7, gt_8, set_8, gt_9, set_9, gt_10, set_10, gt_11, set_11, gt_12, set_12, gt_13, set_13, gt_14, set_14, gt_15, set_15, gt_16, set_16, gt_17, set_17, gt_18, set_18, gt_19, set_19, gt_20, set_20, gt_21, set_21, gt_22, set_22, gt_23, set_23, gt_24, set_24, gt_25, set_25, e_frz, e_frzK, e_frz1, e_frz2, e_frz3, e_toD1, e_toD2, e_mV, e_varK1, e_varK2, e_mC, e_pk1, e_pk3, e_pk2, e_pkK1, e_pkK2, e_ofO1, e_ofB1, e_mBin, e_binA, e_binB, e_binC, e_asB, e_asBK, e_tru, e_truK, e_and, e_andT, e_andF, e_or, e_orT, e_orF, e_not, e_notK, e_ite, e_iteT, e_iteF, e_andV, e_andVK, e_andVT, e_andVF, e_orV, e_orVK, e_orVT, e_orVF, e_notV, e_notVK, e_notVC, e_un, e_unK, e_unC, e_mD, e_mDK, e_mDC, e_sh1, e_sh3, e_sh2, e_shK1, e_shK2, e_dNil, e_dCons, e_dK, e_dK2, e_tup, e_lst, e_tupK, e_lstK, e_pk2_, e_peeks0, e_peeks1, e_bi, e_biK, e_biC, e_aNil, e_aLast, e_fLast, e_lastK, e_aCons, e_consK, e_consK2, e_argSls0, e_argSls1, e_arg1, e_arg3, e_arg2, e_argK1, e_argK2, e_orf0, e_orf1, e_orf3, e_orf2, e_orfK1, e_orfK2, e_nd0, e_nd1, e_call, e_callK, e_callA, e_callB1, e_callB2, e_callC, e_callX, e_nr1, e_nr2, e_wb0, e_wb1, e_wbd, e_wbt, e_wbr, e_wbS1, e_wbS2, e_wbK, e_isi, e_isiK, e_isiC, e_sl, e_slK, e_slL, e_slH, e_slC, e_oNo, e_oInt, e_oIntK, e_oIntC, e_set, e_setK, e_setC, e_setR1, e_setR3, e_setR2, e_setRC, e_setD, e_fset, e_free1, e_free2, e_free3, e_ret, e_retK, e_retC, e_giv1, e_giv3, e_giv2, e_givK1, e_givK2, e_retN, e_drop, e_dropK, e_nx, e_bk, e_ct, e_seq, e_seq1, e_seq2, e_seq3, e_seq4, e_seq5, e_pNil, e_pCons, e_pK, e_pC, e_pK2, e_val1, e_val2, e_val3, e_valM, e_par, e_parK, e_st0, e_st1, e_st2, e_asg, e_asgK, e_gSeq0, e_gSeq1, e_gTup, e_for, e_forK, e_loop0, e_loop1, e_loopA, e_loopB1, e_loopB2, e_loopB3, e_loopB4, e_loopB5, e_gb0, e_gb0x, e_while, e_whT, e_whF, e_whB1, e_whB2, e_whB3, e_whB4, e_whB5, e_r1, e_r1K, e_r2, e_r2K, e_zip, e_zipL, e_zipT, e_iter, e_iter1, e_iter2, e_iterS1, e_iterS2, e_iterD1, e_iterD2, e_iterD3, e_gb1, e_gb2, e_lent0, e_lent1, e_lentK, e_unl0, e_unl1, e_chg, e_chgC, e_chgD, e_ownL, e_ownLK, e_ownO, e_own0, e_own1, e_own1K, e_own2, e_own2K, e_own2L, e_fn, e_fn1, e_fn2, e_fn3, e_fn4, e_out0, e_out1, e_out2, e_out3, e_out4, e_out5, e_out6, e_cl1, e_cl2, e_cl3, e_cl4, e_rep0, e_rep1, e_rep2, e_rep3, e_rep4, e_rep5, e_rep6, e_rep7, e_rep8, e_rep9, e_rep10, e_rep11, e_rep12, e_rep13, e_rep14, e_rep15, e_rep16, e_rep17, e_rep18, e_rep19, e_rep20, e_rep21, e_rep22, e_rep23, e_rep24, e_rep25, e_comp, e_compD0, e_compD1, e_compA, e_compB1, e_compB2, e_compE, e_compK, e_compF, e_compG, e_compH, e_tYes, e_noS0, e_noS1, e_resS0, e_resS1, e_ownOk0, e_ownOk1, e_okSl1, e_okSl2, e_gd, e_b1, e_b2, e_b3, o_add1, o_add2, o_add3, o_add4, o_sub, o_div, o_mod, o_neg, o_lt, o_le, o_gt, o_ge, o_is, o_isn, o_non_none, o_non_bool, o_non_int, o_non_str, o_non_tuple, o_non_list, o_non_dict, o_eq, o_ne, o_ix1, o_ix2, o_ixS, o_len1, o_len2, o_len3, o_lenS, o_tup1, o_tup2, o_list1, o_list2, o_sum1, o_sum2, o_all, o_any, o_abs, o_int1, o_int2, o_max2, o_min2, o_sl1, o_sl2, o_back1, o_back2, o_app, o_is_int_none, o_is_int_bool, o_is_int_int, o_is_int_str, o_is_int_tuple, o_is_int_list, o_is_bool_none, o_is_bool_bool, o_is_bool_int, o_is_bool_str, o_is_bool_tuple, o_is_bool_list, o_is_str_none, o_is_str_bool, o_is_str_int, o_is_str_str, o_is_str_tuple, o_is_str_list, o_is_tuple_none, o_is_tuple_bool, o_is_tuple_int, o_is_tuple_str, o_is_tuple_tuple, o_is_tuple_list, o_is_list_none, o_is_list_bool, o_is_list_int, o_is_list_str, o_is_list_tuple, o_is_list_list, o_is_dict_none, o_is_dict_bool, o_is_dict_int, o_is_dict_str, o_is_dict_tuple, o_is_dict_list, o_tr1, o_tr2, o_tr3, o_tr4, o_tr5, o_tr6, o_trS, Option.bind_some, Option.map_some, List.nil_append, List.cons_append, List.append_nil, Bool.not_true, Bool.not_false, Nat.reduceSub, Nat.reduceAdd, Nat.reduceLeDiff, List.length_cons, List.length_nil, Nat.zero_le, lim, Nat.zero_add, Nat.sub_self, Bool.true_and, Bool.and_true, decide_true, decide_false, if_true, if_false, and_self, and_true, true_and, x_sc, x_scK, x_scC1, x_scC2, x_scC3, x_scC4, x_ch, x_chA, x_chB, x_chT, x_chF, x_chC2, x_eqI1, x_eqI2, x_eqI3, x_rgT, x_rgL, x_rgTA, x_rgLA, x_rgTB, x_rgLB, x_rgTC, x_rgLC, x_rgT1, x_rgL1, x_enum, x_enuL, x_enuT, x_put, x_putA, x_putO, x_putB, x_putC, x_putS, x_mulT, x_mulL, x_sorted, x_inT, x_niT, x_inL, x_niL, x_eq0, x_eqII, x_neII, x_at0, x_at1, x_at2, eq_self, Bool.false_eq_true, Bool.false_and, Bool.and_false, Bool.true_or, Bool.or_true, Bool.false_or, Bool.or_false, Bool.and_self, Bool.or_self, ce1_gone_on, ct2_gone_on, ce1__law_same, ce1__law_few, ct2__law_few, ce1__law_walked, ct2__law_walked, ce1__law_kind, ct2__law_kind, wc1_law, wb2_law])
/-! the draw -/
def tw (n : Nat) : List D := List.replicate n (.int 0)
theorem tw_len (n : Nat) : (tw n).length = n := List.length_replicate
theorem tw_succ (n : Nat) : tw n ++ [.int 0] = tw (n + 1) := by
  unfold tw
  exact (List.replicate_succ').symm
def mixI (a : Int) : Int := a * a % 4294967279 * 48271 % 4294967291
def mixJ (a : Int) : Int := a * a % 4294967279 * 69621 % 4294967291
def cellI (ns : List Int) (n : Nat) : Int := if ns.isEmpty then 0 else ns.getD ((n + 1) % ns.length) 0
def drawI (ns : List Int) (n : Nat) (many : Int) : Int :=
  (mixI ((cellI ns n + 104729 * ((n + 1 : Nat) : Int)) % 4294967291) / 64 * 67108864 + mixJ (mixI ((cellI ns n + 104729 * ((n + 1 : Nat) : Int)) % 4294967291)) / 64) % many
theorem drawI_nn (ns : List Int) (n : Nat) {many : Int} (h : 0 < many) : 0 ≤ drawI ns n many ∧ drawI ns n many < many := ⟨Int.emod_nonneg _ (by omega), Int.emod_lt_of_pos _ h⟩
theorem atI_of {α : Type} {xs : List α} {j : Nat} {v : α} (h : xs[j]? = some v) : atI xs (j : Int) = some v := by
  have hj : j < xs.length := (List.getElem?_eq_some_iff.mp h).1
  unfold atI ixN
  rw [if_pos (by omega), if_pos (by omega)]
  simpa using h
theorem draw_steps (a k many : Int) (h : 0 < many) (ha : 0 ≤ a ∧ a < 4294967291) :
    gMul (.int a) (.int a) = some (.d (.int (a * a))) ∧ gMod (.int (a * a)) (.int 4294967279) = some (.d (.int (a * a % 4294967279))) ∧
    gMul (.int (a * a % 4294967279)) (.int 48271) = some (.d (.int (a * a % 4294967279 * 48271))) ∧ gMod (.int (a * a % 4294967279 * 48271)) (.int 4294967291) = some (.d (.int (mixI a))) ∧
    gMul (.int (mixI a)) (.int (mixI a)) = some (.d (.int (mixI a * mixI a))) ∧ gMod (.int (mixI a * mixI a)) (.int 4294967279) = some (.d (.int (mixI a * mixI a % 4294967279))) ∧
    gMul (.int (mixI a * mixI a % 4294967279)) (.int 69621) = some (.d (.int (mixI a * mixI a % 4294967279 * 69621))) ∧ gMod (.int (mixI a * mixI a % 4294967279 * 69621)) (.int 4294967291) = some (.d (.int (mixJ (mixI a)))) ∧
    gDiv (.int (mixI a)) (.int 64) = some (.d (.int (mixI a / 64))) ∧ gDiv (.int (mixJ (mixI a))) (.int 64) = some (.d (.int (mixJ (mixI a) / 64))) ∧
    gMul (.int (mixI a / 64)) (.int 67108864) = some (.d (.int (mixI a / 64 * 67108864))) ∧ gMod (.int (mixI a / 64 * 67108864 + mixJ (mixI a) / 64)) (.int many) = some (.d (.int ((mixI a / 64 * 67108864 + mixJ (mixI a) / 64) % many))) := by
  have c1 : 0 ≤ mixI a ∧ mixI a < 4294967291 := by unfold mixI; omega
  have b1 : 0 ≤ a * a % 4294967279 ∧ a * a % 4294967279 < 4294967279 := by omega
  have d1 : 0 ≤ mixI a * mixI a % 4294967279 ∧ mixI a * mixI a % 4294967279 < 4294967279 := by omega
  exact ⟨o_mul (by omega) (by omega), o_mod (by decide), o_mul (by omega) (by omega), o_mod (by decide), o_mul (by omega) (by omega), o_mod (by decide), o_mul (by omega) (by omega), o_mod (by decide), o_div (by decide), o_div (by decide), o_mul (by omega) (by omega), o_mod h⟩
theorem draw_eq (ns : List Int) (n : Nat) (many : Int) (h : 0 < many) (hn : n < 1000000) (hl : ns.length ≤ 63) :
    f__law_draw [.d (scrD ns), .own true (.lst (tw n)), .d (.int many)] = .ok (.d (.int (drawI ns n many))) [.no, .own true (.lst (tw (n + 1))), .no] := by
  unfold f__law_draw mb__law_draw
  have h1 : (tw n).length < 16777216 := by rw [tw_len]; omega
  have h2 := tw_succ n
  have h5 : ns.length ≤ 16777216 := by omega
  have m1 := o_mul (i := 104729) (j := ((n + 1 : Nat) : Int)) (by omega) (by omega)
  have hL : gLen [.list (tw (n + 1))] = some (.d (.int ((n + 1 : Nat) : Int))) := by
    rw [o_len1 (by rw [tw_len]; show n + 1 ≤ 16777216; omega), tw_len]
  have hA : oApp (.int 0) (tw n) = some (.none, tw (n + 1)) := by rw [o_app h1, h2]
  generalize hk : ((n + 1 : Nat) : Int) = k at m1 hL
  cases hns : ns with
  | nil =>
    subst hns
    have ht : truth (scrD []) = some false := rfl
    have hcell : cellI [] n = 0 := rfl
    have q0 := o_mod (i := 0 + 104729 * k) (j := 4294967291) (by decide)
    obtain ⟨q1, q2, q3, q4, q5, q6, q7, q8, q9, q10, q11, q12⟩ := draw_steps ((0 + 104729 * k) % 4294967291) k many h (by omega)
    walk_at "ev"
    unfold drawI
    simp only [hk, hcell]
  | cons z zs =>
    rw [← hns]
    have ht : truth (scrD ns) = some true := by rw [hns]; rfl
    have hpos : 0 < (ns.length : Int) := by rw [hns]; simp
    have hl2 := o_lenS (ns := ns) h5
    have hm := o_mod (i := k) (j := (ns.length : Int)) hpos
    have hcell : atI (ns.map PyData.int) (k % (ns.length : Int)) = some (.int (cellI ns n)) := by
      have hlt : (n + 1) % ns.length < ns.length := Nat.mod_lt _ (by omega)
      have e : k % (ns.length : Int) = (((n + 1) % ns.length : Nat) : Int) := by rw [← hk]; omega
      rw [e]
      refine atI_of ?_
      rw [List.getElem?_map, List.getElem?_eq_getElem hlt]
      unfold cellI
      have : ns.isEmpty = false := by rw [hns]; rfl
      rw [this]
      simp [List.getD, List.getElem?_eq_getElem hlt]
    have q0 := o_mod (i := cellI ns n + 104729 * k) (j := 4294967291) (by decide)
    obtain ⟨q1, q2, q3, q4, q5, q6, q7, q8, q9, q10, q11, q12⟩ := draw_steps ((cellI ns n + 104729 * k) % 4294967291) k many h (by omega)
    clear hns
    walk_at "ev"
    unfold drawI
    simp only [hk]
/-! the law's own comparison, of a thing and itself -/
mutual
def okS : Nat → D → Bool
  | 0, _ => false
  | _ + 1, .none => true
  | _ + 1, .bool _ => true
  | _ + 1, .int _ => true
  | _ + 1, .str _ => true
  | n + 1, .tuple ds => decide (ds.length ≤ 100000) && okSs n ds
  | _ + 1, _ => false
def okSs : Nat → List D → Bool
  | _, [] => true
  | n, d :: ds => okS n d && okSs n ds
end
theorem zip_same : ∀ ds : List D, pairsD ds ds = ds.map fun d => .tuple [d, d]
  | [] => rfl
  | d :: ds => by simp [pairsD, zip_same ds]
theorem all_true : ∀ n : Nat, (List.replicate n (PyData.bool true)) = (List.replicate n true).map PyData.bool := fun n => by simp
theorem same_turns (rec : FM) (X Y : Sl) : ∀ (ds acc : List D), acc.length + ds.length ≤ 100000 → (∀ d ∈ ds, rec [.d d, .d d] = .ok (.d (.bool true)) [.no, .no]) →
    compD (gTupM [(setD 2), (setD 3)]) tYesM (ce1__law_same rec) [2, 3] (ds.map fun d => .tuple [d, d]) acc [X, Y, .no, .no] = .ok (acc ++ List.replicate ds.length (.bool true)) [X, Y, .no, .no]
  | [], acc, _, _ => by simp [compD]
  | d :: ds, acc, hl, h => by
    have hd := h d (by simp)
    have ih := same_turns rec X Y ds (acc ++ [.bool true]) (by simp at hl ⊢; omega) fun e he => h e (List.mem_cons_of_mem _ he)
    have hlim : acc.length < 16777216 := by simp at hl; omega
    have hg : gTupM [(setD 2), (setD 3)] (.tuple [d, d]) [X, Y, .no, .no] = some [X, Y, .d d, .d d] := rfl
    rw [List.map_cons]
    clear h
    walk_at "ev"
    rw [List.append_assoc, List.singleton_append, ← List.replicate_succ]
theorem same_refl : ∀ (n : Nat) (d : D), n ≤ 60 → okS n d = true → fineN n d = true ∧ f__law_same n [.d d, .d d] = .ok (.d (.bool true)) [.no, .no]
  | 0, d, _, h => by simp [okS] at h
  | n + 1, d, hn, h => by
    rw [f__law_same]
    unfold mb__law_same
    cases d with
    | none => exact ⟨fineN_non _, by walk_at "ev"⟩
    | bool b =>
      refine ⟨fineN_bool _ b, ?_⟩
      have h1 := o_eq (fineN_bool 64 b) (fineN_bool 64 b)
      have h2 : PyData.eqv (.bool b) (.bool b) = true := by simp [PyData.eqv]
      walk_at "ev"
    | int i =>
      refine ⟨fineN_int _ i, ?_⟩
      have h1 := o_eq (fineN_int 64 i) (fineN_int 64 i)
      have h2 : PyData.eqv (.int i) (.int i) = true := by simp [PyData.eqv]
      walk_at "ev"
    | str x =>
      refine ⟨fineN_str _ x, ?_⟩
      have h1 := o_eq (fineN_str 64 x) (fineN_str 64 x)
      have h2 : PyData.eqv (.str x) (.str x) = true := by simp [PyData.eqv]
      walk_at "ev"
    | tuple ds =>
      simp only [okS, Bool.and_eq_true, decide_eq_true_eq] at h
      obtain ⟨hl, hs⟩ := h
      have key : ∀ es : List D, okSs n es = true → ∀ e ∈ es, fineN n e = true ∧ f__law_same n [.d e, .d e] = .ok (.d (.bool true)) [.no, .no] := by
        intro es
        induction es with
        | nil => intro _ e he; cases he
        | cons x xs ih =>
          intro hx e he
          simp only [okSs, Bool.and_eq_true] at hx
          rcases List.mem_cons.mp he with rfl | he
          · exact same_refl n _ (by omega) hx.1
          · exact ih hx.2 e he
      have hk := key ds hs
      refine ⟨by rw [fineN_tup]; exact List.all_eq_true.mpr fun e he => (hk e he).1, ?_⟩
      have ht := same_turns (f__law_same n) (.d (.tuple ds)) (.d (.tuple ds)) ds [] (by simpa using hl) fun e he => (hk e he).2
      have hz := zip_same ds
      have h1 := o_ne (fineN_int 64 ds.length) (fineN_int 64 ds.length)
      have h2 : PyData.eqv (.int ds.length) (.int ds.length) = true := by simp [PyData.eqv]
      have h3 := o_len2 (xs := ds) (show ds.length ≤ 16777216 by omega)
      have h4 : gAll [.list (List.replicate ds.length (.bool true))] = some (.d (.bool true)) := by
        rw [all_true, o_all]
        simp
      clear key hk hs hl hn
      rw [List.nil_append] at ht
      walk_at "ev"
    | list _ => simp [okS] at h
    | dict _ => simp [okS] at h
/-! loops of the plain law -/
theorem loop_inv {tg : GM} {bd : SM} {P : Nat → Sg → Prop} (step : ∀ d S k, P k S → ∃ S1 S2, tg d S = some S1 ∧ (bd S1 = .ok .nx S2 ∨ bd S1 = .ok .ct S2) ∧ P (k + 1) S2) : ∀ (ds : List D) (S : Sg) (k : Nat), P k S → ∃ S', loopD tg bd ds S = .ok .nx S' ∧ P (k + ds.length) S'
  | [], S, k, h => ⟨S, rfl, h⟩
  | d :: ds, S, k, h => by
    obtain ⟨S1, S2, e1, e2, h2⟩ := step d S k h
    obtain ⟨S', e3, h3⟩ := loop_inv step ds S2 (k + 1) h2
    refine ⟨S', ?_, by rw [List.length_cons]; have : k + (ds.length + 1) = k + 1 + ds.length := by omega
                       rw [this]; exact h3⟩
    rw [e_loop1, e1, e_loopA]
    rcases e2 with e2 | e2
    · rw [e2, e_loopB1, e3]
    · rw [e2, e_loopB2, e3]
/-- the same, the k-th thing told -/
theorem loop_at {tg : GM} {bd : SM} {P : Nat → Sg → Prop} {all : List D} (step : ∀ d S k, all[k]? = some d → P k S → ∃ S1 S2, tg d S = some S1 ∧ (bd S1 = .ok .nx S2 ∨ bd S1 = .ok .ct S2) ∧ P (k + 1) S2) : ∀ (m k : Nat) (S : Sg), m + k = all.length → P k S → ∃ S', loopD tg bd (all.drop k) S = .ok .nx S' ∧ P all.length S'
  | 0, k, S, hk, h => by
    have : k = all.length := by omega
    subst this
    rw [List.drop_length]
    exact ⟨S, rfl, h⟩
  | m + 1, k, S, hk, h => by
    have hlt : k < all.length := by omega
    obtain ⟨S1, S2, e1, e2, h2⟩ := step all[k] S k (List.getElem?_eq_getElem hlt) h
    obtain ⟨S', e3, h3⟩ := loop_at step m (k + 1) S2 (by omega) h2
    refine ⟨S', ?_, h3⟩
    rw [List.drop_eq_getElem_cons hlt, e_loop1, e1, e_loopA]
    rcases e2 with e2 | e2
    · rw [e2, e_loopB1, e3]
    · rw [e2, e_loopB2, e3]
theorem intsD_len (lo c : Int) (n : Nat) : (intsD lo c n).length = n := by simp [intsD]
theorem intsD_succ (lo : Int) (n : Nat) : intsD lo 1 (n + 1) = .int lo :: intsD (lo + 1) 1 n := by
  unfold intsD
  rw [List.range_succ_eq_map, List.map_cons, List.map_map]
  congr 1
  · simp
  · apply List.map_congr_left
    intro i _
    simp only [Function.comp]
    congr 1
    push_cast
    omega
/-- slots that may be stored to -/
def Fre (r : List Sl) (m : Nat) : Prop := r.length = m ∧ ∀ x ∈ r, free x = true
/-! rules, pins -/
def rngI (lo : Int) (n : Nat) : List Int := (List.range n).map fun i => lo + ((i : Nat) : Int)
theorem intsD_rng (lo : Int) (n : Nat) : intsD lo 1 n = (rngI lo n).map PyData.int := by
  unfold intsD rngI
  rw [List.map_map]
  apply List.map_congr_left
  intro i _
  simp
def rulesD (r t n : Int) : D := .tuple [.int r, .int t, .int n]
def pinsI (r : Int) : Int := r * (r + 1) / 2
def allI (r : Int) : List Int := rngI 1 (pinsI r).toNat
/-- rules that are drawn -/
def okR (r t n : Int) : Prop := 1 ≤ r ∧ r ≤ 4 ∧ 2 ≤ t ∧ t ≤ 3 ∧ 1 ≤ n ∧ n ≤ 12
theorem pinsI_le {r t n : Int} (h : okR r t n) : 1 ≤ pinsI r ∧ pinsI r ≤ 10 := by
  obtain ⟨h1, h2, _⟩ := h
  unfold pinsI
  have : r = 1 ∨ r = 2 ∨ r = 3 ∨ r = 4 := by omega
  rcases this with rfl | rfl | rfl | rfl <;> decide
theorem allI_len (r : Int) : (allI r).length = (pinsI r).toNat := by simp [allI, rngI]
theorem allI_ne {r t n : Int} (h : okR r t n) : (allI r).isEmpty = false := by
  have := pinsI_le h
  have hl := allI_len r
  cases hq : allI r with
  | nil => rw [hq] at hl; simp at hl; omega
  | cons a b => rfl
theorem pins_eq {r t n : Int} (h : okR r t n) : f_pins_of [.d (rulesD r t n)] = .ok (.d (.int (pinsI r))) [.no] := by
  unfold f_pins_of mb_pins_of rulesD pinsI
  obtain ⟨h1, h2, _⟩ := h
  have m1 := o_mul (i := r) (j := r + 1) (by omega) (by omega)
  have m2 := o_div (i := r * (r + 1)) (j := 2) (by decide)
  clear h1 h2
  walk_at "ev"
theorem rg_all {r t n : Int} (h : okR r t n) : rgN (.int 1) (.int (pinsI r + 1)) = some ((allI r).map PyData.int) := by
  have hp := pinsI_le h
  rw [x_rgN (by unfold lim; omega), intsD_rng]
  have : (pinsI r + 1 - 1).toNat = (pinsI r).toNat := by congr 1; omega
  rw [this]; rfl
theorem all_eq {r t n : Int} (h : okR r t n) : f_all_pins [.d (rulesD r t n)] = .ok (.d (.tuple ((allI r).map PyData.int))) [.no] := by
  unfold f_all_pins mb_all_pins
  have h1 := pins_eq h
  have h2 := rg_all h
  walk_at "ev"
theorem every_eq {r t n : Int} (h : okR r t n) : f__law_every [.d (rulesD r t n)] = .ok (.d (.tuple ((allI r).map PyData.int))) [.no] := by
  unfold f__law_every mb__law_every
  have h2 := rg_all h
  obtain ⟨k1, k2, _⟩ := h
  have m1 := o_mul (i := r) (j := r + 1) (by omega) (by omega)
  have m2 := o_div (i := r * (r + 1)) (j := 2) (by decide)
  have m3 : r * (r + 1) / 2 = pinsI r := rfl
  have m4 : rulesD r t n = .tuple [.int r, .int t, .int n] := rfl
  clear k1 k2
  walk_at "ev"
def minusI (s p : List Int) : List Int := s.filter fun x => !p.contains x
theorem minus_le (s p : List Int) : (minusI s p).length ≤ s.length := List.length_filter_le _ _
theorem minus_sub (s p : List Int) : (minusI s p).Sublist s := List.filter_sublist
/-! turns, by the program -/
abbrev Thr := List Int × Bool
def thD (t : Thr) : D := .tuple [.tuple (t.1.map PyData.int), .bool t.2]
abbrev Stt := List Int × Int × Int
def stD (s : Stt) : D := .tuple [.tuple (s.1.map PyData.int), .int s.2.1, .int s.2.2]
theorem comp_gone (a0 a1 a3 a4 a5 a6 : Sl) (p : List Int) (f : Bool) : ∀ (s : List Int) (acc : List D), acc.length + s.length ≤ 1000 →
    compD (setD 7) ct2_gone_on ce1_gone_on [7] (s.map PyData.int) acc [a0, a1, .d (thD (p, f)), a3, a4, a5, a6, .no] = .ok (acc ++ (minusI s p).map PyData.int) [a0, a1, .d (thD (p, f)), a3, a4, a5, a6, .no]
  | [], acc, _ => by simp [compD, minusI]
  | x :: s, acc, h => by
    have hl : acc.length < 16777216 := by simp at h; omega
    have hd : thD (p, f) = .tuple [.tuple (p.map PyData.int), .bool f] := rfl
    have ih1 := comp_gone a0 a1 a3 a4 a5 a6 p f s (acc ++ [.int x]) (by simp at h ⊢; omega)
    have ih2 := comp_gone a0 a1 a3 a4 a5 a6 p f s acc (by simp at h ⊢; omega)
    rw [List.map_cons]
    clear h
    cases hc : p.contains x
    · have e : minusI (x :: s) p = x :: minusI s p := by simp only [minusI, List.filter_cons, hc]; rfl
      rw [e, List.map_cons]
      rw [hd] at ih1 ih2 ⊢
      clear hd
      walk_at "ev"
      simp
    · have e : minusI (x :: s) p = minusI s p := by simp only [minusI, List.filter_cons, hc]; rfl
      rw [e]
      rw [hd] at ih1 ih2 ⊢
      clear hd
      walk_at "ev"
def extraI (empty : Bool) (d : Int) (last : Bool) : Int := if !last || (!empty || decide (2 < d)) then 0 else 3 - d
theorem extra_eq (empty : Bool) (d : Int) (last : Bool) : f_extra_for [.d (.bool empty), .d (.int d), .d (.bool last)] = .ok (.d (.int (extraI empty d last))) [.no, .no, .no] := by
  unfold f_extra_for mb_extra_for extraI
  cases last <;> cases empty <;> cases h : decide (2 < d) <;> walk_at "ev" <;> simp
def leftI (s : List Int) (t : Thr) : List Int := if t.2 then s else minusI s t.1
def moreI (th : Int) (s : List Int) (d e : Int) (last : Bool) : Int := if 0 < e then e - 1 else if s.isEmpty || decide (d = th) then extraI s.isEmpty d last else e
def goneI (r th : Int) (st : Stt) (t : Thr) (last : Bool) : Stt :=
  (if decide (0 < moreI th (leftI st.1 t) (st.2.1 + 1) st.2.2 last) && (leftI st.1 t).isEmpty then allI r else leftI st.1 t, st.2.1 + 1, moreI th (leftI st.1 t) (st.2.1 + 1) st.2.2 last)
def tlGone : SM :=
  (mSeq (mIte (asB (mBin gGt (mV 6) (mC (.int 0)))) (mSet 6 (mBin gSub (mV 6) (mC (.int 1)))) (mIte (mOr (mNot (mTruth (mV 4))) (asB (mBin (gEq false) (mV 5) (mBin gIx (mV 0) (mC (.int 1)))))) (mSet 6 (mCall f_extra_for (aCons (mNotV (mV 4)) (aCons (mV 5) (aLast (mV 3)))))) mNx))
  (mSeq (mIte (mAnd (asB (mBin gGt (mV 6) (mC (.int 0)))) (mNot (mTruth (mV 4)))) (mSet 4 (mCall f_all_pins (aLast (mV 0)))) mNx)
  (mRet (mTup (dCons (mV 4) (dCons (mV 5) (dCons (mV 6) dNil)))))))
theorem mb_gone : mb_gone_on = mSeq (mAsg (gTupM [(setD 4), (setD 5), (setD 6)]) (mV 1)) (mSeq (mSet 5 (mBin gAdd (mV 5) (mC (.int 1)))) (mSeq (mIte (mNot (mTruth (mBin gIx (mV 2) (mC (.int 1))))) (mSet 4 (mBi gTuple (fLast (mComp (mIter (mV 4)) (setD 7) ct2_gone_on ce1_gone_on [7])))) mNx) tlGone)) := rfl
theorem gone_eq {r th n : Int} (h : okR r th n) (st : Stt) (t : Thr) (last : Bool) (hl : st.1.length ≤ 100) :
    f_gone_on [.d (rulesD r th n), .d (stD st), .d (thD t), .d (.bool last)] = .ok (.d (stD (goneI r th st t last))) [.no, .no, .no, .no] := by
  obtain ⟨s, d, e⟩ := st
  obtain ⟨p, f⟩ := t
  have ha := all_eq h
  have hr : rulesD r th n = .tuple [.int r, .int th, .int n] := rfl
  have hc := comp_gone (.d (rulesD r th n)) (.d (stD (s, d, e))) (.d (.bool last)) (.d (.tuple (s.map PyData.int))) (.d (.int (d + 1))) (.d (.int e)) p f s [] (by simp at hl ⊢; omega)
  rw [List.nil_append] at hc
  have hg : gTupM [(setD 4), (setD 5), (setD 6)] (stD (s, d, e)) [.d (rulesD r th n), .d (stD (s, d, e)), .d (thD (p, f)), .d (.bool last), .no, .no, .no, .no] =
    some [.d (rulesD r th n), .d (stD (s, d, e)), .d (thD (p, f)), .d (.bool last), .d (.tuple (s.map PyData.int)), .d (.int d), .d (.int e), .no] := rfl
  have hth : thD (p, f) = .tuple [.tuple (p.map PyData.int), .bool f] := rfl
  have hr1 : gIx (rulesD r th n) (.int 1) = some (.d (.int th)) := by rw [hr, o_ix2, x_at1]; rfl
  have hx1 : gIx (thD (p, f)) (.int 1) = some (.d (.bool f)) := by rw [hth, o_ix2, x_at1]; rfl
  clear hr hth h hl
  have run : ∀ s' : List Int, leftI s (p, f) = s' → tlGone
    [.d (rulesD r th n), .d (stD (s, d, e)), .d (thD (p, f)), .d (.bool last), .d (.tuple (s'.map PyData.int)), .d (.int (d + 1)), .d (.int e), .no] =
    .ok (.rt (.d (stD (goneI r th (s, d, e) (p, f) last)))) [.d (rulesD r th n), .d (stD (s, d, e)), .d (thD (p, f)), .d (.bool last), .d (.tuple ((goneI r th (s, d, e) (p, f) last).1.map PyData.int)), .d (.int (d + 1)), .d (.int (goneI r th (s, d, e) (p, f) last).2.2), .no] := by
    intro s' hs'
    have hem : (s'.map PyData.int).isEmpty = s'.isEmpty := by cases s' <;> rfl
    have hx := extra_eq s'.isEmpty (d + 1) last
    have hmore : ∀ m, moreI th s' (d + 1) e last = m → goneI r th (s, d, e) (p, f) last = (if decide (0 < m) && s'.isEmpty then allI r else s', d + 1, m) := by
      intro m hm
      unfold goneI
      dsimp only
      rw [hs', hm]
    generalize hm : moreI th s' (d + 1) e last = m at hmore
    have hG := hmore m rfl
    rw [hG]
    unfold stD tlGone
    clear hG hmore hc hg hx1
    unfold moreI at hm
    have hm' : (if decide (0 < e) = true then e - 1 else if (s'.isEmpty || decide (d + 1 = th)) = true then extraI s'.isEmpty (d + 1) last else e) = m := by rw [← hm]; simp only [decide_eq_true_eq]
    clear hm
    have hm := hm'
    clear hm'
    cases h0 : decide (0 < m) <;> cases h6 : decide (0 < e) <;> cases hE : s'.isEmpty <;> cases hD : decide (d + 1 = th) <;> rw [h6, hE, hD] at hm <;>
      simp only [decide_true, decide_false, eq_self, if_true, if_false, Bool.false_eq_true, Bool.or_false, Bool.or_true, Bool.false_or, Bool.or_self, Bool.true_or] at hm <;> rw [hE] at hx hem <;> subst hm <;> clear hE <;> walk_at "ev"
  cases hf : f
  · have hs' := run (minusI s p) (by unfold leftI; rw [hf]; rfl)
    subst hf
    unfold f_gone_on
    rw [mb_gone]
    clear run ha
    walk_at "ev"
  · have hs' := run s (by unfold leftI; rw [hf]; rfl)
    subst hf
    unfold f_gone_on
    rw [mb_gone]
    clear run ha
    walk_at "ev"
def turnD (ts : List Thr) : D := .tuple (ts.map thD)
def begI (r : Int) : Stt := (allI r, 0, -1)
def walkI (r th : Int) (last : Bool) (ts : List Thr) (st : Stt) : Stt := ts.foldl (fun s t => goneI r th s t last) st
theorem beg_eq {r th n : Int} (h : okR r th n) : f_begun [.d (rulesD r th n)] = .ok (.d (stD (begI r))) [.no] := by
  have h1 := all_eq h
  unfold f_begun mb_begun stD begI
  clear h
  walk_at "ev"
  all_goals rfl
theorem gone_len {r th n : Int} (h : okR r th n) (st : Stt) (t : Thr) (last : Bool) (hl : st.1.length ≤ 10) : (goneI r th st t last).1.length ≤ 10 := by
  unfold goneI
  dsimp only
  split
  · have := pinsI_le h
    rw [allI_len]; omega
  · unfold leftI
    split
    · exact hl
    · exact Nat.le_trans (minus_le _ _) hl
theorem beg_len {r th n : Int} (h : okR r th n) : (begI r).1.length ≤ 10 := by
  have := pinsI_le h
  unfold begI
  dsimp only
  rw [allI_len]; omega
theorem walk_len {r th n : Int} (h : okR r th n) (last : Bool) : ∀ (ts : List Thr) (st : Stt), st.1.length ≤ 10 → (walkI r th last ts st).1.length ≤ 10
  | [], st, hl => hl
  | t :: ts, st, hl => walk_len h last ts _ (gone_len h st t last hl)
theorem walk_loop {r th n : Int} (h : okR r th n) (last : Bool) (T : Sl) : ∀ (ts : List Thr) (st : Stt) (x : Sl), st.1.length ≤ 10 → free x = true →
    ∃ x', loopD (setD 4) lp1_walked (ts.map thD) [.d (rulesD r th n), T, .d (.bool last), .d (stD st), x] = .ok .nx [.d (rulesD r th n), T, .d (.bool last), .d (stD (walkI r th last ts st)), x']
  | [], st, x, _, _ => ⟨x, rfl⟩
  | t :: ts, st, x, hl, hx => by
    obtain ⟨x', ih⟩ := walk_loop h last T ts (goneI r th st t last) (.d (thD t)) (gone_len h st t last hl) rfl
    refine ⟨x', ?_⟩
    have hg := gone_eq h st t last (by omega)
    have e : walkI r th last (t :: ts) st = walkI r th last ts (goneI r th st t last) := rfl
    rw [e, List.map_cons]
    have hlp := lp1_walked.eq_1
    clear h hl
    walk_at "ev"
theorem walked_eq {r th n : Int} (h : okR r th n) (last : Bool) (ts : List Thr) : f_walked [.d (rulesD r th n), .d (turnD ts), .d (.bool last)] = .ok (.d (stD (walkI r th last ts (begI r)))) [.no, .no, .no] := by
  obtain ⟨x', hw⟩ := walk_loop h last (.d (turnD ts)) ts (begI r) .no (beg_len h) rfl
  have hb := beg_eq h
  have ht : turnD ts = .tuple (ts.map thD) := rfl
  have hi : iterD (turnD ts) [.d (rulesD r th n), .d (turnD ts), .d (.bool last), .d (stD (begI r)), .no] = .ok (ts.map thD, none) [.d (rulesD r th n), .d (turnD ts), .d (.bool last), .d (stD (begI r)), .no] := rfl
  unfold f_walked mb_walked
  clear h ht
  walk_at "ev"
theorem st_ix0 (st : Stt) : gIx (stD st) (.int 0) = some (.d (.tuple (st.1.map PyData.int))) := by unfold stD; rw [o_ix2, x_at0]; rfl
theorem st_ix1 (st : Stt) : gIx (stD st) (.int 1) = some (.d (.int st.2.1)) := by unfold stD; rw [o_ix2, x_at1]; rfl
theorem st_ix2 (st : Stt) : gIx (stD st) (.int 2) = some (.d (.int st.2.2)) := by unfold stD; rw [o_ix2, x_at2]; rfl
theorem standing_eq {r th n : Int} (h : okR r th n) (last : Bool) (ts : List Thr) : f_standing [.d (rulesD r th n), .d (turnD ts), .d (.bool last)] = .ok (.d (.tuple ((walkI r th last ts (begI r)).1.map PyData.int))) [.no, .no, .no] := by
  have h1 := walked_eq h last ts
  have h2 := st_ix0 (walkI r th last ts (begI r))
  unfold f_standing mb_standing
  clear h
  walk_at "ev"
theorem over_eq {r th n : Int} (h : okR r th n) (last : Bool) (ts : List Thr) : f_is_over [.d (rulesD r th n), .d (turnD ts), .d (.bool last)] = .ok (.d (.bool (decide ((walkI r th last ts (begI r)).2.2 = 0)))) [.no, .no, .no] := by
  have h1 := walked_eq h last ts
  have h2 := st_ix2 (walkI r th last ts (begI r))
  unfold f_is_over mb_is_over
  clear h
  walk_at "ev"
/-! kinds -/
def kinI (r th : Int) (st : Stt) (t : Thr) : Stt := if decide (st.2.2 = 0) then st else goneI r th st t false
def kindW (r th : Int) (ts : List Thr) (st : Stt) : Stt := ts.foldl (fun s t => kinI r th s t) st
theorem kin_len {r th n : Int} (h : okR r th n) (st : Stt) (t : Thr) (hl : st.1.length ≤ 10) : (kinI r th st t).1.length ≤ 10 := by
  unfold kinI
  split
  · exact hl
  · exact gone_len h st t false hl
theorem kind_loop {r th n : Int} (h : okR r th n) (T : Sl) : ∀ (ts : List Thr) (st : Stt) (x : Sl), st.1.length ≤ 10 → free x = true →
    ∃ x', loopD (setD 3) lp1_kind_of (ts.map thD) [.d (rulesD r th n), T, .d (stD st), x] = .ok .nx [.d (rulesD r th n), T, .d (stD (kindW r th ts st)), x']
  | [], st, x, _, _ => ⟨x, rfl⟩
  | t :: ts, st, x, hl, hx => by
    obtain ⟨x', ih⟩ := kind_loop h T ts (kinI r th st t) (.d (thD t)) (kin_len h st t hl) rfl
    refine ⟨x', ?_⟩
    have hg := gone_eq h st t false (by omega)
    have h2 := st_ix2 st
    have e : kindW r th (t :: ts) st = kindW r th ts (kinI r th st t) := rfl
    rw [e, List.map_cons]
    unfold kinI at ih ⊢
    have hlp := lp1_kind_of.eq_1
    cases h0 : decide (st.2.2 = 0)
    · rw [h0] at ih
      rw [if_neg (by decide)] at ih ⊢
      clear h hl e
      walk_at "ev"
    · rw [h0] at ih
      rw [if_pos rfl] at ih ⊢
      clear h hl e
      walk_at "ev"
def wordD : Int → D
  | 1 => .str "strike"
  | 2 => .str "spare"
  | _ => .str "late"
def kindP (st : Stt) : D := if decide (st.2.2 = 0) then (if st.1.isEmpty then wordD st.2.1 else .str "open") else .none
theorem kindP_eq {r th n : Int} (h : okR r th n) (ts : List Thr) (hw : (kindW r th ts (begI r)).2.2 = 0 → (kindW r th ts (begI r)).2.1 = 1 ∨ (kindW r th ts (begI r)).2.1 = 2 ∨ (kindW r th ts (begI r)).2.1 = 3) :
    f_kind_of [.d (rulesD r th n), .d (turnD ts)] = .ok (.d (kindP (kindW r th ts (begI r)))) [.no, .no] := by
  obtain ⟨x', hl⟩ := kind_loop h (.d (turnD ts)) ts (begI r) .no (beg_len h) rfl
  have hb := beg_eq h
  have hi : iterD (turnD ts) [.d (rulesD r th n), .d (turnD ts), .d (stD (begI r)), .no] = .ok (ts.map thD, none) [.d (rulesD r th n), .d (turnD ts), .d (stD (begI r)), .no] := rfl
  unfold f_kind_of mb_kind_of
  generalize kindW r th ts (begI r) = st at hw hl
  have h0 := st_ix0 st
  have h1 := st_ix1 st
  have h2 := st_ix2 st
  unfold kindP
  have hem : (st.1.map PyData.int).isEmpty = st.1.isEmpty := by cases st.1 <;> rfl
  clear h
  cases hz : decide (st.2.2 = 0)
  · clear hw
    walk_at "ev"
  · have hw := hw (of_decide_eq_true hz)
    cases hE : st.1.isEmpty
    · rw [hE] at hem
      clear hw
      walk_at "ev"
    · rw [hE] at hem
      rcases hw with e | e | e
      · have a1 : atI [PyData.str "strike", .str "spare", .str "late"] ((1 : Int) - 1) = some (.str "strike") := x_at0
        rw [e] at h1 ⊢
        clear e
        walk_at "ev"
        all_goals rfl
      · have a1 : atI [PyData.str "strike", .str "spare", .str "late"] ((2 : Int) - 1) = some (.str "spare") := x_at1
        rw [e] at h1 ⊢
        clear e
        walk_at "ev"
        all_goals rfl
      · have a1 : atI [PyData.str "strike", .str "spare", .str "late"] ((3 : Int) - 1) = some (.str "late") := x_at2
        rw [e] at h1 ⊢
        clear e
        walk_at "ev"
        all_goals rfl
def lw0 (S : Sg) : Out Fl := (mIte (mNot (mTruth (mBin gIx (mV 6) (mC (.int 1))))) (mSet 3 (mBi gTuple (fLast (mComp (mIter (mV 3)) (setD 7) ct2__law_walked ce1__law_walked [7])))) mNx) S
def lw1 (S : Sg) : Out Fl := (mIte (mAnd (asB (mBin (gIs false) (mV 4) (mC .none))) (mOr (asB (mBin (gEq false) (mV 3) (mTup dNil))) (asB (mBin (gEq false) (mBin gAdd (mV 5) (mC (.int 1))) (mBin gIx (mV 0) (mC (.int 1))))))) (mSet 4 (mIte (mAnd (mTruth (mV 2)) (asB (mBin (gEq false) (mV 3) (mTup dNil)))) (mC (.int 3)) (mBin gAdd (mV 5) (mC (.int 1))))) mNx) S
def lw2 (S : Sg) : Out Fl := (mIte (mAnd (asB (mBin (gEq false) (mV 3) (mTup dNil))) (mAnd (asB (mBin (gEq false) (mV 4) (mC (.int 3)))) (mAnd (mTruth (mV 2)) (asB (mBin gLt (mV 5) (mC (.int 2))))))) (mSet 3 (mCall f__law_every (aLast (mV 0)))) mNx) S
theorem lw_seq (S : Sg) : lp3__law_walked S = (mSeq lw0 (mSeq lw1 lw2)) S := rfl
/-! turns, by hand -/
theorem comp_lw (a0 a1 a2 a3 a4 a5 : Sl) (p : List Int) (f : Bool) : ∀ (s : List Int) (acc : List D), acc.length + s.length ≤ 1000 →
    compD (setD 7) ct2__law_walked ce1__law_walked [7] (s.map PyData.int) acc [a0, a1, a2, a3, a4, a5, .d (thD (p, f)), .no] = .ok (acc ++ (minusI s p).map PyData.int) [a0, a1, a2, a3, a4, a5, .d (thD (p, f)), .no]
  | [], acc, _ => by simp [compD, minusI]
  | x :: s, acc, h => by
    have hl : acc.length < 16777216 := by simp at h; omega
    have hd : thD (p, f) = .tuple [.tuple (p.map PyData.int), .bool f] := rfl
    have ih1 := comp_lw a0 a1 a2 a3 a4 a5 p f s (acc ++ [.int x]) (by simp at h ⊢; omega)
    have ih2 := comp_lw a0 a1 a2 a3 a4 a5 p f s acc (by simp at h ⊢; omega)
    rw [List.map_cons]
    clear h
    cases hc : p.contains x
    · have e : minusI (x :: s) p = x :: minusI s p := by simp only [minusI, List.filter_cons, hc]; rfl
      rw [e, List.map_cons]
      rw [hd] at ih1 ih2 ⊢
      clear hd
      walk_at "ev"
      simp
    · have e : minusI (x :: s) p = minusI s p := by simp only [minusI, List.filter_cons, hc]; rfl
      rw [e]
      rw [hd] at ih1 ih2 ⊢
      clear hd
      walk_at "ev"
def endD : Option Int → D
  | none => .none
  | some k => .int k
theorem end_none (e : Option Int) : isNonD (endD e) = e.isNone := by cases e <;> rfl
theorem end_eq (e : Option Int) : gEq false (endD e) (.int 3) = some (.d (.bool (decide (e = some 3)))) := by
  cases e with
  | none =>
    have h1 := o_eq (fineN_non 64) (fineN_int 64 3)
    rw [show endD none = .none from rfl, h1]
    simp [PyData.eqv]
  | some k =>
    rw [show endD (some k) = .int k from rfl, x_eqII]
    simp
def lendI (th : Int) (last : Bool) (i : Int) (s1 : List Int) (e : Option Int) : Option Int := if e.isNone && (s1.isEmpty || decide (i + 1 = th)) then some (if last && s1.isEmpty then 3 else i + 1) else e
def lfillI (r : Int) (last : Bool) (i : Int) (s1 : List Int) (e : Option Int) : List Int := if s1.isEmpty && (decide (e = some 3) && (last && decide (i < 2))) then allI r else s1
def lawI (r th : Int) (last : Bool) (i : Int) (st : List Int × Option Int) (t : Thr) : List Int × Option Int :=
  (lfillI r last i (leftI st.1 t) (lendI th last i (leftI st.1 t) st.2), lendI th last i (leftI st.1 t) st.2)
theorem th_ix1 (t : Thr) : gIx (thD t) (.int 1) = some (.d (.bool t.2)) := by unfold thD; rw [o_ix2, x_at1]; rfl
theorem th_ix0 (t : Thr) : gIx (thD t) (.int 0) = some (.d (.tuple (t.1.map PyData.int))) := by unfold thD; rw [o_ix2, x_at0]; rfl
theorem ru_ix1 (r th n : Int) : gIx (rulesD r th n) (.int 1) = some (.d (.int th)) := by unfold rulesD; rw [o_ix2, x_at1]; rfl
theorem lw_step {r th n : Int} (h : okR r th n) (last : Bool) (i : Int) (s : List Int) (e : Option Int) (t : Thr) (T : Sl) (hl : s.length ≤ 100) :
    lp3__law_walked [.d (rulesD r th n), T, .d (.bool last), .d (.tuple (s.map PyData.int)), .d (endD e), .d (.int i), .d (thD t), .no] =
      .ok .nx [.d (rulesD r th n), T, .d (.bool last), .d (.tuple ((lawI r th last i (s, e) t).1.map PyData.int)), .d (endD (lawI r th last i (s, e) t).2), .d (.int i), .d (thD t), .no] := by
  have A : lw0 [.d (rulesD r th n), T, .d (.bool last), .d (.tuple (s.map PyData.int)), .d (endD e), .d (.int i), .d (thD t), .no] =
      .ok .nx [.d (rulesD r th n), T, .d (.bool last), .d (.tuple ((leftI s t).map PyData.int)), .d (endD e), .d (.int i), .d (thD t), .no] := by
    have h1 := th_ix1 t
    obtain ⟨p, f⟩ := t
    have hc := comp_lw (.d (rulesD r th n)) T (.d (.bool last)) (.d (.tuple (s.map PyData.int))) (.d (endD e)) (.d (.int i)) p f s [] (by simp; omega)
    rw [List.nil_append] at hc
    unfold lw0 leftI
    clear h hl
    cases f <;> walk_at "ev"
  have B : ∀ s1 : List Int, lw1 [.d (rulesD r th n), T, .d (.bool last), .d (.tuple (s1.map PyData.int)), .d (endD e), .d (.int i), .d (thD t), .no] =
      .ok .nx [.d (rulesD r th n), T, .d (.bool last), .d (.tuple (s1.map PyData.int)), .d (endD (lendI th last i s1 e)), .d (.int i), .d (thD t), .no] := by
    intro s1
    have h1 := end_none e
    have h2 := ru_ix1 r th n
    unfold lw1 lendI
    clear h hl A
    cases hE : s1.isEmpty <;> cases hN : e.isNone <;> cases hD : decide (i + 1 = th) <;> cases last <;> rw [hN] at h1 <;> walk_at "ev" <;> rfl
  have C : ∀ (s1 : List Int) (e1 : Option Int), lw2 [.d (rulesD r th n), T, .d (.bool last), .d (.tuple (s1.map PyData.int)), .d (endD e1), .d (.int i), .d (thD t), .no] =
      .ok .nx [.d (rulesD r th n), T, .d (.bool last), .d (.tuple ((lfillI r last i s1 e1).map PyData.int)), .d (endD e1), .d (.int i), .d (thD t), .no] := by
    intro s1 e1
    have h1 := end_eq e1
    have h2 := every_eq h
    unfold lw2 lfillI
    clear h hl A B
    cases hE : s1.isEmpty <;> cases hN : decide (e1 = some 3) <;> cases hD : decide (i < 2) <;> cases last <;> rw [hN] at h1 <;> walk_at "ev"
  rw [lw_seq, e_seq, A, e_seq1, e_seq, B, e_seq1, C]
  rfl
def lk0 (S : Sg) : Out Fl := (mIte (mNot (mTruth (mBin gIx (mV 4) (mC (.int 1))))) (mSet 2 (mBi gTuple (fLast (mComp (mIter (mV 2)) (setD 5) ct2__law_kind ce1__law_kind [5])))) mNx) S
def lk1 (S : Sg) : Out Fl := (mIte (asB (mBin (gEq false) (mV 2) (mTup dNil))) (mRet (mBin gIx (mLst (dCons (mC (.str "strike")) (dCons (mC (.str "spare")) (dCons (mC (.str "late")) dNil)))) (mV 3))) mNx) S
theorem lk_seq (S : Sg) : lp3__law_kind S = (mSeq lk0 lk1) S := rfl
def lwalkI (r th : Int) (last : Bool) : Nat → List Thr → List Int × Option Int → List Int × Option Int
  | _, [], st => st
  | k, t :: ts, st => lwalkI r th last (k + 1) ts (lawI r th last (k : Int) st t)
theorem law_len {r th n : Int} (h : okR r th n) (last : Bool) (i : Int) (st : List Int × Option Int) (t : Thr) (hl : st.1.length ≤ 10) : (lawI r th last i st t).1.length ≤ 10 := by
  unfold lawI lfillI
  dsimp only
  split
  · have := pinsI_le h
    rw [allI_len]; omega
  · unfold leftI
    split
    · exact hl
    · exact Nat.le_trans (minus_le _ _) hl
theorem lw_loop {r th n : Int} (h : okR r th n) (last : Bool) (T : Sl) : ∀ (ts : List Thr) (k : Nat) (st : List Int × Option Int) (x5 x6 : Sl), st.1.length ≤ 10 → free x5 = true → free x6 = true →
    ∃ x5' x6', loopD (gTupM [(setD 5), (setD 6)]) lp3__law_walked (numD k (ts.map thD)) [.d (rulesD r th n), T, .d (.bool last), .d (.tuple (st.1.map PyData.int)), .d (endD st.2), x5, x6, .no] =
      .ok .nx [.d (rulesD r th n), T, .d (.bool last), .d (.tuple ((lwalkI r th last k ts st).1.map PyData.int)), .d (endD (lwalkI r th last k ts st).2), x5', x6', .no]
  | [], k, st, x5, x6, _, _, _ => ⟨x5, x6, rfl⟩
  | t :: ts, k, st, x5, x6, hl, h5, h6 => by
    obtain ⟨y5, y6, ih⟩ := lw_loop h last T ts (k + 1) (lawI r th last k st t) (.d (.int k)) (.d (thD t)) (law_len h last k st t hl) rfl rfl
    refine ⟨y5, y6, ?_⟩
    have hs := lw_step h last (k : Int) st.1 st.2 t T (by omega)
    have hg : gTupM [(setD 5), (setD 6)] (.tuple [.int (k : Nat), thD t]) [.d (rulesD r th n), T, .d (.bool last), .d (.tuple (st.1.map PyData.int)), .d (endD st.2), x5, x6, .no] =
        some [.d (rulesD r th n), T, .d (.bool last), .d (.tuple (st.1.map PyData.int)), .d (endD st.2), .d (.int (k : Nat)), .d (thD t), .no] := by
      clear h hl ih hs
      simp only [gTupM, gSeq, List.length_cons, List.length_nil, if_true, Option.bind_some, setD, gt_5, gt_6, set_5, set_6, h5, h6]
    show loopD _ _ (.tuple [.int (k : Nat), thD t] :: numD (k + 1) (ts.map thD)) _ = _
    rw [e_loop1, hg, e_loopA, hs, e_loopB1]
    exact ih
def overI (e : Option Int) (m : Nat) : Bool := match e with
  | none => false
  | some k => if decide (k = (m : Int)) then decide ((0 : Int) < (m : Int)) else false
theorem lwalked_eq {r th n : Int} (h : okR r th n) (last : Bool) (ts : List Thr) (hts : ts.length ≤ 1000) : f__law_walked [.d (rulesD r th n), .d (turnD ts), .d (.bool last)] =
    .ok (.d (.tuple [.tuple ((lwalkI r th last 0 ts (allI r, none)).1.map PyData.int), .bool (overI (lwalkI r th last 0 ts (allI r, none)).2 ts.length)])) [.no, .no, .no] := by
  have hb : (allI r).length ≤ 10 := beg_len h
  obtain ⟨y5, y6, hw⟩ := lw_loop h last (.d (turnD ts)) ts 0 (allI r, none) .no .no hb rfl rfl
  have he := every_eq h
  have ht : turnD ts = .tuple (ts.map thD) := rfl
  have hi : ∀ S, enuK [turnD ts] S = .ok (numD 0 (ts.map thD), none) S := fun S => rfl
  have hlen : gLen [turnD ts] = some (.d (.int ts.length)) := by rw [ht, o_len2 (by simp; unfold lim; omega)]; simp
  have hn : endD (allI r, (none : Option Int)).2 = .none := rfl
  rw [hn] at hw
  generalize lwalkI r th last 0 ts (allI r, none) = st at hw
  unfold f__law_walked mb__law_walked
  obtain ⟨s, e⟩ := st
  clear h hb ht hts hn
  cases e with
  | none =>
    have h1 : endD none = .none := rfl
    dsimp only at hw ⊢
    rw [h1] at hw
    unfold overI
    clear h1
    walk_at "ev"
  | some k =>
    have h1 : endD (some k) = .int k := rfl
    dsimp only at hw ⊢
    rw [h1] at hw
    unfold overI
    clear h1
    cases hk : decide (k = (ts.length : Int)) <;> walk_at "ev"
/-! the kind by hand -/
theorem comp_lk (a0 a1 a2 a3 : Sl) (p : List Int) (f : Bool) : ∀ (s : List Int) (acc : List D), acc.length + s.length ≤ 1000 →
    compD (setD 5) ct2__law_kind ce1__law_kind [5] (s.map PyData.int) acc [a0, a1, a2, a3, .d (thD (p, f)), .no] = .ok (acc ++ (minusI s p).map PyData.int) [a0, a1, a2, a3, .d (thD (p, f)), .no]
  | [], acc, _ => by simp [compD, minusI]
  | x :: s, acc, h => by
    have hl : acc.length < 16777216 := by simp at h; omega
    have hd : thD (p, f) = .tuple [.tuple (p.map PyData.int), .bool f] := rfl
    have ih1 := comp_lk a0 a1 a2 a3 p f s (acc ++ [.int x]) (by simp at h ⊢; omega)
    have ih2 := comp_lk a0 a1 a2 a3 p f s acc (by simp at h ⊢; omega)
    rw [List.map_cons]
    clear h
    cases hc : p.contains x
    · have e : minusI (x :: s) p = x :: minusI s p := by simp only [minusI, List.filter_cons, hc]; rfl
      rw [e, List.map_cons]
      rw [hd] at ih1 ih2 ⊢
      clear hd
      walk_at "ev"
      simp
    · have e : minusI (x :: s) p = minusI s p := by simp only [minusI, List.filter_cons, hc]; rfl
      rw [e]
      rw [hd] at ih1 ih2 ⊢
      clear hd
      walk_at "ev"
/-- the first turn in which all falls, or what stands at the end -/
def lkI : Nat → List Thr → List Int → Sum Nat (List Int)
  | _, [], s => .inr s
  | k, t :: ts, s => if (leftI s t).isEmpty then .inl k else lkI (k + 1) ts (leftI s t)
def wordN : Nat → D
  | 0 => .str "strike"
  | 1 => .str "spare"
  | _ => .str "late"
theorem lk_loop {r th n : Int} (T : Sl) : ∀ (ts : List Thr) (k : Nat) (s : List Int) (x3 x4 : Sl), k + ts.length ≤ 3 → s.length ≤ 10 → free x3 = true → free x4 = true →
    ∃ z3 z4 s', loopD (gTupM [(setD 3), (setD 4)]) lp3__law_kind (numD k (ts.map thD)) [.d (rulesD r th n), T, .d (.tuple (s.map PyData.int)), x3, x4, .no] =
      (match lkI k ts s with
        | .inl j => .ok (.rt (.d (wordN j))) [.d (rulesD r th n), T, .d (.tuple s'), z3, z4, .no]
        | .inr s2 => .ok .nx [.d (rulesD r th n), T, .d (.tuple (s2.map PyData.int)), z3, z4, .no])
  | [], k, s, x3, x4, _, _, _, _ => ⟨x3, x4, [], rfl⟩
  | t :: ts, k, s, x3, x4, hk, hl, h3, h4 => by
    have hg : gTupM [(setD 3), (setD 4)] (.tuple [.int (k : Nat), thD t]) [.d (rulesD r th n), T, .d (.tuple (s.map PyData.int)), x3, x4, .no] =
        some [.d (rulesD r th n), T, .d (.tuple (s.map PyData.int)), .d (.int (k : Nat)), .d (thD t), .no] := by
      simp only [gTupM, gSeq, List.length_cons, List.length_nil, if_true, Option.bind_some, setD, gt_3, gt_4, set_3, set_4, h3, h4]
    have A : lk0 [.d (rulesD r th n), T, .d (.tuple (s.map PyData.int)), .d (.int (k : Nat)), .d (thD t), .no] = .ok .nx [.d (rulesD r th n), T, .d (.tuple ((leftI s t).map PyData.int)), .d (.int (k : Nat)), .d (thD t), .no] := by
      have h1 := th_ix1 t
      obtain ⟨p, f⟩ := t
      have hc := comp_lk (.d (rulesD r th n)) T (.d (.tuple (s.map PyData.int))) (.d (.int (k : Nat))) p f s [] (by simp; omega)
      rw [List.nil_append] at hc
      unfold lk0 leftI
      clear hl hg hk
      cases f <;> walk_at "ev"
    cases hE : (leftI s t).isEmpty
    · have hle : (leftI s t).length ≤ 10 := by
        unfold leftI
        split
        · exact hl
        · exact Nat.le_trans (minus_le _ _) hl
      obtain ⟨z3, z4, s', ih⟩ := lk_loop (r := r) (th := th) (n := n) T ts (k + 1) (leftI s t) (.d (.int (k : Nat))) (.d (thD t)) (by simp at hk; omega) hle rfl rfl
      refine ⟨z3, z4, s', ?_⟩
      have e : lkI k (t :: ts) s = lkI (k + 1) ts (leftI s t) := by
        show (if (leftI s t).isEmpty then _ else _) = _
        rw [hE]; rfl
      have Bq : lk1 [.d (rulesD r th n), T, .d (.tuple ((leftI s t).map PyData.int)), .d (.int (k : Nat)), .d (thD t), .no] = .ok .nx [.d (rulesD r th n), T, .d (.tuple ((leftI s t).map PyData.int)), .d (.int (k : Nat)), .d (thD t), .no] := by
        unfold lk1
        clear ih A hg e hle hl hk
        walk_at "ev"
      show loopD _ _ (.tuple [.int (k : Nat), thD t] :: numD (k + 1) (ts.map thD)) _ = _
      rw [e, e_loop1, hg, e_loopA, lk_seq, e_seq, A, e_seq1, Bq, e_loopB1]
      exact ih
    · refine ⟨.d (.int (k : Nat)), .d (thD t), (leftI s t).map PyData.int, ?_⟩
      have e : lkI k (t :: ts) s = .inl k := by
        show (if (leftI s t).isEmpty then _ else _) = _
        rw [hE]; rfl
      have hat : atI [PyData.str "strike", .str "spare", .str "late"] ((k : Nat) : Int) = some (wordN k) := by
        have : k = 0 ∨ k = 1 ∨ k = 2 := by simp at hk; omega
        rcases this with rfl | rfl | rfl
        · exact x_at0
        · exact x_at1
        · exact x_at2
      have Bq : lk1 [.d (rulesD r th n), T, .d (.tuple ((leftI s t).map PyData.int)), .d (.int (k : Nat)), .d (thD t), .no] = .ok (.rt (.d (wordN k))) [.d (rulesD r th n), T, .d (.tuple ((leftI s t).map PyData.int)), .d (.int (k : Nat)), .d (thD t), .no] := by
        unfold lk1
        clear A hg e hl hk
        walk_at "ev"
      show loopD _ _ (.tuple [.int (k : Nat), thD t] :: numD (k + 1) (ts.map thD)) _ = _
      rw [e, e_loop1, hg, e_loopA, lk_seq, e_seq, A, e_seq1, Bq]
      rfl
def lkindD (th : Int) (ts : List Thr) (r : Int) : D := match lkI 0 (ts.take th.toNat) (allI r) with
  | .inl j => wordN j
  | .inr _ => if decide (th ≤ (ts.length : Int)) then .str "open" else .none
theorem lkind_eq {r th n : Int} (h : okR r th n) (ts : List Thr) (hts : ts.length ≤ 1000) : f__law_kind [.d (rulesD r th n), .d (turnD ts)] = .ok (.d (lkindD th ts r)) [.no, .no] := by
  have hb : (allI r).length ≤ 10 := beg_len h
  have hth : 2 ≤ th ∧ th ≤ 3 := ⟨h.2.2.1, h.2.2.2.1⟩
  obtain ⟨z3, z4, s', hw⟩ := lk_loop (r := r) (th := th) (n := n) (.d (turnD ts)) (ts.take th.toNat) 0 (allI r) .no .no (by rw [List.length_take]; omega) hb rfl rfl
  have he := every_eq h
  have hr := ru_ix1 r th n
  have hcut : gSl (turnD ts) none (some th) = some (.d (.tuple ((ts.take th.toNat).map thD))) := by
    show some (Rs.d (.tuple (cutD (ts.map thD) none (some th)))) = _
    have e : cutD (ts.map thD) none (some th) = (ts.take th.toNat).map thD := by
      have hn : HT.sIx (ts.map thD).length 0 none = 0 := rfl
      have hm : HT.sIx (ts.map thD).length (ts.map thD).length (some th) = min th.toNat (ts.map thD).length := by
        show (if th < 0 then _ else _) = _
        rw [if_neg (by omega)]
      unfold cutD
      rw [hn, hm, List.drop_zero, Nat.sub_zero, List.map_take]
      rw [← List.take_take, List.take_length]
    rw [e]
  have hi : ∀ S, enuK [.tuple ((ts.take th.toNat).map thD)] S = .ok (numD 0 ((ts.take th.toNat).map thD), none) S := fun S => rfl
  have hlen : gLen [turnD ts] = some (.d (.int ts.length)) := by rw [show turnD ts = .tuple (ts.map thD) from rfl, o_len2 (by simp; unfold lim; omega)]; simp
  unfold f__law_kind mb__law_kind lkindD
  cases hk : lkI 0 (ts.take th.toNat) (allI r) with
  | inl j =>
    rw [hk] at hw
    dsimp only at hw ⊢
    clear h hb hts hth hk
    walk_at "ev"
  | inr s2 =>
    rw [hk] at hw
    dsimp only at hw ⊢
    clear h hb hts hth hk
    cases hc : decide (th ≤ (ts.length : Int)) <;> walk_at "ev"
/-! what is drawn -/
theorem pick_eq (ns : List Int) (n : Nat) (xs : List D) (h0 : 0 < xs.length) (hx : xs.length ≤ 1000) (hn : n < 1000000) (hl : ns.length ≤ 63) :
    ∃ x, x ∈ xs ∧ f__law_pick [.d (scrD ns), .own true (.lst (tw n)), .own true (.lst xs)] = .ok (.d x) [.no, .own true (.lst (tw (n + 1))), .own true (.lst xs)] := by
  have hd := draw_eq ns n xs.length (by omega) hn hl
  obtain ⟨b1, b2⟩ := drawI_nn ns n (many := xs.length) (by omega)
  have hi : (drawI ns n xs.length).toNat < xs.length := by omega
  have e : drawI ns n xs.length = (((drawI ns n xs.length).toNat : Nat) : Int) := by omega
  have ha : atI xs (drawI ns n xs.length) = some xs[(drawI ns n xs.length).toNat] := by
    have h9 := at_nat (List.getElem?_eq_getElem hi)
    rw [← e] at h9
    exact h9
  refine ⟨xs[(drawI ns n xs.length).toNat], List.getElem_mem hi, ?_⟩
  generalize hq : xs[(drawI ns n xs.length).toNat] = q at ha
  have hlen := o_len1 (xs := xs) (show xs.length ≤ 16777216 by omega)
  unfold f__law_pick mb__law_pick
  clear e hi b1 b2 h0 hx hn hl hq
  walk_at "ev"
theorem comp_few (ns : List Int) (hl : ns.length ≤ 63) (a2 a3 : Sl) : ∀ (ps : List Int) (n : Nat) (acc : List D), n + ps.length < 1000000 → acc.length + ps.length ≤ 1000 →
    ∃ q : List Int, q.Sublist ps ∧ compD (setD 4) ct2__law_few ce1__law_few [4] (ps.map PyData.int) acc [.d (scrD ns), .own true (.lst (tw n)), a2, a3, .no] =
      .ok (acc ++ q.map PyData.int) [.d (scrD ns), .own true (.lst (tw (n + ps.length))), a2, a3, .no]
  | [], n, acc, _, _ => ⟨[], .slnil, by simp [compD]⟩
  | p :: ps, n, acc, hn, ha => by
    have hd := draw_eq ns n 2 (by decide) (by simp at hn; omega) hl
    obtain ⟨q1, s1, ih1⟩ := comp_few ns hl a2 a3 ps (n + 1) (acc ++ [.int p]) (by simp at hn; omega) (by simp at ha ⊢; omega)
    obtain ⟨q2, s2, ih2⟩ := comp_few ns hl a2 a3 ps (n + 1) acc (by simp at hn; omega) (by simp at ha ⊢; omega)
    have h1 : acc.length < 16777216 := by simp at ha; omega
    have e : n + 1 + ps.length = n + (p :: ps).length := by simp; omega
    rw [e] at ih1 ih2
    generalize n + (p :: ps).length = N at ih1 ih2
    rw [List.map_cons]
    cases hc : decide (drawI ns n 2 = 0)
    · refine ⟨q2, .cons p s2, ?_⟩
      clear hn ha ih1 s1 s2 e
      walk_at "ev"
    · refine ⟨p :: q1, .cons₂ p s1, ?_⟩
      clear hn ha ih2 s1 s2 e
      walk_at "ev"
      simp
theorem few_eq (ns : List Int) (hl : ns.length ≤ 63) (n : Nat) (ps : List Int) (hn : n ≤ 100000) (hp : ps.length ≤ 100) :
    ∃ (q : List Int) (m : Nat), q.Sublist ps ∧ n ≤ m ∧ m ≤ n + 1 + ps.length ∧ f__law_few [.d (scrD ns), .own true (.lst (tw n)), .d (.tuple (ps.map PyData.int))] = .ok (.d (.tuple (q.map PyData.int))) [.no, .own true (.lst (tw m)), .no] := by
  have hd := draw_eq ns n 7 (by decide) (by omega) hl
  obtain ⟨b1, b2⟩ := drawI_nn ns n (many := 7) (by decide)
  obtain ⟨q, sq, hc⟩ := comp_few ns hl (.d (.tuple (ps.map PyData.int))) (.d (.int (drawI ns n 7))) ps (n + 1) [] (by omega) (by simp; omega)
  generalize drawI ns n 7 = v at hd b1 b2 hc
  have hm : gMulT (.tuple (ps.map PyData.int)) (.int v) = some (.d (.tuple (List.replicate v.toNat (ps.map PyData.int)).flatten)) := x_mulTT ⟨by omega, by omega, by simp; omega⟩
  cases h2 : decide (v < 2)
  · cases h3 : decide (v = 2)
    · refine ⟨q, n + 1 + ps.length, sq, by omega, Nat.le_refl _, ?_⟩
      unfold f__law_few mb__law_few
      rw [List.nil_append] at hc
      clear b1 b2 hn hp sq hm
      walk_at "ev"
    · refine ⟨ps, n + 1, List.Sublist.refl _, by omega, by omega, ?_⟩
      unfold f__law_few mb__law_few
      clear b1 b2 hn hp sq hm hc
      walk_at "ev"
  · have hv : v < 2 := of_decide_eq_true h2
    have hv : v = 0 ∨ v = 1 := by omega
    rcases hv with rfl | rfl
    · refine ⟨[], n + 1, List.nil_sublist _, by omega, by omega, ?_⟩
      have e : (List.replicate (Int.toNat 0) (ps.map PyData.int)).flatten = ([] : List Int).map PyData.int := rfl
      rw [e] at hm
      unfold f__law_few mb__law_few
      clear b1 b2 hn hp sq hc e
      walk_at "ev"
    · refine ⟨ps, n + 1, List.Sublist.refl _, by omega, by omega, ?_⟩
      have e : (List.replicate (Int.toNat 1) (ps.map PyData.int)).flatten = ps.map PyData.int := by
        show (List.replicate 1 (ps.map PyData.int)).flatten = _
        simp
      rw [e] at hm
      unfold f__law_few mb__law_few
      clear b1 b2 hn hp sq hc e
      walk_at "ev"
theorem throw_eq (ns : List Int) (hl : ns.length ≤ 63) (n : Nat) (ps : List Int) (hn : n ≤ 90000) (hp : ps.length ≤ 100) :
    ∃ (t : Thr) (m : Nat), t.1.Sublist ps ∧ n ≤ m ∧ m ≤ n + 2 + ps.length ∧ f__law_drawn_throw [.d (scrD ns), .own true (.lst (tw n)), .d (.tuple (ps.map PyData.int))] = .ok (.d (thD t)) [.no, .own true (.lst (tw m)), .no] := by
  obtain ⟨q, m, sq, m1, m2, hf⟩ := few_eq ns hl n ps (by omega) hp
  have hd := draw_eq ns m 8 (by decide) (by omega) hl
  refine ⟨(q, decide (drawI ns m 8 = 0)), m + 1, sq, by omega, by omega, ?_⟩
  unfold f__law_drawn_throw mb__law_drawn_throw thD
  clear sq m1 m2 hn hp
  walk_at "ev"
theorem rules_eq (ns : List Int) (hl : ns.length ≤ 63) (n : Nat) (hn : n ≤ 90000) :
    ∃ r t k, okR r t k ∧ f__law_drawn_rules [.d (scrD ns), .own true (.lst (tw n))] = .ok (.d (rulesD r t k)) [.no, .own true (.lst (tw (n + 1 + 1 + 1)))] := by
  obtain ⟨x1, hx1, p1⟩ := pick_eq ns n [.int 1, .int 2, .int 2, .int 3, .int 3, .int 4, .int 4] (by decide) (by decide) (by omega) hl
  obtain ⟨r, rfl, hr⟩ : ∃ r : Int, x1 = .int r ∧ 1 ≤ r ∧ r ≤ 4 := by
    simp only [List.mem_cons, List.not_mem_nil, or_false] at hx1
    rcases hx1 with rfl | rfl | rfl | rfl | rfl | rfl | rfl
    all_goals exact ⟨_, rfl, by decide⟩
  obtain ⟨x2, hx2, p2⟩ := pick_eq ns (n + 1) [.int 1, .int 2, .int 3, .int 4, .int 5, .int 10, .int 12] (by decide) (by decide) (by omega) hl
  obtain ⟨k, rfl, hk⟩ : ∃ r : Int, x2 = .int r ∧ 1 ≤ r ∧ r ≤ 12 := by
    simp only [List.mem_cons, List.not_mem_nil, or_false] at hx2
    rcases hx2 with rfl | rfl | rfl | rfl | rfl | rfl | rfl
    all_goals exact ⟨_, rfl, by decide⟩
  have p3 := draw_eq ns (n + 1 + 1) 2 (by decide) (by omega) hl
  obtain ⟨b1, b2⟩ := drawI_nn ns (n + 1 + 1) (many := 2) (by decide)
  refine ⟨r, 2 + drawI ns (n + 1 + 1) 2, k, ⟨hr.1, hr.2, by omega, by omega, hk.1, hk.2⟩, ?_⟩
  unfold f__law_drawn_rules mb__law_drawn_rules rulesD
  clear hr hk hx1 hx2 b1 b2 hn
  walk_at "ev"
/-! both walks side by side -/
def Rel (th : Int) (last : Bool) (n : Nat) (P : Stt) (L : List Int × Option Int) : Prop := P.1 = L.1 ∧ P.2.1 = (n : Int) ∧
  ((L.2 = none ∧ P.2.2 = -1 ∧ (n : Int) < th ∧ P.1.isEmpty = false) ∨ ∃ k : Int, L.2 = some k ∧ P.2.2 = k - n ∧ (n : Int) ≤ k ∧ 1 ≤ n ∧ ((n : Int) < k → last = true ∧ k = 3))
theorem rel_step {r th m : Int} (h : okR r th m) {last : Bool} {n : Nat} {P : Stt} {L : List Int × Option Int} (R : Rel th last n P L) (hne : P.2.2 ≠ 0) (t : Thr) :
    Rel th last (n + 1) (goneI r th P t last) (lawI r th last (n : Int) L t) := by
  obtain ⟨s, d, e⟩ := P
  obtain ⟨s', en⟩ := L
  obtain ⟨h1, h2, h3⟩ := R
  dsimp only at h1 h2 h3 hne
  subst h1 h2
  have hth : 2 ≤ th ∧ th ≤ 3 := ⟨h.2.2.1, h.2.2.2.1⟩
  unfold goneI lawI
  dsimp only
  generalize leftI s t = s1
  rcases h3 with ⟨rfl, rfl, hlt, hse⟩ | ⟨k, rfl, rfl, hle, h1n, hk⟩
  · have hm : moreI th s1 ((n : Int) + 1) (-1) last = if s1.isEmpty || decide ((n : Int) + 1 = th) then extraI s1.isEmpty ((n : Int) + 1) last else -1 := by
      unfold moreI
      rw [if_neg (by decide)]
    have hl : lendI th last (n : Int) s1 none = if s1.isEmpty || decide ((n : Int) + 1 = th) then some (if last && s1.isEmpty then 3 else (n : Int) + 1) else none := by
      unfold lendI
      simp
    rw [hm, hl]
    cases hE : s1.isEmpty
    · cases hD : decide ((n : Int) + 1 = th)
      · have hd := of_decide_eq_false hD
        simp only [Bool.or_self, Bool.false_eq_true, if_false, Bool.and_false, lfillI, hE, Bool.false_and]
        exact ⟨rfl, by push_cast; rfl, .inl ⟨rfl, rfl, by push_cast; omega, hE⟩⟩
      · have hd := of_decide_eq_true hD
        simp only [Bool.or_true, if_true, Bool.and_false, Bool.false_eq_true, if_false, lfillI, hE, Bool.false_and]
        have he : extraI false ((n : Int) + 1) last = 0 := by unfold extraI; cases last <;> simp
        rw [he]
        exact ⟨rfl, by push_cast; rfl, .inr ⟨(n : Int) + 1, rfl, by push_cast; omega, by push_cast; omega, by omega, fun z => absurd z (by push_cast; omega)⟩⟩
    · simp only [Bool.true_or, if_true, Bool.and_true, lfillI, hE, Bool.true_and]
      cases last
      · have he : extraI true ((n : Int) + 1) false = 0 := by unfold extraI; simp
        rw [he]
        simp only [Bool.false_and, Bool.and_false, Bool.false_eq_true, if_false]
        exact ⟨by simp, by push_cast; rfl, .inr ⟨(n : Int) + 1, rfl, by push_cast; omega, by push_cast; omega, by omega, fun z => absurd z (by push_cast; omega)⟩⟩
      · have he : extraI true ((n : Int) + 1) true = 3 - ((n : Int) + 1) := by
          unfold extraI
          by_cases h9 : 2 < (n : Int) + 1
          · rw [decide_eq_true h9]; simp; omega
          · rw [decide_eq_false h9]; simp
        rw [he]
        simp only [if_true, Bool.true_and, decide_true]
        have hq : decide (0 < 3 - ((n : Int) + 1)) = decide ((n : Int) < 2) := by
          rw [decide_eq_decide]; omega
        rw [hq]
        refine ⟨by simp, by push_cast; rfl, .inr ⟨3, rfl, by push_cast; rfl, by push_cast; omega, by omega, fun _ => ⟨rfl, rfl⟩⟩⟩
  · have hlt : (n : Int) < k := by omega
    obtain ⟨rfl, rfl⟩ := hk hlt
    have hm : moreI th s1 ((n : Int) + 1) (3 - (n : Int)) true = 3 - (n : Int) - 1 := by
      unfold moreI
      rw [if_pos (by omega)]
    have hl : lendI th true (n : Int) s1 (some 3) = some 3 := by
      unfold lendI
      simp
    rw [hm, hl]
    have hq : decide (0 < 3 - (n : Int) - 1) = decide ((n : Int) < 2) := by
      rw [decide_eq_decide]; omega
    rw [hq]
    refine ⟨?_, by push_cast; rfl, .inr ⟨3, rfl, by push_cast; omega, by push_cast; omega, by omega, fun _ => ⟨rfl, rfl⟩⟩⟩
    unfold lfillI
    dsimp only
    cases s1.isEmpty <;> cases decide ((n : Int) < 2) <;> simp
theorem rel_over {th : Int} {last : Bool} {n : Nat} {P : Stt} {L : List Int × Option Int} (R : Rel th last n P L) : overI L.2 n = decide (P.2.2 = 0) := by
  obtain ⟨_, _, h3⟩ := R
  rcases h3 with ⟨h1, h2, _⟩ | ⟨k, h1, h2, h4, h5, _⟩
  · rw [h1, h2]; rfl
  · rw [h1, h2]
    unfold overI
    dsimp only
    by_cases hk : k = (n : Int)
    · rw [decide_eq_true hk, if_pos rfl, decide_eq_true (by omega), decide_eq_true (by omega)]
    · rw [decide_eq_false hk, if_neg (by decide), decide_eq_false (by omega)]
theorem rel_lt {r th m : Int} (h : okR r th m) {last : Bool} {n : Nat} {P : Stt} {L : List Int × Option Int} (R : Rel th last n P L) (hne : P.2.2 ≠ 0) : n < 3 := by
  obtain ⟨_, _, h3⟩ := R
  have := h.2.2.2.1
  rcases h3 with ⟨_, _, h2, _⟩ | ⟨k, h1, h2, h4, h5, h6⟩
  · omega
  · obtain ⟨_, rfl⟩ := h6 (by omega)
    omega
theorem walk_snoc (r th : Int) (last : Bool) (ts : List Thr) (t : Thr) (st : Stt) : walkI r th last (ts ++ [t]) st = goneI r th (walkI r th last ts st) t last := by
  unfold walkI
  rw [List.foldl_append]
  rfl
theorem lwalk_snoc (r th : Int) (last : Bool) (t : Thr) : ∀ (ts : List Thr) (k : Nat) (st : List Int × Option Int), lwalkI r th last k (ts ++ [t]) st = lawI r th last ((k + ts.length : Nat) : Int) (lwalkI r th last k ts st) t
  | [], k, st => rfl
  | u :: ts, k, st => by
    show lwalkI r th last (k + 1) (ts ++ [t]) _ = _
    rw [lwalk_snoc r th last t ts (k + 1)]
    have e : k + 1 + ts.length = k + (u :: ts).length := by simp; omega
    rw [e]
    rfl
def Live (r th : Int) (last : Bool) (ts : List Thr) : Prop := Rel th last ts.length (walkI r th last ts (begI r)) (lwalkI r th last 0 ts (allI r, none))
theorem live_nil {r th m : Int} (h : okR r th m) (last : Bool) : Live r th last [] := ⟨rfl, rfl, .inl ⟨rfl, rfl, by have := h.2.2.1; simp; omega, allI_ne h⟩⟩
theorem live_snoc {r th m : Int} (h : okR r th m) {last : Bool} {ts : List Thr} (L : Live r th last ts) (hne : (walkI r th last ts (begI r)).2.2 ≠ 0) (t : Thr) : Live r th last (ts ++ [t]) := by
  unfold Live
  rw [walk_snoc, lwalk_snoc, Nat.zero_add, List.length_append]
  exact rel_step h L hne t
/-! the kinds -/
theorem kind_stop (r th : Int) : ∀ (ts : List Thr) (st : Stt), st.2.2 = 0 → kindW r th ts st = st
  | [], st, _ => rfl
  | t :: ts, st, h => by
    show kindW r th ts (kinI r th st t) = st
    have e : kinI r th st t = st := by unfold kinI; rw [decide_eq_true h, if_pos rfl]
    rw [e]
    exact kind_stop r th ts st h
theorem kind_rel {r th m : Int} (h : okR r th m) : ∀ (ts : List Thr) (k : Nat) (s : List Int), s.isEmpty = false → (k : Int) < th →
    (match lkI k (ts.take (th.toNat - k)) s with
      | .inl j => (kindW r th ts (s, (k : Int), -1)).2.2 = 0 ∧ (kindW r th ts (s, (k : Int), -1)).1.isEmpty = true ∧ (kindW r th ts (s, (k : Int), -1)).2.1 = (j : Int) + 1 ∧ j < 3
      | .inr _ => if th ≤ ((k + ts.length : Nat) : Int) then (kindW r th ts (s, (k : Int), -1)).2.2 = 0 ∧ (kindW r th ts (s, (k : Int), -1)).1.isEmpty = false ∧ (kindW r th ts (s, (k : Int), -1)).2.1 = th else (kindW r th ts (s, (k : Int), -1)).2.2 = -1)
  | [], k, s, hs, hk => by
    have e : ([] : List Thr).take (th.toNat - k) = [] := by simp
    rw [e]
    show if th ≤ ((k + 0 : Nat) : Int) then _ else _
    rw [if_neg (by simp; omega)]
    rfl
  | t :: ts, k, s, hs, hk => by
    have hth : 2 ≤ th ∧ th ≤ 3 := ⟨h.2.2.1, h.2.2.2.1⟩
    have et : (t :: ts).take (th.toNat - k) = t :: ts.take (th.toNat - (k + 1)) := by
      have : th.toNat - k = (th.toNat - (k + 1)) + 1 := by omega
      rw [this, List.take_succ_cons]
    rw [et]
    have ek : kinI r th (s, (k : Int), -1) t = goneI r th (s, (k : Int), -1) t false := by unfold kinI; rfl
    have e0 : kindW r th (t :: ts) (s, (k : Int), -1) = kindW r th ts (goneI r th (s, (k : Int), -1) t false) := by
      show kindW r th ts (kinI r th (s, (k : Int), -1) t) = _
      rw [ek]
    rw [e0]
    have hm : moreI th (leftI s t) ((k : Int) + 1) (-1) false = if (leftI s t).isEmpty || decide ((k : Int) + 1 = th) then 0 else -1 := by
      unfold moreI
      rw [if_neg (by decide)]
      have : extraI (leftI s t).isEmpty ((k : Int) + 1) false = 0 := by unfold extraI; simp
      rw [this]
    have eg : goneI r th (s, (k : Int), -1) t false = (leftI s t, (k : Int) + 1, if (leftI s t).isEmpty || decide ((k : Int) + 1 = th) then 0 else -1) := by
      unfold goneI
      dsimp only
      rw [hm]
      cases ((leftI s t).isEmpty || decide ((k : Int) + 1 = th)) <;> simp
    rw [eg]
    unfold lkI
    cases hE : (leftI s t).isEmpty
    · simp only [Bool.false_or, Bool.false_eq_true, if_false]
      cases hD : decide ((k : Int) + 1 = th)
      · have hd := of_decide_eq_false hD
        have ih := kind_rel h ts (k + 1) (leftI s t) hE (by push_cast; omega)
        have el : k + 1 + ts.length = k + (t :: ts).length := by simp; omega
        rw [el] at ih
        simp only [Bool.false_eq_true, if_false]
        exact ih
      · have hd := of_decide_eq_true hD
        have ez : th.toNat - (k + 1) = 0 := by omega
        rw [ez, List.take_zero]
        simp only [if_true]
        rw [kind_stop r th ts _ rfl]
        show if th ≤ ((k + (ts.length + 1) : Nat) : Int) then _ else _
        rw [if_pos (by push_cast; omega)]
        exact ⟨rfl, hE, hd⟩
    · simp only [Bool.true_or, if_true]
      rw [kind_stop r th ts _ rfl]
      exact ⟨rfl, hE, rfl, by omega⟩
theorem kind_same {r th m : Int} (h : okR r th m) (ts : List Thr) : kindP (kindW r th ts (begI r)) = lkindD th ts r ∧ ((kindW r th ts (begI r)).2.2 = 0 → (kindW r th ts (begI r)).2.1 = 1 ∨ (kindW r th ts (begI r)).2.1 = 2 ∨ (kindW r th ts (begI r)).2.1 = 3) := by
  have hth : 2 ≤ th ∧ th ≤ 3 := ⟨h.2.2.1, h.2.2.2.1⟩
  have k := kind_rel h ts 0 (allI r) (allI_ne h) (by simp; omega)
  have eb : ((allI r, ((0 : Nat) : Int), -1) : Stt) = begI r := rfl
  rw [eb, Nat.sub_zero] at k
  unfold lkindD kindP
  cases hl : lkI 0 (ts.take th.toNat) (allI r) with
  | inl j =>
    rw [hl] at k
    obtain ⟨k1, k2, k3, k4⟩ := k
    rw [k1, k2, k3]
    have : j = 0 ∨ j = 1 ∨ j = 2 := by omega
    rcases this with rfl | rfl | rfl
    · exact ⟨rfl, fun _ => .inl rfl⟩
    · exact ⟨rfl, fun _ => .inr (.inl rfl)⟩
    · exact ⟨rfl, fun _ => .inr (.inr rfl)⟩
  | inr s2 =>
    rw [hl] at k
    dsimp only at k
    rw [Nat.zero_add] at k
    by_cases hc : th ≤ (ts.length : Int)
    · rw [if_pos hc] at k
      obtain ⟨k1, k2, k3⟩ := k
      rw [k1, k2, decide_eq_true hc]
      exact ⟨rfl, fun _ => by rw [k3]; omega⟩
    · rw [if_neg hc] at k
      rw [k, decide_eq_false hc]
      exact ⟨rfl, fun z => absurd z (by decide)⟩
def wl0 (S : Sg) : Out Fl := (mSet 5 (mBin gAdd (mV 5) (mTup (dCons (mCall f__law_drawn_throw (aCons (mV 0) (aCons (mV 1) (aLast (mBin gIx (mCall f__law_walked (aCons (mV 3) (aCons (mV 5) (aLast (mV 4))))) (mC (.int 0))))))) dNil)))) S
def wl1 (S : Sg) : Out Fl := (mAsg (gTupM [ (setD 7) , (setD 6) ]) (mCall f__law_walked (aCons (mV 3) (aCons (mV 5) (aLast (mV 4)))))) S
def wl2 (S : Sg) : Out Fl := (mIte (mOr (mNot (mTruth (mCall (f__law_same 12) (aCons (mCall f_standing (aCons (mV 3) (aCons (mV 5) (aLast (mV 4))))) (aLast (mV 7)))))) (mNot (mTruth (mCall (f__law_same 12) (aCons (mCall f_is_over (aCons (mV 3) (aCons (mV 5) (aLast (mV 4))))) (aLast (mV 6))))))) (mRet (mC (.bool false))) mNx) S
def wl3 (S : Sg) : Out Fl := (mIte (mNot (mTruth (mCall (f__law_same 12) (aCons (mCall f_kind_of (aCons (mV 3) (aLast (mV 5)))) (aLast (mCall f__law_kind (aCons (mV 3) (aLast (mV 5))))))))) (mRet (mC (.bool false))) mNx) S
theorem wl_seq (S : Sg) : wb2_law S = (mSeq wl0 (mSeq wl1 (mSeq wl2 wl3))) S := rfl
def ll0 (S : Sg) : Out Fl := (mPar [3, 4] (pCons (mCall f__law_drawn_rules (aCons (mV 0) (aLast (mV 1)))) (pCons (mBin (gEq false) (mCall f__law_draw (aCons (mV 0) (aCons (mV 1) (aLast (mC (.int 2)))))) (mC (.int 0))) pNil))) S
def ll1 (S : Sg) : Out Fl := (mAsg (gTupM [ (setD 5) , (setD 6) ]) (mTup (dCons (mTup dNil) (dCons (mC (.bool false)) dNil)))) S
def ll2 (S : Sg) : Out Fl := (mWhile wc1_law wb2_law) S
def ll3 (S : Sg) : Out Fl := (mIte (mNot (mTruth (mCall (f__law_same 12) (aCons (mTup (dCons (mCall f_standing (aCons (mV 3) (aCons (mTup dNil) (aLast (mV 4))))) (dCons (mCall f_is_over (aCons (mV 3) (aCons (mTup dNil) (aLast (mV 4))))) dNil))) (aLast (mTup (dCons (mCall f__law_every (aLast (mV 3))) (dCons (mC (.bool false)) dNil)))))))) (mRet (mC (.bool false))) mNx) S
def ll4 (S : Sg) : Out Fl := (mIte (asB (mBin (gIs true) (mCall f_kind_of (aCons (mV 3) (aLast (mTup dNil)))) (mC .none))) (mRet (mC (.bool false))) mNx) S
theorem ll_seq (S : Sg) : lp3_law S = (mSeq ll0 (mSeq ll1 (mSeq ll2 (mSeq ll3 ll4)))) S := rfl
/-! the law -/
theorem okSs_ints (n : Nat) : ∀ s : List Int, okSs (n + 1) (s.map PyData.int) = true
  | [] => rfl
  | i :: s => by
    show (okS (n + 1) (.int i) && okSs (n + 1) (s.map PyData.int)) = true
    rw [okSs_ints n s]; rfl
theorem same_ints (s : List Int) (h : s.length ≤ 1000) : f__law_same 12 [.d (.tuple (s.map PyData.int)), .d (.tuple (s.map PyData.int))] = .ok (.d (.bool true)) [.no, .no] := by
  refine (same_refl 12 _ (by decide) ?_).2
  show (decide ((s.map PyData.int).length ≤ 100000) && okSs 11 (s.map PyData.int)) = true
  rw [okSs_ints, Bool.and_true, decide_eq_true_eq, List.length_map]
  omega
theorem same_bool (b : Bool) : f__law_same 12 [.d (.bool b), .d (.bool b)] = .ok (.d (.bool true)) [.no, .no] := (same_refl 12 (.bool b) (by decide) rfl).2
theorem same_kind (th r : Int) (ts : List Thr) : f__law_same 12 [.d (lkindD th ts r), .d (lkindD th ts r)] = .ok (.d (.bool true)) [.no, .no] := by
  refine (same_refl 12 _ (by decide) ?_).2
  unfold lkindD
  split
  · rename_i j _
    match j with
    | 0 => rfl
    | 1 => rfl
    | j + 2 => rfl
  · split <;> rfl
theorem turn_add (ts : List Thr) (t : Thr) (h : ts.length ≤ 1000) : gAdd (turnD ts) (.tuple [thD t]) = some (.d (turnD (ts ++ [t]))) := by
  unfold turnD
  rw [o_add3 (by simp; unfold lim; omega), List.map_append]
  rfl
theorem kind_eq2 {r th n : Int} (h : okR r th n) (ts : List Thr) : f_kind_of [.d (rulesD r th n), .d (turnD ts)] = .ok (.d (lkindD th ts r)) [.no, .no] := by
  obtain ⟨k1, k2⟩ := kind_same h ts
  rw [kindP_eq h ts k2, k1]
theorem wh05 (ns : List Int) (hl : ns.length ≤ 63) {r th k : Int} (h : okR r th k) (last : Bool) (a2 : Sl) : ∀ (m fuel : Nat) (ts : List Thr) (n : Nat) (over : Bool) (a7 : Sl), Live r th last ts → over = decide ((walkI r th last ts (begI r)).2.2 = 0) → ts.length + m = 3 → m < fuel → n + 12 * m ≤ 50000 → free a7 = true →
    ∃ n' ts' a7', n' ≤ n + 12 * m ∧ free a7' = true ∧ whileN wc1_law wb2_law fuel [.d (scrD ns), .own false (.lst (tw n)), a2, .d (rulesD r th k), .d (.bool last), .d (turnD ts), .d (.bool over), a7] =
      .ok .nx [.d (scrD ns), .own false (.lst (tw n')), a2, .d (rulesD r th k), .d (.bool last), .d (turnD ts'), .d (.bool true), a7'] := by
  intro m
  induction m with
  | zero =>
    intro fuel ts n over a7 L ho hm hf hn h7
    have hov : over = true := by
      rw [ho]
      refine decide_eq_true ?_
      by_cases hz : (walkI r th last ts (begI r)).2.2 = 0
      · exact hz
      · have := rel_lt h L hz
        omega
    subst hov
    refine ⟨n, ts, a7, by omega, h7, ?_⟩
    obtain ⟨f, rfl⟩ : ∃ f, fuel = f + 1 := ⟨fuel - 1, by omega⟩
    rw [e_whS]
    clear h L ho hn
    walk_at "ev"
  | succ m ih =>
    intro fuel ts n over a7 L ho hm hf hn h7
    obtain ⟨f, rfl⟩ : ∃ f, fuel = f + 1 := ⟨fuel - 1, by omega⟩
    rw [e_whS]
    cases over with
    | true =>
      refine ⟨n, ts, a7, by omega, h7, ?_⟩
      clear ih h L ho hn
      walk_at "ev"
    | false =>
      have hz : (walkI r th last ts (begI r)).2.2 ≠ 0 := of_decide_eq_false ho.symm
      have hw := lwalked_eq h last ts (by omega)
      have hs10 : (lwalkI r th last 0 ts (allI r, none)).1.length ≤ 10 := by
        rw [← L.1]
        exact walk_len h last ts _ (beg_len h)
      generalize hover : overI (lwalkI r th last 0 ts (allI r, none)).2 ts.length = ov at hw
      obtain ⟨t, n2, st, n21, n22, htr⟩ := throw_eq ns hl n (lwalkI r th last 0 ts (allI r, none)).1 (by omega) (by omega)
      generalize (lwalkI r th last 0 ts (allI r, none)).1 = sl at hw htr hs10 st n22
      have hadd := turn_add ts t (by omega)
      have L2 := live_snoc h L hz t
      have hts2 : (ts ++ [t]).length = ts.length + 1 := by simp
      have hw2 := lwalked_eq h last (ts ++ [t]) (by omega)
      have hst := standing_eq h last (ts ++ [t])
      have hov := over_eq h last (ts ++ [t])
      have hk1 := kind_eq2 h (ts ++ [t])
      have hk2 := lkind_eq h (ts ++ [t]) (by omega)
      have hk3 := same_kind th r (ts ++ [t])
      have hlen2 := walk_len h last (ts ++ [t]) _ (beg_len h)
      have hro := rel_over L2
      have hr1 := L2.1
      rw [hro, ← hr1] at hw2
      obtain ⟨n', ts', a7', i1, i2, i3⟩ := ih f (ts ++ [t]) n2 _ (.d (.tuple ((walkI r th last (ts ++ [t]) (begI r)).1.map PyData.int))) L2 rfl (by omega) (by omega) (by omega) rfl
      refine ⟨n', ts', a7', by omega, i2, ?_⟩
      generalize (walkI r th last (ts ++ [t]) (begI r)).1 = s2 at hw2 hst hlen2 i3
      generalize decide ((walkI r th last (ts ++ [t]) (begI r)).2.2 = 0) = o2 at hw2 hov i3
      generalize ts ++ [t] = ts2 at hadd hw2 hst hov hk1 hk2 hk3 i3
      have hs1 := same_ints s2 (by omega)
      have hs2 := same_bool o2
      have hg : gTupM [(setD 7), (setD 6)] (.tuple [.tuple (s2.map PyData.int), .bool o2]) [.d (scrD ns), .own false (.lst (tw n2)), a2, .d (rulesD r th k), .d (.bool last), .d (turnD ts2), .d (.bool false), a7] =
          some [.d (scrD ns), .own false (.lst (tw n2)), a2, .d (rulesD r th k), .d (.bool last), .d (turnD ts2), .d (.bool o2), .d (.tuple (s2.map PyData.int))] := by
        simp only [gTupM, gSeq, List.length_cons, List.length_nil, if_true, Option.bind_some, setD, gt_7, gt_6, set_7, set_6, h7, e_free2]
      have A : wl0 [.d (scrD ns), .own false (.lst (tw n)), a2, .d (rulesD r th k), .d (.bool last), .d (turnD ts), .d (.bool false), a7] = .ok .nx [.d (scrD ns), .own false (.lst (tw n2)), a2, .d (rulesD r th k), .d (.bool last), .d (turnD ts2), .d (.bool false), a7] := by
        unfold wl0
        clear ih L L2 ho hz hover hm hf hn h n21 n22 i1 i3 hs10 hlen2 hts2 hro hr1 hw2 hst hov hk1 hk2 hk3 hs1 hs2 hg st
        walk_at "ev"
      have Bq : wl1 [.d (scrD ns), .own false (.lst (tw n2)), a2, .d (rulesD r th k), .d (.bool last), .d (turnD ts2), .d (.bool false), a7] = .ok .nx [.d (scrD ns), .own false (.lst (tw n2)), a2, .d (rulesD r th k), .d (.bool last), .d (turnD ts2), .d (.bool o2), .d (.tuple (s2.map PyData.int))] := by
        unfold wl1
        clear ih L L2 ho hz hover hm hf hn h n21 n22 i1 i3 hs10 hlen2 hts2 hro hr1 hst hov hk1 hk2 hk3 hs1 hs2 A hw htr hadd st
        walk_at "ev"
      have C : wl2 [.d (scrD ns), .own false (.lst (tw n2)), a2, .d (rulesD r th k), .d (.bool last), .d (turnD ts2), .d (.bool o2), .d (.tuple (s2.map PyData.int))] = .ok .nx [.d (scrD ns), .own false (.lst (tw n2)), a2, .d (rulesD r th k), .d (.bool last), .d (turnD ts2), .d (.bool o2), .d (.tuple (s2.map PyData.int))] := by
        unfold wl2
        clear ih L L2 ho hz hover hm hf hn h n21 n22 i1 i3 hs10 hlen2 hts2 hro hr1 hk1 hk2 hk3 A Bq hw htr hadd hw2 hg st
        walk_at "ev"
      have Dq : wl3 [.d (scrD ns), .own false (.lst (tw n2)), a2, .d (rulesD r th k), .d (.bool last), .d (turnD ts2), .d (.bool o2), .d (.tuple (s2.map PyData.int))] = .ok .nx [.d (scrD ns), .own false (.lst (tw n2)), a2, .d (rulesD r th k), .d (.bool last), .d (turnD ts2), .d (.bool o2), .d (.tuple (s2.map PyData.int))] := by
        unfold wl3
        clear ih L L2 ho hz hover hm hf hn h n21 n22 i1 i3 hs10 hlen2 hts2 hro hr1 A Bq C hw htr hadd hw2 hg hst hov hs1 hs2 st
        walk_at "ev"
      have cnd : wc1_law [.d (scrD ns), .own false (.lst (tw n)), a2, .d (rulesD r th k), .d (.bool last), .d (turnD ts), .d (.bool false), a7] = .ok true [.d (scrD ns), .own false (.lst (tw n)), a2, .d (rulesD r th k), .d (.bool last), .d (turnD ts), .d (.bool false), a7] := by
        clear ih L L2 ho hz hover hm hf hn h n21 n22 i1 i3 hs10 hlen2 hts2 hro hr1 A Bq C Dq hw htr hadd hw2 hg hst hov hs1 hs2 hk1 hk2 hk3 st
        walk_at "ev"
      rw [cnd, e_b1, e_whT, wl_seq, e_seq, A, e_seq1, e_seq, Bq, e_seq1, e_seq, C, e_seq1, Dq, e_whB1, i3]
def P05 (ns : List Int) (k : Nat) (S : Sg) : Prop := ∃ n a2 a3 a4 a5 a6 a7, S = [.d (scrD ns), .own false (.lst (tw n)), a2, a3, a4, a5, a6, a7] ∧ n ≤ 60 * k ∧ free a2 = true ∧ free a3 = true ∧ free a4 = true ∧ free a5 = true ∧ free a6 = true ∧ free a7 = true
theorem turn05 (ns : List Int) (hl : ns.length ≤ 63) (d : D) (S : Sg) (k : Nat) (hk : k ≤ 100) (h : P05 ns k S) : ∃ S1 S2, setD 2 d S = some S1 ∧ (lp3_law S1 = .ok .nx S2 ∨ lp3_law S1 = .ok .ct S2) ∧ P05 ns (k + 1) S2 := by
  obtain ⟨n, a2, a3, a4, a5, a6, a7, rfl, hn, f2, f3, f4, f5, f6, f7⟩ := h
  have hset : setD 2 d [.d (scrD ns), .own false (.lst (tw n)), a2, a3, a4, a5, a6, a7] = some [.d (scrD ns), .own false (.lst (tw n)), .d d, a3, a4, a5, a6, a7] := by
    simp only [setD, gt_2, set_2, f2, if_true]
  obtain ⟨r, th, tn, hR, p1⟩ := rules_eq ns hl n (by omega)
  have p2 := draw_eq ns (n + 1 + 1 + 1) 2 (by decide) (by omega) hl
  generalize hlast : decide (drawI ns (n + 1 + 1 + 1) 2 = 0) = last
  obtain ⟨n', ts', a7', i1, i2, i3⟩ := wh05 ns hl hR last (.d d) 3 wfuel [] (n + 1 + 1 + 1 + 1) false a7 (live_nil hR last) rfl rfl (by unfold wfuel; omega) (by omega) f7
  have q1 := standing_eq hR last []
  have q2 := over_eq hR last []
  have q3 := every_eq hR
  have q4 := kind_eq2 hR []
  have e1 : walkI r th last [] (begI r) = begI r := rfl
  rw [e1] at q1 q2
  have e2 : decide ((begI r).2.2 = 0) = false := rfl
  have e3 : (begI r).1 = allI r := rfl
  rw [e2] at q2
  rw [e3] at q1
  have e4 : lkindD th [] r = .none := by
    unfold lkindD
    have : ([] : List Thr).take th.toNat = [] := by simp
    rw [this]
    have hth := hR.2.2.1
    show (if decide (th ≤ ((0 : Nat) : Int)) then _ else _) = _
    rw [decide_eq_false (by omega)]; rfl
  rw [e4] at q4
  have e5 : turnD [] = .tuple [] := rfl
  rw [e5] at q1 q2 q4 i3
  have q5 : f__law_same 12 [.d (.tuple [.tuple ((allI r).map PyData.int), .bool false]), .d (.tuple [.tuple ((allI r).map PyData.int), .bool false])] = .ok (.d (.bool true)) [.no, .no] := by
    refine (same_refl 12 _ (by decide) ?_).2
    have hb : (allI r).length ≤ 10 := beg_len hR
    show (decide (2 ≤ 100000) && ((decide (((allI r).map PyData.int).length ≤ 100000) && okSs 10 ((allI r).map PyData.int)) && (true && true))) = true
    rw [okSs_ints, List.length_map, decide_eq_true (by omega : (allI r).length ≤ 100000)]
    rfl
  refine ⟨_, [.d (scrD ns), .own false (.lst (tw n')), .d d, .d (rulesD r th tn), .d (.bool last), .d (turnD ts'), .d (.bool true), a7'], hset, .inl ?_, n', .d d, .d (rulesD r th tn), .d (.bool last), .d (turnD ts'), .d (.bool true), a7', rfl, by omega, rfl, rfl, rfl, rfl, rfl, i2⟩
  have A : ll0 [.d (scrD ns), .own false (.lst (tw n)), .d d, a3, a4, a5, a6, a7] = .ok .nx [.d (scrD ns), .own false (.lst (tw (n + 1 + 1 + 1 + 1))), .d d, .d (rulesD r th tn), .d (.bool last), a5, a6, a7] := by
    unfold ll0
    clear hset q1 q2 q3 q4 q5 e1 e2 e3 e4 e5 i1 i2 i3 hn hk hR hl
    walk_at "ev"
  have Bq : ll1 [.d (scrD ns), .own false (.lst (tw (n + 1 + 1 + 1 + 1))), .d d, .d (rulesD r th tn), .d (.bool last), a5, a6, a7] = .ok .nx [.d (scrD ns), .own false (.lst (tw (n + 1 + 1 + 1 + 1))), .d d, .d (rulesD r th tn), .d (.bool last), .d (.tuple []), .d (.bool false), a7] := by
    have hg : gTupM [(setD 5), (setD 6)] (.tuple [.tuple [], .bool false]) [.d (scrD ns), .own false (.lst (tw (n + 1 + 1 + 1 + 1))), .d d, .d (rulesD r th tn), .d (.bool last), a5, a6, a7] =
        some [.d (scrD ns), .own false (.lst (tw (n + 1 + 1 + 1 + 1))), .d d, .d (rulesD r th tn), .d (.bool last), .d (.tuple []), .d (.bool false), a7] := by
      simp only [gTupM, gSeq, List.length_cons, List.length_nil, if_true, Option.bind_some, setD, gt_5, gt_6, set_5, set_6, f5, f6]
    unfold ll1
    clear hset q1 q2 q3 q4 q5 e1 e2 e3 e4 e5 i1 i2 i3 hn hk hR hl p1 p2 A
    walk_at "ev"
  have C : ll3 [.d (scrD ns), .own false (.lst (tw n')), .d d, .d (rulesD r th tn), .d (.bool last), .d (turnD ts'), .d (.bool true), a7'] = .ok .nx [.d (scrD ns), .own false (.lst (tw n')), .d d, .d (rulesD r th tn), .d (.bool last), .d (turnD ts'), .d (.bool true), a7'] := by
    unfold ll3
    clear hset q4 e1 e2 e3 e4 e5 i1 i2 i3 hn hk hR hl p1 p2 A Bq
    walk_at "ev"
  have Dq : ll4 [.d (scrD ns), .own false (.lst (tw n')), .d d, .d (rulesD r th tn), .d (.bool last), .d (turnD ts'), .d (.bool true), a7'] = .ok .nx [.d (scrD ns), .own false (.lst (tw n')), .d d, .d (rulesD r th tn), .d (.bool last), .d (turnD ts'), .d (.bool true), a7'] := by
    unfold ll4
    clear hset e1 e2 e3 e4 e5 i1 i2 i3 hn hk hR hl p1 p2 A Bq C q1 q2 q3 q5
    walk_at "ev"
  have W : ll2 [.d (scrD ns), .own false (.lst (tw (n + 1 + 1 + 1 + 1))), .d d, .d (rulesD r th tn), .d (.bool last), .d (.tuple []), .d (.bool false), a7] = .ok .nx [.d (scrD ns), .own false (.lst (tw n')), .d d, .d (rulesD r th tn), .d (.bool last), .d (turnD ts'), .d (.bool true), a7'] := i3
  rw [ll_seq, e_seq, A, e_seq1, e_seq, Bq, e_seq1, e_seq, W, e_seq1, e_seq, C, e_seq1, Dq]
theorem law_true (ns : List Int) (hl : ns.length ≤ 63) : ∃ outs, f_law [.d (scrD ns)] = .ok (.d (.bool true)) outs := by
  have h0 : P05 ns 0 [.d (scrD ns), .own false (.lst (tw 0)), .no, .no, .no, .no, .no, .no] := ⟨0, _, _, _, _, _, _, rfl, by omega, rfl, rfl, rfl, rfl, rfl, rfl⟩
  obtain ⟨S', e, n, a2, a3, a4, a5, a6, a7, e2, _⟩ := loop_at (tg := setD 2) (bd := lp3_law) (P := P05 ns) (all := intsD 0 1 16) (fun d S k hk h => turn05 ns hl d S k (by
    have := (List.getElem?_eq_some_iff.mp hk).1
    rw [intsD_len] at this
    omega) h) 16 0 _ rfl h0
  rw [e2, List.drop_zero] at e
  have h1 : tw 0 = ([] : List D) := rfl
  have hr := e_r1K (S := [.d (scrD ns), .own false (.lst (tw 0)), .no, .no, .no, .no, .no, .no]) (show -big ≤ 16 ∧ 16 < big by unfold big; omega)
  have ht : (16 : Int).toNat = 16 := rfl
  rw [ht, h1] at hr
  rw [h1] at e
  clear h1
  refine ⟨[.no], ?_⟩
  unfold f_law mb_law
  rw [e_fn]
  clear hl h0 e2
  walk_at "ev"
end Lw

open PySem PySem.W PyProof.Rows
set_option maxHeartbeats 0 in
theorem PySem.Challenge.cw_skittlehall_k05_whole_turns_holds : PySem.Challenge.rw_skittlehall_k05_whole_turns.Holds := by
  w_on; o_law; k_head; (case hw => w_witness2)
  k_fill
  refine L2.walk_of (l := PySem.Challenge.rw_skittlehall_k05_whole_turns) (n := 63) (k := 14) (x := "_law_script") (CX := fun w => L2.CX PySem.Challenge.rw_skittlehall_k05_whole_turns.prog w) (sp := fun w => Ev.spLaw _) rfl (by decide) rfl ⟨rfl, by decide, by decide⟩ (fun w h Y => PySem.W.kIn_of Y) ?F (fun _ _ a ns hl hO hS => ⟨a, ns, rfl, hS, hl, hO, fun _ => rfl⟩) (fun _ _ _ _ _ h => Ev.cx_none _ _ _ _ h)
  case F =>
    intro w mg fa h KX G hmg
    refine' Lw.all_mk KX G hmg rfl ?a0 ?l0 ?c0 ?k0 ?a1 ?l1 ?c1 ?k1 ?a2 ?l2 ?c2 ?k2 ?a3 ?l3 ?c3 ?k3 ?a4 ?l4 ?c4 ?k4 ?a5 ?l5 ?c5 ?k5 ?a6 ?l6 ?c6 ?k6 ?a7 ?l7 ?c7 ?k7 ?a8 ?l8 ?c8 ?k8 ?a9 ?l9 ?c9 ?k9 ?a10 ?l10 ?c10 ?k10 ?a11 ?l11 ?c11 ?k11 ?a12 ?l12 ?c12 ?k12 ?a13 ?l13 ?c13 ?k13 ?a14 ?l14 ?c14 ?k14 ?a15 ?l15 ?c15 ?k15 ?a16 ?l16 ?c16 ?k16 ?a17 ?l17 ?c17 ?k17 ?a18 ?l18 ?c18 ?k18 ?z_all ?z_bool ?z_enumerate ?z_int ?z_isinstance ?z_len ?z_range ?z_str ?z_tuple ?z_zip ?hK Lw.law_true
    (case a0 => k_is); (case l0 => k_is); (case c0 => k_is); (case k0 => k_is); (case a1 => k_is); (case l1 => k_is); (case c1 => k_is); (case k1 => k_is); (case a2 => k_is); (case l2 => k_is); (case c2 => k_is); (case k2 => k_is); (case a3 => k_is); (case l3 => k_is); (case c3 => k_is); (case k3 => k_is); (case a4 => k_is); (case l4 => k_is); (case c4 => k_is); (case k4 => k_is); (case a5 => k_is); (case l5 => k_is); (case c5 => k_is); (case k5 => k_is); (case a6 => k_is); (case l6 => k_is); (case c6 => k_is); (case k6 => k_is); (case a7 => k_is); (case l7 => k_is); (case c7 => k_is); (case k7 => k_is); (case a8 => k_is); (case l8 => k_is); (case c8 => k_is); (case k8 => k_is); (case a9 => k_is); (case l9 => k_is); (case c9 => k_is); (case k9 => k_is); (case a10 => k_is); (case l10 => k_is); (case c10 => k_is); (case k10 => k_is); (case a11 => k_is); (case l11 => k_is); (case c11 => k_is); (case k11 => k_is); (case a12 => k_is); (case l12 => k_is); (case c12 => k_is); (case k12 => k_is); (case a13 => k_is); (case l13 => k_is); (case c13 => k_is); (case k13 => k_is); (case a14 => k_is); (case l14 => k_is); (case c14 => k_is); (case k14 => k_is); (case a15 => k_is); (case l15 => k_is); (case c15 => k_is); (case k15 => k_is); (case a16 => k_is); (case l16 => k_is); (case c16 => k_is); (case k16 => k_is); (case a17 => k_is); (case l17 => k_is); (case c17 => k_is); (case k17 => k_is); (case a18 => k_is); (case l18 => k_is); (case c18 => k_is); (case k18 => k_is); (case z_all => k_is); (case z_bool => k_is); (case z_enumerate => k_is); (case z_int => k_is); (case z_isinstance => k_is); (case z_len => k_is); (case z_range => k_is); (case z_str => k_is); (case z_tuple => k_is); (case z_zip => k_is); (case hK => with_unfolding_all rfl)
