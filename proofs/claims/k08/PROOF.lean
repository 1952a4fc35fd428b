import PyProof.Rows.All
import Wide.All
import OpenK.AllK
import Wide.FinOn
import HandS.ForMost
import HandS.ForExc
import HandS.TryMany
import HandS.Lambda
import HandS.CallSlots
import HandS.Wide
import HandS.HeadHook4
import HandS.HeadWalk
import HandS.Head0
import HandS.Head1
import HandS.Head2
import HandS.Conv
import HandS.TupAny
import HandS.Deep
import HandS.SetFor
import HandS.Sort
import PyProof.ListRange
import PyProof.Rows.GenSrcRange
import PyProof.SumAnyB
import HandS.Iter
import HandS.Text
import HandS.Replace
import HandS.ExcInit
import KE.KExcSuper
import KE.KSuper
import HandS.Dict
import HandS.DictComp
import HandS.More
import HandS.Small
import HandS.IsInst
import PyProof.WalksMore
import PyProof.TupleIter
import HandS.Style
import HandS.Zip
import HandS.Rev
import HandS.DictTup
import HandS.SortInts
import HandS.WordsDict
import HandS.TupLen
import HandS.GenList
import PyProof.CodeObjX
import PyProof.GenArm
import PyProof.P3In
import KE.SortData
import KE.KDictSum
import PyProof.Transfer
import KE.GoesMore
import KE.GoesEnum
import HandS.TupMul
import KE.DataFind
import KE.GoesZip
import KE.SortKeyHeap
import KE.KDictItemsList
import HandS.SortKw
import HandS.ExcField
import HandS.SetKeys
import KE.KDictCopyH
import KE.KDictKeyed
import HandS.NoneIn
import PySem.Challenge.RW_brookhall_k08_deeds_all_or_nothing
set_option Elab.async false
set_option linter.all false
set_option maxRecDepth 100000
set_option maxHeartbeats 2000000
/-! Sw1: the abstract heap in pieces (rows of assertions); the judgements over them. -/
namespace SW
open PySem PySem.Spec L2
open PyProof.Rows hiding St
/-! ### rows of pieces -/
inductive A2 {α β : Type} (R : α → β → Prop) : List α → List β → Prop
  | nil : A2 R [] []
  | cons {a b l m} : R a b → A2 R l m → A2 R (a :: l) (b :: m)
theorem A2.mem {α β : Type} {R : α → β → Prop} {l : List α} {m : List β} (h : A2 R l m) {a : α} (ha : a ∈ l) : ∃ b, b ∈ m ∧ R a b := by
  induction h with
  | nil => cases ha
  | cons r t ih =>
    rcases List.mem_cons.mp ha with e | e
    · subst e; exact ⟨_, List.mem_cons_self, r⟩
    · obtain ⟨b, hb, q⟩ := ih e
      exact ⟨b, List.mem_cons_of_mem _ hb, q⟩
theorem A2.perm {α β : Type} {R : α → β → Prop} {l l' : List α} (p : l.Perm l') : ∀ {m : List β}, A2 R l m → ∃ m', A2 R l' m' ∧ m.Perm m' := by
  induction p with
  | nil => intro m h; exact ⟨m, h, List.Perm.refl _⟩
  | cons x _ ih =>
    intro m h
    cases h with
    | cons r t =>
      obtain ⟨m', h', q⟩ := ih t
      exact ⟨_, .cons r h', q.cons _⟩
  | swap x y l =>
    intro m h
    cases h with
    | cons r t =>
      cases t with
      | cons r2 t2 => exact ⟨_, .cons r2 (.cons r t2), List.Perm.swap _ _ _⟩
  | trans _ _ ih1 ih2 =>
    intro m h
    obtain ⟨m1, h1, q1⟩ := ih1 h
    obtain ⟨m2, h2, q2⟩ := ih2 h1
    exact ⟨m2, h2, q1.trans q2⟩
theorem A2.append {α β : Type} {R : α → β → Prop} {l1 : List α} {m1 : List β} (h : A2 R l1 m1) : ∀ {l2 : List α} {m2 : List β}, A2 R l2 m2 → A2 R (l1 ++ l2) (m1 ++ m2) := by
  induction h with
  | nil => intro l2 m2 h2; exact h2
  | cons r _ ih => intro l2 m2 h2; exact .cons r (ih h2)
theorem A2.split {α β : Type} {R : α → β → Prop} : ∀ {l1 l2 : List α} {m : List β}, A2 R (l1 ++ l2) m → ∃ m1 m2, m = m1 ++ m2 ∧ A2 R l1 m1 ∧ A2 R l2 m2
  | [], l2, m, h => ⟨[], m, rfl, .nil, h⟩
  | a :: l1, l2, _, .cons r t => by
    obtain ⟨m1, m2, e, h1, h2⟩ := A2.split t
    exact ⟨_ :: m1, m2, by rw [e]; rfl, .cons r h1, h2⟩
theorem A2.imp {α β : Type} {R R' : α → β → Prop} (f : ∀ a b, R a b → R' a b) {l : List α} {m : List β} (h : A2 R l m) : A2 R' l m := by
  induction h with
  | nil => exact .nil
  | cons r _ ih => exact .cons (f _ _ r) ih
theorem A2.length {α β : Type} {R : α → β → Prop} {l : List α} {m : List β} (h : A2 R l m) : l.length = m.length := by
  induction h with
  | nil => rfl
  | cons _ _ ih => simp [ih]
abbrev SA := Hp → Prop
def Sub (h H : Hp) : Prop := ∀ a o, h a = some o → H a = some o ∧ ∀ ps, o ≠ .tbl ps
def Apart (h g : Hp) : Prop := ∀ a o, h a = some o → g a = some o → ∃ xs, o = HO.tup xs
theorem Apart.symm {h g : Hp} (x : Apart h g) : Apart g h := fun a o e1 e2 => x a o e2 e1
theorem Sub.trans {f g h : Hp} (a : Sub f g) (b : Sub g h) : Sub f h := fun x o e => ⟨(b x o (a x o e).1).1, (a x o e).2⟩
/-- pieces -/
def Pcs (L : List SA) (H : Hp) : Prop := ∃ ps : List Hp, A2 (fun (A : SA) h => A h) L ps ∧ ps.Pairwise Apart ∧ ∀ h ∈ ps, Sub h H
structure Hs (T : List (Addr × Str)) (L : List SA) (H : Hp) : Prop where
  tabs : LamX.Tabs T H
  pcs : Pcs L H
def pt (a : Addr) (o : HO) : SA := fun h => h a = some o
section
variable {T : List (Addr × Str)} {L L' L1 R : List SA} {A B : SA} {H H' : Hp} {a p : Addr} {o o' : HO}
theorem Pcs.nil : Pcs [] H := ⟨[], .nil, List.Pairwise.nil, fun _ h => nomatch h⟩
theorem Pcs.perm (p : L.Perm L') (h : Pcs L H) : Pcs L' H := by
  obtain ⟨ps, h1, h2, h3⟩ := h
  obtain ⟨ps', h1', q⟩ := h1.perm p
  exact ⟨ps', h1', (q.pairwise_iff (fun x => Apart.symm x)).mp h2, fun g hg => h3 g (q.mem_iff.mpr hg)⟩
theorem Pcs.tail (h : Pcs (A :: L) H) : Pcs L H := by
  obtain ⟨ps, h1, h2, h3⟩ := h
  cases h1 with
  | cons r t => exact ⟨_, t, (List.pairwise_cons.mp h2).2, fun g hg => h3 g (List.mem_cons_of_mem _ hg)⟩
theorem Pcs.imp (f : ∀ h, A h → B h) (h : Pcs (A :: L) H) : Pcs (B :: L) H := by
  obtain ⟨ps, h1, h2, h3⟩ := h
  cases h1 with
  | cons r t => exact ⟨_, .cons (f _ r) t, h2, h3⟩
theorem Pcs.mono (e : Sub H H') (h : Pcs L H) : Pcs L H' := by
  obtain ⟨ps, h1, h2, h3⟩ := h
  exact ⟨ps, h1, h2, fun g hg => (h3 g hg).trans e⟩
/-- all pieces stand in H' -/
theorem Pcs.move (h : Pcs L H) (e : ∀ g, Sub g H → Sub g H') : Pcs L H' := by
  obtain ⟨ps, h1, h2, h3⟩ := h
  exact ⟨ps, h1, h2, fun g hg => e g (h3 g hg)⟩
theorem Pcs.get (h : Pcs (pt a o :: L) H) : H a = some o := by
  obtain ⟨ps, h1, h2, h3⟩ := h
  cases h1 with
  | cons r t => exact (h3 _ List.mem_cons_self a o r).1
/-- rows as one piece -/
theorem Pcs.fold (h : Pcs (L1 ++ L) H) : Pcs ((fun g => Pcs L1 g) :: L) H := by
  obtain ⟨ps, h1, h2, h3⟩ := h
  obtain ⟨m1, m2, rfl, k1, k2⟩ := h1.split
  obtain ⟨q1, q2, q3⟩ := List.pairwise_append.mp h2
  classical
  let u : Hp := fun a => if ∃ g ∈ m1, ∃ o, g a = some o then H a else none
  have hu : ∀ g ∈ m1, Sub g u := fun g hg a o e => by
    have s := h3 g (List.mem_append_left _ hg) a o e
    refine ⟨?_, s.2⟩
    show (if ∃ g ∈ m1, ∃ o, g a = some o then H a else none) = some o
    rw [if_pos ⟨g, hg, o, e⟩]; exact s.1
  have uo : ∀ a o, u a = some o → ∃ g ∈ m1, g a = some o := fun a o e => by
    have e' : (if ∃ g ∈ m1, ∃ o, g a = some o then H a else none) = some o := e
    by_cases c : ∃ g ∈ m1, ∃ o, g a = some o
    · rw [if_pos c] at e'
      obtain ⟨g, hg, o2, e2⟩ := c
      have s := (h3 g (List.mem_append_left _ hg) a o2 e2).1
      rw [e'] at s; cases s
      exact ⟨g, hg, e2⟩
    · rw [if_neg c] at e'; cases e'
  refine ⟨u :: m2, .cons ⟨m1, k1, q1, hu⟩ k2, List.pairwise_cons.mpr ⟨fun g hg a o e1 e2 => ?_, q2⟩, fun g hg => ?_⟩
  · obtain ⟨f, hf, e⟩ := uo a o e1
    exact q3 f hf g hg a o e e2
  · rcases List.mem_cons.mp hg with rfl | hg
    · intro a o e
      obtain ⟨f, hf, e'⟩ := uo a o e
      exact h3 f (List.mem_append_left _ hf) a o e'
    · exact h3 g (List.mem_append_right _ hg)
theorem Pcs.unf (h : Pcs ((fun g => Pcs L1 g) :: L) H) : Pcs (L1 ++ L) H := by
  obtain ⟨ps, h1, h2, h3⟩ := h
  cases h1 with
  | cons r t =>
    obtain ⟨m1, k1, k2, k3⟩ := r
    obtain ⟨q1, q2⟩ := List.pairwise_cons.mp h2
    refine ⟨m1 ++ _, k1.append t, List.pairwise_append.mpr ⟨k2, q2, fun f hf g hg a o e1 e2 => q1 g hg a o (k3 f hf a o e1).1 e2⟩, fun g hg => ?_⟩
    rcases List.mem_append.mp hg with hg | hg
    · exact (k3 g hg).trans (h3 _ List.mem_cons_self)
    · exact h3 g (List.mem_cons_of_mem _ hg)
theorem Pcs.of1 (h : Pcs [A] H) (mono : ∀ g, A g → Sub g H → A H) : A H := by
  obtain ⟨ps, h1, _, h3⟩ := h
  cases h1 with
  | cons r t => exact mono _ r (h3 _ List.mem_cons_self)
theorem Pcs.ex {α : Type} {F : α → SA} (h : Pcs ((fun g => ∃ x, F x g) :: L) H) : ∃ x, Pcs (F x :: L) H := by
  obtain ⟨ps, h1, h2, h3⟩ := h
  cases h1 with
  | cons r t =>
    obtain ⟨x, r⟩ := r
    exact ⟨x, _, .cons r t, h2, h3⟩
theorem Pcs.pure {φ : Prop} (h : Pcs ((fun g => φ ∧ A g) :: L) H) : φ ∧ Pcs (A :: L) H := by
  obtain ⟨ps, h1, h2, h3⟩ := h
  cases h1 with
  | cons r t => exact ⟨r.1, _, .cons r.2 t, h2, h3⟩
theorem Pcs.fact {φ : Prop} (f : ∀ g, A g → φ) (h : Pcs (A :: L) H) : φ := by
  obtain ⟨ps, h1, h2, h3⟩ := h
  cases h1 with
  | cons r t => exact f _ r
theorem Pcs.factH {φ : Prop} (f : ∀ g, A g → Sub g H → φ) (h : Pcs (A :: L) H) : φ := by
  obtain ⟨ps, h1, h2, h3⟩ := h
  cases h1 with
  | cons r t => exact f _ r (h3 _ List.mem_cons_self)
/-! ### a new object, an object written -/
def NoTbl (o : HO) : Prop := ∀ ps, o ≠ .tbl ps
def one (a : Addr) (o : HO) : Hp := fun b => if b = a then some o else none
theorem one_same : one a o a = some o := if_pos rfl
theorem one_of {b : Addr} {u : HO} (h : one a o b = some u) : b = a ∧ u = o := by
  unfold one at h
  by_cases e : b = a
  · rw [if_pos e] at h; exact ⟨e, (Option.some.inj h).symm⟩
  · rw [if_neg e] at h; cases h
theorem Pcs.new (hp : H p = none) (ho : NoTbl o) (h : Pcs L H) : Pcs (pt p o :: L) (upd H p o) := by
  obtain ⟨ps, h1, h2, h3⟩ := h
  refine ⟨one p o :: ps, .cons one_same h1, List.pairwise_cons.mpr ⟨fun g hg a u e1 e2 => ?_, h2⟩, fun g hg => ?_⟩
  · obtain ⟨rfl, rfl⟩ := one_of e1
    have := (h3 g hg a u e2).1
    rw [hp] at this; cases this
  · rcases List.mem_cons.mp hg with rfl | hg
    · intro a u e
      obtain ⟨rfl, rfl⟩ := one_of e
      exact ⟨upd_same, ho⟩
    · intro a u e
      have s := h3 g hg a u e
      exact ⟨by rw [upd_ne (ne_of_none s.1 hp)]; exact s.1, s.2⟩
/-- what may be written over -/
def Wr : HO → Prop
  | .lst _ | .dK _ | .dT _ | .set _ _ | .ins _ _ _ | .frz _ _ => True
  | _ => False
theorem Pcs.wr (ho : Wr o) (ho' : NoTbl o') (h : Pcs (pt a o :: L) H) : Pcs (pt a o' :: L) (upd H a o') := by
  have ha := h.get
  obtain ⟨ps, h1, h2, h3⟩ := h
  cases h1 with
  | @cons _ f _ m r t =>
    obtain ⟨q1, q2⟩ := List.pairwise_cons.mp h2
    have no : ∀ g : Hp, g ∈ m → ∀ u, g a = some u → False := fun g hg u e => by
      have s := (h3 g (List.mem_cons_of_mem _ hg) a u e).1
      rw [ha] at s; cases s
      obtain ⟨xs, e3⟩ := q1 g hg a o r e
      subst e3
      exact ho
    refine ⟨one a o' :: m, .cons one_same t, List.pairwise_cons.mpr ⟨fun g hg b u e1 e2 => ?_, q2⟩, fun g hg => ?_⟩
    · obtain ⟨rfl, rfl⟩ := one_of e1
      exact (no g hg u e2).elim
    · rcases List.mem_cons.mp hg with rfl | hg
      · intro b u e
        obtain ⟨rfl, rfl⟩ := one_of e
        exact ⟨upd_same, ho'⟩
      · intro b u e
        have s := h3 g (List.mem_cons_of_mem _ hg) b u e
        have nb : b ≠ a := fun z => no g hg u (z ▸ e)
        exact ⟨by rw [upd_ne nb]; exact s.1, s.2⟩
theorem Tabs.new {T : List (Addr × Str)} (hp : H p = none) (h : LamX.Tabs T H) : LamX.Tabs T (upd H p o) := h.ext fun b u e => by
  rw [upd_ne (ne_of_none e hp)]; exact e
theorem Tabs.wr {T : List (Addr × Str)} (ha : H a = some o) (ho : Wr o) (h : LamX.Tabs T H) : LamX.Tabs T (upd H a o') := fun p hp => by
  obtain ⟨ps, h1, h2, h3⟩ := h p hp
  refine ⟨ps, ?_, h2, fun pos cv hc => ?_⟩
  · rw [upd_ne (ne_of h1 ha (fun z => by subst z; exact ho))]; exact h1
  · obtain ⟨c, e1, e2⟩ := h3 pos cv hc
    refine ⟨c, e1, ?_⟩
    rw [upd_ne (ne_of e2 ha (fun z => by subst z; exact ho))]; exact e2
theorem Hs.new (hp : H p = none) (ho : NoTbl o) (h : Hs T L H) : Hs T (pt p o :: L) (upd H p o) := ⟨Tabs.new hp h.tabs, h.pcs.new hp ho⟩
theorem Hs.wr (ho : Wr o) (ho' : NoTbl o') (h : Hs T (pt a o :: L) H) : Hs T (pt a o' :: L) (upd H a o') := ⟨Tabs.wr h.pcs.get ho h.tabs, h.pcs.wr ho ho'⟩
theorem Hs.perm (p : L.Perm L') (h : Hs T L H) : Hs T L' H := ⟨h.tabs, h.pcs.perm p⟩
theorem Hs.get (h : Hs T (pt a o :: L) H) : H a = some o := h.pcs.get
theorem Hs.tail (h : Hs T (A :: L) H) : Hs T L H := ⟨h.tabs, h.pcs.tail⟩
theorem Hs.imp (f : ∀ h, A h → B h) (h : Hs T (A :: L) H) : Hs T (B :: L) H := ⟨h.tabs, h.pcs.imp f⟩
/-- a lambda was made: all but the tables stand -/
theorem Hs.extN (e : LamX.ExtN H H') (t : LamX.Tabs T H') (h : Hs T L H) : Hs T L H' := ⟨t, h.pcs.move fun g s a o q => ⟨e a o (s a o q).1 (s a o q).2, (s a o q).2⟩⟩
end
/-! ### to find, to put in place, to take out -/
inductive Sel : List SA → SA → List SA → Prop
  | here {A L} : Sel (A :: L) A L
  | there {A B L R} : Sel L A R → Sel (B :: L) A (B :: R)
inductive Rpl : List SA → SA → SA → List SA → Prop
  | here {A B L} : Rpl (A :: L) A B (B :: L)
  | there {A B C L L'} : Rpl L A B L' → Rpl (C :: L) A B (C :: L')
inductive Tk : List SA → List SA → List SA → Prop
  | nil {L} : Tk L [] L
  | cons {A L L1 W R} : Sel L A L1 → Tk L1 W R → Tk L (A :: W) R
theorem Sel.perm {L R : List SA} {A : SA} (h : Sel L A R) : L.Perm (A :: R) := by
  induction h with
  | here => exact List.Perm.refl _
  | there _ ih => exact (ih.cons _).trans (List.Perm.swap _ _ _)
theorem Rpl.perm {L L' : List SA} {A B : SA} (h : Rpl L A B L') : ∃ R, L.Perm (A :: R) ∧ L'.Perm (B :: R) := by
  induction h with
  | here => exact ⟨_, List.Perm.refl _, List.Perm.refl _⟩
  | there _ ih =>
    obtain ⟨R, p, q⟩ := ih
    exact ⟨_ :: R, (p.cons _).trans (List.Perm.swap _ _ _), (q.cons _).trans (List.Perm.swap _ _ _)⟩
theorem Tk.perm {L W R : List SA} (h : Tk L W R) : L.Perm (W ++ R) := by
  induction h with
  | nil => exact List.Perm.refl _
  | cons s _ ih => exact s.perm.trans (ih.cons _)
theorem Hs.take {T : List (Addr × Str)} {L W R : List SA} {H : Hp} (t : Tk L W R) (h : Hs T L H) : Hs T (W ++ R) H := h.perm t.perm
theorem Pcs.drop {H : Hp} : ∀ {W R : List SA}, Pcs (W ++ R) H → Pcs W H
  | W, [], h => by rw [List.append_nil] at h; exact h
  | W, A :: R, h => Pcs.drop (R := R) (Pcs.tail (h.perm List.perm_middle))
theorem Hs.only {T : List (Addr × Str)} {L W R : List SA} {H : Hp} (t : Tk L W R) (h : Hs T L H) : Hs T W H := ⟨h.tabs, Pcs.drop (h.pcs.perm t.perm)⟩
theorem Hs.sel {T : List (Addr × Str)} {L R : List SA} {A : SA} {H : Hp} (t : Sel L A R) (h : Hs T L H) : Hs T (A :: R) H := h.perm t.perm
theorem Hs.at {T : List (Addr × Str)} {L R : List SA} {a : Addr} {o : HO} {H : Hp} (t : Sel L (pt a o) R) (h : Hs T L H) : H a = some o := (h.sel t).get
theorem Hs.rpl {T : List (Addr × Str)} {L L' : List SA} {a : Addr} {o o' : HO} {H : Hp} (r : Rpl L (pt a o) (pt a o') L') (ho : Wr o) (ho' : NoTbl o') (h : Hs T L H) : Hs T L' (upd H a o') := by
  obtain ⟨R, p, q⟩ := r.perm
  exact ((h.perm p).wr ho ho').perm q.symm
theorem Rpl.sel {L L' : List SA} {A B : SA} (h : Rpl L A B L') : ∃ R, Sel L A R := by
  induction h with
  | here => exact ⟨_, .here⟩
  | there _ ih => obtain ⟨R, s⟩ := ih; exact ⟨_, .there s⟩
/-! ### the judgements over rows -/
abbrev GK := V → List SA → Prop
def WE (T : List (Addr × Str)) (te : TE) (σ : St) (L : List SA) (K : GK) : Prop := ∀ H, Hs T L H → ∀ Q : VK, (∀ v L' H', K v L' → Hs T L' H' → Q v H') → te σ H Q
def WT (T : List (Addr × Str)) (t : TT) (σ : St) (L : List SA) (K : Bool → List SA → Prop) : Prop := ∀ H, Hs T L H → ∀ Q : Bool → Hp → Prop, (∀ v L' H', K v L' → Hs T L' H' → Q v H') → t σ H Q
def WA (T : List (Addr × Str)) (ta : TA) (σ : St) (L : List SA) (K : List V → List SA → Prop) : Prop := ∀ H, Hs T L H → ∀ Q : List V → Hp → Prop, (∀ v L' H', K v L' → Hs T L' H' → Q v H') → ta σ H Q
def WR2 (T : List (Addr × Str)) (r : R2) (x y : V) (L : List SA) (K : GK) : Prop := ∀ H, Hs T L H → ∀ Q : VK, (∀ v L' H', K v L' → Hs T L' H' → Q v H') → r x y H Q
def WR1 (T : List (Addr × Str)) (r : V → Hp → VK → Prop) (x : V) (L : List SA) (K : GK) : Prop := ∀ H, Hs T L H → ∀ Q : VK, (∀ v L' H', K v L' → Hs T L' H' → Q v H') → r x H Q
def WRL (T : List (Addr × Str)) (r : List V → Hp → VK → Prop) (xs : List V) (L : List SA) (K : GK) : Prop := ∀ H, Hs T L H → ∀ Q : VK, (∀ v L' H', K v L' → Hs T L' H' → Q v H') → r xs H Q
def WRT (T : List (Addr × Str)) (r : V → Hp → (Bool → Hp → Prop) → Prop) (x : V) (L : List SA) (K : Bool → List SA → Prop) : Prop := ∀ H, Hs T L H → ∀ Q : Bool → Hp → Prop, (∀ v L' H', K v L' → Hs T L' H' → Q v H') → r x H Q
structure EndsL where
  nx : St → List SA → Prop
  rt : GK
  bk : St → List SA → Prop := fun _ _ => False
  ct : St → List SA → Prop := fun _ _ => False
structure EndsL.Le (T : List (Addr × Str)) (D : EndsL) (D0 : Ends) : Prop where
  nx : ∀ σ' L' H', D.nx σ' L' → Hs T L' H' → D0.nx σ' H'
  rt : ∀ v L' H', D.rt v L' → Hs T L' H' → D0.rt v H'
  bk : ∀ σ' L' H', D.bk σ' L' → Hs T L' H' → D0.bk σ' H'
  ct : ∀ σ' L' H', D.ct σ' L' → Hs T L' H' → D0.ct σ' H'
def WS (T : List (Addr × Str)) (t : TS) (D : EndsL) (σ : St) (L : List SA) : Prop := ∀ H, Hs T L H → ∀ D0 : Ends, D.Le T D0 → t D0 σ H
def WG (T : List (Addr × Str)) (t : TG) (v : V) (σ : St) (L : List SA) (K : St → List SA → Prop) : Prop := ∀ H, Hs T L H → ∀ Q : St → Hp → Prop, (∀ σ' L' H', K σ' L' → Hs T L' H' → Q σ' H') → t v σ H Q
def WGs (T : List (Addr × Str)) (t : TGs) (vs : List V) (σ : St) (L : List SA) (K : St → List SA → Prop) : Prop := ∀ H, Hs T L H → ∀ Q : St → Hp → Prop, (∀ σ' L' H', K σ' L' → Hs T L' H' → Q σ' H') → t vs σ H Q
/-! ### the weakest readings -/
def eW (X : Cx) (e : Expr) : TE := fun σ H Q => ∀ pins s, Inv X pins σ H s → wpAny (model X.prog X.w) X.A (eval e X.env) (EP X pins σ Q) X.xe s
def tW (X : Cx) (e : Expr) : TT := fun σ H Q => ∀ pins s, Inv X pins σ H s → wpAny (model X.prog X.w) X.A (isTrue e X.env (eval e X.env)) (TP X pins σ Q) X.xe s
def bW (X : Cx) (e : Expr) : TT := fun σ H Q => ∀ whole pins s, Inv X pins σ H s → wpAny (model X.prog X.w) X.A (isTrue e X.env whole) (TP X pins σ Q) X.xe s
def aW (X : Cx) (es : List Expr) : TA := fun σ H Q => ∀ pos pins s, Inv X pins σ H s → wpAny (model X.prog X.w) X.A (spliced (backTo pos (starEach es X.env))) (AP X pins σ Q) X.xe s
def sW (X : Cx) (st : Stmt) : TS := fun D σ H => ∀ pins s, Inv X pins σ H s → wpAny (model X.prog X.w) X.A (exec st X.env) (SP X pins D) X.xe s
def ssW (X : Cx) (st : List Stmt) : TS := fun D σ H => ∀ pins s, Inv X pins σ H s → wpAny (model X.prog X.w) X.A (execs st X.env) (SP X pins D) X.xe s
def gW (X : Cx) (tg : Expr) : TG := fun v σ H Q => ∀ pins s u, Inv X pins σ H s → RelV v u → wpAny (model X.prog X.w) X.A (assign tg X.env u) (fun _ s' => ∃ σ' H', Inv X pins σ' H' s' ∧ Q σ' H') X.xe s
def gsW (X : Cx) (ts : List Expr) : TGs := fun vs σ H Q => ∀ pins s us, Inv X pins σ H s → Vals vs us → wpAny (model X.prog X.w) X.A (assignInOrder ((assignEach ts X.env).map (·.2)) us) (fun _ s' => ∃ σ' H', Inv X pins σ' H' s' ∧ Q σ' H') X.xe s
def rW (X : Cx) (f : Value → Value → Sem Value) : R2 := fun x y H Q => ∀ pins s σ v u, Inv X pins σ H s → RelV x v → RelV y u → wpAny (model X.prog X.w) X.A (f v u) (EP X pins σ Q) X.xe s
def uW (X : Cx) (f : Value → Sem Value) : V → Hp → VK → Prop := fun x H Q => ∀ pins s σ v, Inv X pins σ H s → RelV x v → wpAny (model X.prog X.w) X.A (f v) (EP X pins σ Q) X.xe s
def cW (X : Cx) (f : Value) : List V → Hp → VK → Prop := fun xs H Q => ∀ pins s σ us, Inv X pins σ H s → Vals xs us → wpAny (model X.prog X.w) X.A (call f us) (EP X pins σ Q) X.xe s
def trW (X : Cx) : V → Hp → (Bool → Hp → Prop) → Prop := fun x H Q => ∀ pins s σ v, Inv X pins σ H s → RelV x v → wpAny (model X.prog X.w) X.A (truthy v) (TP X pins σ Q) X.xe s
section
variable {X : Cx} {e : Expr} {st : Stmt}
theorem peW : PE X e (eW X e) := ⟨fun pins s σ H Q I h => h pins s I⟩
theorem ptW : PT X e (tW X e) := ⟨fun pins s σ H Q I h => h pins s I⟩
theorem pwW : PW X e (bW X e) := ⟨fun wh pins s σ H Q I h => h wh pins s I⟩
theorem paW {es : List Expr} : PA X es (aW X es) := ⟨fun pos pins s σ H Q I h => h pos pins s I⟩
theorem psW : PS X st (sW X st) := ⟨fun pins s σ H D I h => h pins s I⟩
theorem pssW {sts : List Stmt} : PSs X sts (ssW X sts) := ⟨fun pins s σ H D I h => h pins s I⟩
theorem pgW : PG X e (gW X e) := ⟨fun pins s σ H v u Q I r h => h pins s u I r⟩
theorem pgsW {ts : List Expr} : PGs X ts (gsW X ts) := ⟨fun pins s σ H vs us Q I r h => h pins s us I r⟩
theorem opW {f : Value → Value → Sem Value} : OpR X f (rW X f) := fun pins s σ H x y v u Q I rx ry h => h pins s σ v u I rx ry
theorem unW {f : Value → Sem Value} : UnR X f (uW X f) := fun pins s σ H x v Q I rx h => h pins s σ v I rx
theorem caW {f : Value} : CallR X f (cW X f) := fun pins s σ H xs us Q I r h => h pins s σ us I r
end
def GE (T : List (Addr × Str)) (X : Cx) (e : Expr) (σ : St) (L : List SA) (K : GK) : Prop := WE T (eW X e) σ L K
def GT (T : List (Addr × Str)) (X : Cx) (e : Expr) (σ : St) (L : List SA) (K : Bool → List SA → Prop) : Prop := WT T (tW X e) σ L K
def GB (T : List (Addr × Str)) (X : Cx) (e : Expr) (σ : St) (L : List SA) (K : Bool → List SA → Prop) : Prop := WT T (bW X e) σ L K
def GA (T : List (Addr × Str)) (X : Cx) (es : List Expr) (σ : St) (L : List SA) (K : List V → List SA → Prop) : Prop := WA T (aW X es) σ L K
def GS (T : List (Addr × Str)) (X : Cx) (st : Stmt) (D : EndsL) (σ : St) (L : List SA) : Prop := WS T (sW X st) D σ L
def GSs (T : List (Addr × Str)) (X : Cx) (st : List Stmt) (D : EndsL) (σ : St) (L : List SA) : Prop := WS T (ssW X st) D σ L
def GG (T : List (Addr × Str)) (X : Cx) (tg : Expr) (v : V) (σ : St) (L : List SA) (K : St → List SA → Prop) : Prop := WG T (gW X tg) v σ L K
def GGs (T : List (Addr × Str)) (X : Cx) (ts : List Expr) (vs : List V) (σ : St) (L : List SA) (K : St → List SA → Prop) : Prop := WGs T (gsW X ts) vs σ L K
def GOp (T : List (Addr × Str)) (X : Cx) (f : Value → Value → Sem Value) (x y : V) (L : List SA) (K : GK) : Prop := WR2 T (rW X f) x y L K
def GU (T : List (Addr × Str)) (X : Cx) (f : Value → Sem Value) (x : V) (L : List SA) (K : GK) : Prop := WR1 T (uW X f) x L K
def GC (T : List (Addr × Str)) (X : Cx) (f : Value) (xs : List V) (L : List SA) (K : GK) : Prop := WRL T (cW X f) xs L K
def GTr (T : List (Addr × Str)) (X : Cx) (x : V) (L : List SA) (K : Bool → List SA → Prop) : Prop := WRT T (trW X) x L K
section
variable {T : List (Addr × Str)} {X : Cx} {e : Expr} {σ : St} {L : List SA} {K : GK}
theorem GE.of {t : TE} (h : PE X e t) (w : WE T t σ L K) : GE T X e σ L K := fun H hs Q q pins s I => h.run pins s σ H Q I (w H hs Q q)
theorem GT.of {t : TT} {K : Bool → List SA → Prop} (h : PT X e t) (w : WT T t σ L K) : GT T X e σ L K := fun H hs Q q pins s I => h.run pins s σ H Q I (w H hs Q q)
theorem GB.of {t : TT} {K : Bool → List SA → Prop} (h : PW X e t) (w : WT T t σ L K) : GB T X e σ L K := fun H hs Q q wh pins s I => h.run wh pins s σ H Q I (w H hs Q q)
theorem GA.of {es : List Expr} {t : TA} {K : List V → List SA → Prop} (h : PA X es t) (w : WA T t σ L K) : GA T X es σ L K := fun H hs Q q pos pins s I => h.run pos pins s σ H Q I (w H hs Q q)
theorem GS.of {st : Stmt} {t : TS} {D : EndsL} (h : PS X st t) (w : WS T t D σ L) : GS T X st D σ L := fun H hs D0 q pins s I => h.run pins s σ H D0 I (w H hs D0 q)
theorem GSs.of {st : List Stmt} {t : TS} {D : EndsL} (h : PSs X st t) (w : WS T t D σ L) : GSs T X st D σ L := fun H hs D0 q pins s I => h.run pins s σ H D0 I (w H hs D0 q)
theorem GG.of {tg : Expr} {t : TG} {v : V} {K : St → List SA → Prop} (h : PG X tg t) (w : WG T t v σ L K) : GG T X tg v σ L K := fun H hs Q q pins s u I r => h.run pins s σ H v u Q I r (w H hs Q q)
theorem GGs.of {ts : List Expr} {t : TGs} {vs : List V} {K : St → List SA → Prop} (h : PGs X ts t) (w : WGs T t vs σ L K) : GGs T X ts vs σ L K := fun H hs Q q pins s us I r => h.run pins s σ H vs us Q I r (w H hs Q q)
theorem GOp.of {f : Value → Value → Sem Value} {r : R2} {x y : V} (h : OpR X f r) (w : WR2 T r x y L K) : GOp T X f x y L K := fun H hs Q q pins s σ v u I rx ry => h pins s σ H x y v u Q I rx ry (w H hs Q q)
theorem GU.of {f : Value → Sem Value} {r : V → Hp → VK → Prop} {x : V} (h : UnR X f r) (w : WR1 T r x L K) : GU T X f x L K := fun H hs Q q pins s σ v I rx => h pins s σ H x v Q I rx (w H hs Q q)
theorem GC.of {f : Value} {r : List V → Hp → VK → Prop} {xs : List V} (h : CallR X f r) (w : WRL T r xs L K) : GC T X f xs L K := fun H hs Q q pins s σ us I r => h pins s σ H xs us Q I r (w H hs Q q)
theorem GTr.of {r : V → Hp → (Bool → Hp → Prop) → Prop} {x : V} {K : Bool → List SA → Prop} (h : TruR X r) (w : WRT T r x L K) : GTr T X x L K := fun H hs Q q pins s σ v I rx => h pins s σ H x v Q I rx (w H hs Q q)
theorem EndsL.Le.with {D : EndsL} {D0 : Ends} (l : D.Le T D0) {n : St → List SA → Prop} {n0 : St → Hp → Prop} (h : ∀ σ' L' H', n σ' L' → Hs T L' H' → n0 σ' H') : EndsL.Le T { D with nx := n } { D0 with nx := n0 } := ⟨h, l.rt, l.bk, l.ct⟩
/-- weaker ends -/
theorem GE.mono {K' : GK} (h : GE T X e σ L K) (q : ∀ v L', K v L' → K' v L') : GE T X e σ L K' := fun H hs Q k => h H hs Q fun v L' H' x => k v L' H' (q v L' x)
theorem GE.weak {L' W R : List SA} (t : Tk L W R) (h : GE T X e σ W K) : GE T X e σ L K := fun H hs Q k => h H (hs.only t) Q k
theorem GSs.weak {st : List Stmt} {D : EndsL} {W R : List SA} (t : Tk L W R) (h : GSs T X st D σ W) : GSs T X st D σ L := fun H hs Q k => h H (hs.only t) Q k
theorem GSs.perm {st : List Stmt} {D : EndsL} {W : List SA} (t : L.Perm W) (h : GSs T X st D σ W) : GSs T X st D σ L := fun H hs Q k => h H (hs.perm t) Q k
end
end SW
set_option Elab.async false
set_option linter.all false
set_option maxRecDepth 100000
set_option maxHeartbeats 2000000
/-! Sw2: the rules over rows: expressions, statements, calls. -/
namespace SW
open PySem PySem.Spec L2
open PyProof.Rows hiding St
section
variable {T : List (Addr × Str)} {X : Cx} {σ : St} {L : List SA} {K : GK} {e a b c : Expr} {es rest : List Expr} {x f : Str} {p pos p2 : Pos} {v : V} {i j : Nat}
/-! ### names, constants -/
theorem ge_var (hN : X.N[i]? = some x) (hv : Vis X.env.scope x) (hs : σ[i]? = some (some v)) (k : K v L) (hd : (x == ("__debug__" : Str)) = false) (hcd : (x == ("__classdict__" : Str)) = false) : GE T X (.Name x pos) σ L K :=
  GE.of (pe_var hN hv hd hcd) fun H hs' Q q => ⟨v, hs, q v L H k hs'⟩
theorem ge_int {i : Int} {j : Nat} (k : K (.int i) L) : GE T X (.Constant (.int i) j pos) σ L K := GE.of pe_int fun H h Q q => q _ L H k h
theorem ge_bl {b : Bool} {j : Nat} (k : K (.bl b) L) : GE T X (.Constant (.bool b) j pos) σ L K := GE.of pe_bl fun H h Q q => q _ L H k h
theorem ge_none {j : Nat} (k : K .non L) : GE T X (.Constant .none j pos) σ L K := GE.of pe_non fun H h Q q => q _ L H k h
theorem ge_str {x : Str} {j : Nat} (k : K (.str x) L) : GE T X (.Constant (.str x) j pos) σ L K := GE.of pe_str fun H h Q q => q _ L H k h
theorem ge_glob {u : Value} (hg : Gl X x) (hm : X.mg x = some u) (r : RelV v u) (k : K v L) (hd : (x == ("__debug__" : Str)) = false) : GE T X (.Name x pos) σ L K := GE.of (pe_glob hg hm r hd) fun H h Q q => q _ L H k h
/-! ### operators -/
theorem ge_bin {op : Operator} (h : GE T X a σ L fun x L1 => GE T X b σ L1 fun y L2 => GOp T X (binaryOp op) x y L2 K) : GE T X (.BinOp a op b pos) σ L K :=
  GE.of (pe_op opW peW peW) fun H hs Q q => h H hs _ fun x L1 H1 k1 h1 => k1 H1 h1 _ fun y L2 H2 k2 h2 => k2 H2 h2 Q q
theorem ge_un {op : UnaryOp} (h : GE T X a σ L fun x L1 => GU T X (unaryOp op) x L1 K) : GE T X (.UnaryOp op a pos) σ L K :=
  GE.of (pe_un unW peW) fun H hs Q q => h H hs _ fun x L1 H1 k1 h1 => k1 H1 h1 Q q
theorem ge_cmp {op : CmpOp} (hm : behindInMarks op b = false) (h : GE T X a σ L fun x L1 => GE T X b σ L1 fun y L2 => GOp T X (compareOp op) x y L2 K) : GE T X (.Compare a [op] [b] pos) σ L K :=
  GE.of (pe_cmpR opW peW peW hm) fun H hs Q q => h H hs _ fun x L1 H1 k1 h1 => k1 H1 h1 _ fun y L2 H2 k2 h2 => k2 H2 h2 Q q
def KB (K : Bool → List SA → Prop) : GK := fun z L => ∃ b, z = .bl b ∧ K b L
theorem KB.mk {K : Bool → List SA → Prop} {b : Bool} {L : List SA} (k : K b L) : KB K (.bl b) L := ⟨b, rfl, k⟩
theorem gt_cmp {op : CmpOp} {K : Bool → List SA → Prop} (hm : behindInMarks op b = false) (h : GE T X a σ L fun x L1 => GE T X b σ L1 fun y L2 => GOp T X (compareOp op) x y L2 (KB K)) : GT T X (.Compare a [op] [b] pos) σ L K :=
  GT.of (pt_cmpR opW peW peW hm) fun H hs Q q => h H hs _ fun x L1 H1 k1 h1 => k1 H1 h1 _ fun y L2 H2 k2 h2 => k2 H2 h2 _ fun z L3 H3 ⟨b, e, k3⟩ h3 => ⟨b, e, q b L3 H3 k3 h3⟩
/-- a expression that gives a bool, as a test -/
theorem gt_val {K : Bool → List SA → Prop} (he : ∀ whole, isTrue e X.env whole = (do let v ← whole; standAt e.pos; holding [v] (truthy v))) (h : GE T X e σ L (KB K)) : GT T X e σ L K :=
  GT.of (pt_val peW he) fun H hs Q q => h H hs _ fun z L3 H3 ⟨b, e, k3⟩ h3 => ⟨b, e, q b L3 H3 k3 h3⟩
theorem gt_bool {K : Bool → List SA → Prop} (h : GB T X e σ L K) : GT T X e σ L K := fun H hs Q q pins s I => h H hs Q q _ pins s I
theorem gb_and1 {K : Bool → List SA → Prop} (h : GT T X a σ L K) : GB T X (.BoolOp .And [a] pos) σ L K := GB.of (pw_and1 ptW) h
theorem gb_or1 {K : Bool → List SA → Prop} (h : GT T X a σ L K) : GB T X (.BoolOp .Or [a] pos) σ L K := GB.of (pw_or1 ptW) h
theorem gb_and {K : Bool → List SA → Prop} (h : GT T X a σ L fun c L1 => if c = true then GB T X (.BoolOp .And (b :: rest) pos) σ L1 K else K false L1) : GB T X (.BoolOp .And (a :: b :: rest) pos) σ L K :=
  GB.of (pw_and ptW pwW) fun H hs Q q => h H hs _ fun c L1 H1 k1 h1 => by
    cases c with
    | true => rw [if_pos rfl] at k1 ⊢; exact k1 H1 h1 Q q
    | false => rw [if_neg Bool.false_ne_true] at k1 ⊢; exact q _ L1 H1 k1 h1
theorem gb_or {K : Bool → List SA → Prop} (h : GT T X a σ L fun c L1 => if c = true then K true L1 else GB T X (.BoolOp .Or (b :: rest) pos) σ L1 K) : GB T X (.BoolOp .Or (a :: b :: rest) pos) σ L K :=
  GB.of (pw_or ptW pwW) fun H hs Q q => h H hs _ fun c L1 H1 k1 h1 => by
    cases c with
    | false => rw [if_neg Bool.false_ne_true] at k1 ⊢; exact k1 H1 h1 Q q
    | true => rw [if_pos rfl] at k1 ⊢; exact q _ L1 H1 k1 h1
theorem gt_not {K : Bool → List SA → Prop} (h : GT T X a σ L fun c L1 => K (!c) L1) : GT T X (.UnaryOp .Not a pos) σ L K :=
  GT.of (pt_not ptW) fun H hs Q q => h H hs _ fun c L1 H1 k1 h1 => q _ L1 H1 k1 h1
theorem ge_one {op : BoolOp} (h : GE T X a σ L K) : GE T X (.BoolOp op [a] pos) σ L K := GE.of (pe_one peW) h
theorem ge_and (h : GE T X a σ L fun x L1 => ∃ c, x = .bl c ∧ if c = true then GE T X (.BoolOp .And (b :: rest) pos) σ L1 K else K (.bl false) L1) : GE T X (.BoolOp .And (a :: b :: rest) pos) σ L K :=
  GE.of (pe_and peW peW) fun H hs Q q => h H hs _ fun x L1 H1 ⟨c, e, k1⟩ h1 => ⟨c, e, by
    cases c with
    | true => rw [if_pos rfl] at k1 ⊢; exact k1 H1 h1 Q q
    | false => rw [if_neg Bool.false_ne_true] at k1 ⊢; exact q _ L1 H1 k1 h1⟩
theorem ge_or (h : GE T X a σ L fun x L1 => ∃ c, x = .bl c ∧ if c = true then K (.bl true) L1 else GE T X (.BoolOp .Or (b :: rest) pos) σ L1 K) : GE T X (.BoolOp .Or (a :: b :: rest) pos) σ L K :=
  GE.of (pe_or peW peW) fun H hs Q q => h H hs _ fun x L1 H1 ⟨c, e, k1⟩ h1 => ⟨c, e, by
    cases c with
    | false => rw [if_neg Bool.false_ne_true] at k1 ⊢; exact k1 H1 h1 Q q
    | true => rw [if_pos rfl] at k1 ⊢; exact q _ L1 H1 k1 h1⟩
theorem ge_not (h : GE T X a σ L fun x L1 => ∃ c, x = .bl c ∧ K (.bl (!c)) L1) : GE T X (.UnaryOp .Not a pos) σ L K :=
  GE.of (pe_not peW) fun H hs Q q => h H hs _ fun x L1 H1 ⟨c, e, k1⟩ h1 => ⟨c, e, q _ L1 H1 k1 h1⟩
theorem ge_if (h : GT T X c σ L fun d L1 => if d = true then GE T X a σ L1 K else GE T X b σ L1 K) : GE T X (.IfExp c a b pos) σ L K :=
  GE.of (pe_ifExp ptW peW peW) fun H hs Q q => h H hs _ fun d L1 H1 k1 h1 => by
    cases d with
    | true => rw [if_pos rfl] at k1 ⊢; exact k1 H1 h1 Q q
    | false => rw [if_neg Bool.false_ne_true] at k1 ⊢; exact k1 H1 h1 Q q
theorem ge_chain {op op' : CmpOp} (hm : lastMarks [op, op'] [b, c] = false) (h : GE T X a σ L fun x L1 => GE T X b σ L1 fun y L2 => GOp T X (compareOp op) x y L2 fun z L3 => ∃ k, z = .bl k ∧
    if k = true then GE T X c σ L3 fun w L4 => GOp T X (compareOp op') y w L4 K else K (.bl false) L3) : GE T X (.Compare a [op, op'] [b, c] pos) σ L K :=
  GE.of (pe_chain opW opW peW peW peW hm) fun H hs Q q => h H hs _ fun x L1 H1 k1 h1 => k1 H1 h1 _ fun y L2 H2 k2 h2 => k2 H2 h2 _ fun z L3 H3 ⟨k, e, k3⟩ h3 => ⟨k, e, by
    cases k with
    | true => rw [if_pos rfl] at k3 ⊢; exact k3 H3 h3 _ fun w L4 H4 k4 h4 => k4 H4 h4 Q q
    | false => rw [if_neg Bool.false_ne_true] at k3 ⊢; exact q _ L3 H3 k3 h3⟩
theorem gt_chain {op op' : CmpOp} {K : Bool → List SA → Prop} (hm : lastMarks [op, op'] [b, c] = false) (h : GE T X a σ L fun x L1 => GE T X b σ L1 fun y L2 => GOp T X (compareOp op) x y L2 fun z L3 => ∃ k, z = .bl k ∧
    if k = true then GE T X c σ L3 fun w L4 => GOp T X (compareOp op') y w L4 (KB K) else K false L3) : GT T X (.Compare a [op, op'] [b, c] pos) σ L K :=
  GT.of (pt_chain opW opW peW peW peW hm) fun H hs Q q => h H hs _ fun x L1 H1 k1 h1 => k1 H1 h1 _ fun y L2 H2 k2 h2 => k2 H2 h2 _ fun z L3 H3 ⟨k, e, k3⟩ h3 => ⟨k, e, by
    cases k with
    | true =>
      rw [if_pos rfl] at k3 ⊢
      exact k3 H3 h3 _ fun w L4 H4 k4 h4 => k4 H4 h4 _ fun z L5 H5 ⟨b, e, k5⟩ h5 => ⟨b, e, q b L5 H5 k5 h5⟩
    | false =>
      rw [if_neg Bool.false_ne_true] at k3 ⊢
      exact ⟨false, rfl, q _ L3 H3 k3 h3⟩⟩
/-! ### leaves: ints, truth values, texts -/
theorem wr_I0 {g : Int → Int → V} {i j : Int} (k : K (g i j) L) : WR2 T (rI0 g) (.int i) (.int j) L K := fun H hs Q q => ⟨i, j, rfl, rfl, q _ L H k hs⟩
theorem wr_I {C : Int → Int → Prop} {g : Int → Int → V} {i j : Int} (c : C i j) (k : K (g i j) L) : WR2 T (rI C g) (.int i) (.int j) L K := fun H hs Q q => ⟨i, j, rfl, rfl, c, q _ L H k hs⟩
theorem go_add {i j : Int} (k : K (.int (i + j)) L) : GOp T X (binaryOp .Add) (.int i) (.int j) L K := GOp.of op_add (wr_I0 k)
theorem go_sub {i j : Int} (k : K (.int (i - j)) L) : GOp T X (binaryOp .Sub) (.int i) (.int j) L K := GOp.of op_sub (wr_I0 k)
theorem go_mul {i j : Int} (c : (-(2 ^ 64) < i ∧ i < 2 ^ 64) ∨ (-(2 ^ 64) < j ∧ j < 2 ^ 64)) (k : K (.int (i * j)) L) : GOp T X (binaryOp .Mult) (.int i) (.int j) L K := GOp.of op_mul (wr_I c k)
theorem go_div {i j : Int} (c : 0 < j ∧ j < 1073741824) (k : K (.int (i / j)) L) : GOp T X (binaryOp .FloorDiv) (.int i) (.int j) L K := GOp.of op_fdiv (wr_I c k)
theorem go_mod {i j : Int} (c : 0 < j) (k : K (.int (i % j)) L) : GOp T X (binaryOp .Mod) (.int i) (.int j) L K := GOp.of op_mod (wr_I c k)
theorem go_pow {i j : Int} (c : 0 ≤ j ∧ j ≤ 1000000 ∧ i.natAbs < 2 ^ 64) (k : K (.int (i ^ j.toNat)) L) : GOp T X (binaryOp .Pow) (.int i) (.int j) L K := GOp.of op_pow (wr_I c k)
theorem go_lt {i j : Int} (k : K (.bl (decide (i < j))) L) : GOp T X (compareOp .Lt) (.int i) (.int j) L K := GOp.of op_lt (wr_I0 k)
theorem go_le {i j : Int} (k : K (.bl (decide (i ≤ j))) L) : GOp T X (compareOp .LtE) (.int i) (.int j) L K := GOp.of op_le (wr_I0 k)
theorem go_gt {i j : Int} (k : K (.bl (decide (j < i))) L) : GOp T X (compareOp .Gt) (.int i) (.int j) L K := GOp.of op_gt (wr_I0 k)
theorem go_ge {i j : Int} (k : K (.bl (decide (j ≤ i))) L) : GOp T X (compareOp .GtE) (.int i) (.int j) L K := GOp.of op_ge (wr_I0 k)
theorem go_eqS {x y : V} (hx : scal x y = true) (k : K (.bl (decide (x = y))) L) : GOp T X (compareOp .Eq) x y L K := GOp.of op_eq fun H hs Q q => ⟨hx, q _ L H k hs⟩
theorem go_neS {x y : V} (hx : scal x y = true) (k : K (.bl (!decide (x = y))) L) : GOp T X (compareOp .NotEq) x y L K := GOp.of op_ne fun H hs Q q => ⟨hx, q _ L H k hs⟩
theorem dec_int (i j : Int) : decide (V.int i = V.int j) = decide (i = j) := by
  by_cases h : i = j
  · subst h; simp
  · rw [decide_eq_false h, decide_eq_false fun z => h (V.int.inj z)]
theorem dec_str (i j : Str) : decide (V.str i = V.str j) = decide (i = j) := by
  by_cases h : i = j
  · subst h; simp
  · rw [decide_eq_false h, decide_eq_false fun z => h (V.str.inj z)]
theorem dec_bl (i j : Bool) : decide (V.bl i = V.bl j) = decide (i = j) := by
  cases i <;> cases j <;> decide
theorem go_eqI {i j : Int} (k : K (.bl (decide (i = j))) L) : GOp T X (compareOp .Eq) (.int i) (.int j) L K := go_eqS rfl (by rw [dec_int]; exact k)
theorem go_neI {i j : Int} (k : K (.bl (!decide (i = j))) L) : GOp T X (compareOp .NotEq) (.int i) (.int j) L K := go_neS rfl (by rw [dec_int]; exact k)
theorem go_eqT {i j : Str} (k : K (.bl (decide (i = j))) L) : GOp T X (compareOp .Eq) (.str i) (.str j) L K := go_eqS rfl (by rw [dec_str]; exact k)
theorem go_neT {i j : Str} (k : K (.bl (!decide (i = j))) L) : GOp T X (compareOp .NotEq) (.str i) (.str j) L K := go_neS rfl (by rw [dec_str]; exact k)
theorem go_eqB {i j : Bool} (k : K (.bl (decide (i = j))) L) : GOp T X (compareOp .Eq) (.bl i) (.bl j) L K := go_eqS rfl (by rw [dec_bl]; exact k)
theorem go_neB {i j : Bool} (k : K (.bl (!decide (i = j))) L) : GOp T X (compareOp .NotEq) (.bl i) (.bl j) L K := go_neS rfl (by rw [dec_bl]; exact k)
theorem go_isN {x : V} (k : K (.bl (decide (x = .non))) L) : GOp T X (compareOp .Is) x .non L K := GOp.of op_isN fun H hs Q q => ⟨rfl, q _ L H k hs⟩
theorem go_notN {x : V} (k : K (.bl (!decide (x = .non))) L) : GOp T X (compareOp .IsNot) x .non L K := GOp.of op_notN fun H hs Q q => ⟨rfl, q _ L H k hs⟩
theorem gu_neg {i : Int} (k : K (.int (-i)) L) : GU T X (unaryOp .USub) (.int i) L K := GU.of un_neg fun H hs Q q => ⟨i, rfl, q _ L H k hs⟩
theorem go_addS {i j : Str} (hz : i.length + j.length ≤ sizeLine) (k : K (.str (i ++ j)) L) : GOp T X (binaryOp .Add) (.str i) (.str j) L K := GOp.of op_add_str fun H hs Q q => ⟨i, j, rfl, rfl, hz, q _ L H k hs⟩
/-! ### displays, subscripts, attributes -/
theorem ga_nil {K : List V → List SA → Prop} (k : K [] L) : GA T X [] σ L K := GA.of pa_nil fun H h Q q => q _ L H k h
theorem ga_cons {K : List V → List SA → Prop} (hst : starEach (e :: es) X.env = (false, eval e X.env) :: starEach es X.env) (h : GE T X e σ L fun x L1 => GA T X es σ L1 fun xs L2 => K (x :: xs) L2) : GA T X (e :: es) σ L K :=
  GA.of (pa_cons peW paW hst) fun H hs Q q => h H hs _ fun x L1 H1 k1 h1 => k1 H1 h1 _ fun xs L2 H2 k2 h2 => q _ L2 H2 k2 h2
theorem ge_tup {x1} (h : GA T X es σ L fun xs L1 => xs.length ≤ sizeLine ∧ ∀ p, K (.ref p) (pt p (.tup xs) :: L1)) : GE T X (.Tuple es x1 pos) σ L K :=
  GE.of (pe_tup paW) fun H hs Q q => h H hs _ fun xs L1 H1 k1 h1 => ⟨k1.1, fun p hp => q _ _ _ (k1.2 p) (h1.new hp fun _ => nofun)⟩
theorem ge_lst (h : GA T X es σ L fun xs L1 => xs.length ≤ sizeLine ∧ ∀ p, K (.ref p) (pt p (.lst xs) :: L1)) : GE T X (.List es pos) σ L K :=
  GE.of (pe_lst paW) fun H hs Q q => h H hs _ fun xs L1 H1 k1 h1 => ⟨k1.1, fun p hp => q _ _ _ (k1.2 p) (h1.new hp fun _ => nofun)⟩
/-- a[b] by values -/
def ixW (X : Cx) : R2 := fun x y H Q => ∀ (value slice : Expr) (pins : List (Addr × Obj)) (s : Shared) (σ : St) (v u : Value), Inv X pins σ H s → RelV x v → RelV y u → subscripted slice false v u = operate [v, u] (getItem v u) → wpAny (model X.prog X.w) X.A (subscriptTail value slice v u) (EP X pins σ Q) X.xe s
theorem ixWr : IxR X (ixW X) := fun value slice pins s σ H x y v u Q I rx ry h hs => h value slice pins s σ v u I rx ry hs
def GIx (T : List (Addr × Str)) (X : Cx) (x y : V) (L : List SA) (K : GK) : Prop := WR2 T (ixW X) x y L K
theorem GIx.of {r : R2} {x y : V} (h : IxR X r) (w : WR2 T r x y L K) : GIx T X x y L K := fun H hs Q q value slice pins s σ v u I rx ry z => h value slice pins s σ H x y v u Q I rx ry (w H hs Q q) z
theorem ge_sub (hs : PlainIx b) (h : GE T X a σ L fun x L1 => GE T X b σ L1 fun y L2 => GIx T X x y L2 K) : GE T X (.Subscript a b pos) σ L K :=
  GE.of (pe_ix ixWr peW peW hs) fun H hs Q q => h H hs _ fun x L1 H1 k1 h1 => k1 H1 h1 _ fun y L2 H2 k2 h2 => k2 H2 h2 Q q
theorem gi_lst {p : Addr} {xs : List V} {i : Int} {R : List SA} (s : Sel L (pt p (.lst xs)) R) (ha : atI xs i = some v) (k : K v L) : GIx T X (.ref p) (.int i) L K :=
  GIx.of ix_list fun H hs Q q => ⟨p, xs, i, v, rfl, rfl, SqL.of (hs.at s), ha, q _ L H k hs⟩
theorem gi_tup {p : Addr} {xs : List V} {i : Int} {R : List SA} (s : Sel L (pt p (.tup xs)) R) (ha : atI xs i = some v) (k : K v L) : GIx T X (.ref p) (.int i) L K :=
  GIx.of ix_tup fun H hs Q q => ⟨p, xs, i, v, rfl, rfl, SqT.of (hs.at s), ha, q _ L H k hs⟩
theorem gi_str {z : Str} {i : Int} {c : Nat} (hz : z.length ≤ sizeLine) (ha : atI z.cps.toList i = some c) (k : K (.str ⟨#[c]⟩) L) : GIx T X (.str z) (.int i) L K :=
  GIx.of ix_str fun H hs Q q => ⟨z, i, c, rfl, rfl, hz, ha, q _ L H k hs⟩
def GF (T : List (Addr × Str)) (KK : PySem.W.Frag) (x : V) (f : Str) (L : List SA) (K : GK) : Prop := ∃ a C dx fs v R, x = .ref a ∧ Sel L (pt a (.ins C dx fs)) R ∧ Cls KK C ∧ NoAttr KK C f ∧ fs.lookup f = some v ∧ K v L
theorem ge_fld (hb : attributeBase e f X.env (eval e X.env) = eval e X.env) (h : GE T X e σ L fun x L1 => GF T X.K x f L1 K) : GE T X (.Attribute e f pos) σ L K :=
  GE.of (pe_fld peW hb) fun H hs Q q => h H hs _ fun x L1 H1 ⟨a, C, dx, fs, v, R, ex, s, c, n, l, k⟩ h1 => ⟨a, C, dx, fs, v, ex, h1.at s, c, n, l, q _ L1 H1 k h1⟩
/-! ### calls of built-ins by their names -/
theorem ge_callB {id : String} (hg : Gl X x) (hm : X.mg x = none) (hv : bootBuiltins x = some (.builtin id)) (hn : x ≠ "__name__") (hdb : (x == ("__debug__" : Str)) = false) (he : starEach (e :: es) X.env = (false, eval e X.env) :: starEach es X.env) (hpl : (backTo pos (starEach es X.env)).any (·.1) = false)
    (h : GA T X (e :: es) σ L fun vs L1 => GC T X (.builtin id) vs L1 K) : GE T X (.Call (.Name x p) (e :: es) [] pos) σ L K :=
  GE.of (pe_callB caW hg hm hv paW hn hdb he hpl) fun H hs Q q => h H hs _ fun vs L1 H1 k1 h1 => k1 H1 h1 Q q
theorem ge_callTy {id : String} (hg : Gl X x) (hm : X.mg x = none) (hv : bootBuiltins x = some (.type id)) (hn : x ≠ "__name__") (hdb : (x == ("__debug__" : Str)) = false) (he : starEach (e :: es) X.env = (false, eval e X.env) :: starEach es X.env) (hpl : (backTo pos (starEach es X.env)).any (·.1) = false)
    (h : GA T X (e :: es) σ L fun vs L1 => GC T X (.type id) vs L1 K) : GE T X (.Call (.Name x p) (e :: es) [] pos) σ L K :=
  GE.of (pe_callTy caW hg hm hv paW hn hdb he hpl) fun H hs Q q => h H hs _ fun vs L1 H1 k1 h1 => k1 H1 h1 Q q
theorem ge_callTy0 {id : String} (hg : Gl X x) (hm : X.mg x = none) (hv : bootBuiltins x = some (.type id)) (hn : x ≠ "__name__") (hdb : (x == ("__debug__" : Str)) = false)
    (h : GC T X (.type id) [] L K) : GE T X (.Call (.Name x p) [] [] pos) σ L K :=
  GE.of (pe_callTy0 caW hg hm hv hn hdb) fun H hs Q q => h H hs Q q
theorem gc_abs {i : Int} (k : K (.int (if i < 0 then -i else i)) L) : GC T X (.builtin "abs") [.int i] L K := GC.of call_abs fun H hs Q q => ⟨i, rfl, q _ L H k hs⟩
theorem gc_intI {i : Int} (k : K (.int i) L) : GC T X (.type "int") [.int i] L K := GC.of call_int1 fun H hs Q q => .inl ⟨i, rfl, q _ L H k hs⟩
theorem gc_intB {b : Bool} (k : K (.int (if b then 1 else 0)) L) : GC T X (.type "int") [.bl b] L K := GC.of call_int1 fun H hs Q q => .inr ⟨b, rfl, q _ L H k hs⟩
theorem gc_len {p : Addr} {xs : List V} {R : List SA} (s : Sel L (pt p (.lst xs)) R) (k : K (.int xs.length) L) : GC T X (.builtin "len") [.ref p] L K := GC.of call_len_seq fun H hs Q q => ⟨p, xs, rfl, .inl (SqL.of (hs.at s)), q _ L H k hs⟩
theorem gc_lenT {p : Addr} {xs : List V} {R : List SA} (s : Sel L (pt p (.tup xs)) R) (k : K (.int xs.length) L) : GC T X (.builtin "len") [.ref p] L K := GC.of call_len_seq fun H hs Q q => ⟨p, xs, rfl, .inr (SqT.of (hs.at s)), q _ L H k hs⟩
theorem gc_lenS {z : Str} (hz : z.length ≤ sizeLine) (k : K (.int z.length) L) : GC T X (.builtin "len") [.str z] L K := GC.of call_len_str fun H hs Q q => ⟨z, rfl, hz, q _ L H k hs⟩
end
/-! ### own defs -/
abbrev KX := Value → Option Addr → List SA → Prop
abbrev SpL := List V → List SA → GK → KX → Prop
def spOf (T : List (Addr × Str)) (S : SpL) : Sp := fun vs H Q E => ∃ L K kx, Hs T L H ∧ S vs L K kx ∧ (∀ v L' H', K v L' → Hs T L' H' → Q v H') ∧ ∀ cls d L' H', kx cls d L' → Hs T L' H' → E cls d H'
def Xok (T : List (Addr × Str)) (X : Cx) (kx : KX) : Prop := ∃ W : WX, Takes X W ∧ ∀ cls d σ L H, kx cls d L → Hs T L H → W cls d σ H
def kx0 : KX := fun _ _ _ => False
theorem xok0 {T : List (Addr × Str)} {X : Cx} : Xok T X kx0 := ⟨_, takes0, fun _ _ _ _ _ h _ => h.elim⟩
def EX (T : List (Addr × Str)) (kx : KX) : XK := fun cls d H => ∃ L, kx cls d L ∧ Hs T L H
theorem Xok.pass {T : List (Addr × Str)} {X : Cx} {kx : KX} (h : Xok T X kx) : Passes (L2.CX X.prog X.w) X (EX T kx) := by
  obtain ⟨W, tk, hW⟩ := h
  exact passes_call tk fun cls d σ H ⟨L, k, hs⟩ => hW cls d σ L H k hs
theorem Xok.imp {T : List (Addr × Str)} {X : Cx} {kx kx' : KX} (h : Xok T X kx) (f : ∀ c d L, kx' c d L → kx c d L) : Xok T X kx' := by
  obtain ⟨W, tk, hW⟩ := h
  exact ⟨W, tk, fun cls d σ L H k hs => hW cls d σ L H (f _ _ _ k) hs⟩
theorem spOf_of {T : List (Addr × Str)} {S : SpL} {vs : List V} {L : List SA} {K : GK} {kx : KX} {H : Hp} {Q : VK} (h : S vs L K kx) (hs : Hs T L H) (q : ∀ v L' H', K v L' → Hs T L' H' → Q v H') : spOf T S vs H Q (EX T kx) :=
  ⟨L, K, kx, hs, h, q, fun cls d L' H' k h' => ⟨L', k, h'⟩⟩
/-- a def of the module, callable -/
structure FnAt (T : List (Addr × Str)) (P : Program) (w : World) (K : PySem.W.Frag) (mg : Str → Option Value) (base : Heap) (k : Nat) (x : Str) (S : SpL) : Prop where
  ex : ∃ (fd : FuncData) (ps : List Str), FnOk P w K mg base (L2.CX P w) k (He.ga K x) fd ps (spOf T S) ∧ Binds K fd ps []
  mgx : mg x = some (.ref (He.ga K x))
  kp : PySem.W.keepIn K (.ref (He.ga K x)) = true
/-- a method -/
structure MeAt (T : List (Addr × Str)) (P : Program) (w : World) (K : PySem.W.Frag) (mg : Str → Option Value) (base : Heap) (k : Nat) (C m : Str) (S : SpL) : Prop where
  ex : ∃ (fd : FuncData) (ps : List Str), FnOk P w K mg base (L2.CX P w) k (He.ma K (He.ga K C) m) fd ps (spOf T S) ∧ Binds K fd ps []
  cls : Cls K (He.ga K C)
  me : Meth K (He.ga K C) m (He.ma K (He.ga K C) m)
/-- a class that is made by its __init__ -/
structure MkAt (T : List (Addr × Str)) (P : Program) (w : World) (K : PySem.W.Frag) (mg : Str → Option Value) (base : Heap) (k : Nat) (C : Str) (S : SpL) : Prop where
  ex : ∃ (fd : FuncData) (ps : List Str), FnOk P w K mg base (L2.CX P w) k (He.ma K (He.ga K C) "__init__") fd ps (spOf T S) ∧ Binds K fd ps []
  mkr : Mk K (He.ga K C) (He.ma K (He.ga K C) "__init__")
  mgx : mg C = some (.ref (He.ga K C))
section
variable {T : List (Addr × Str)} {X : Cx} {σ : St} {L : List SA} {K : GK} {kx : KX} {S : SpL} {e o : Expr} {es : List Expr} {x m : Str} {p pos apos : Pos} {k : Nat}
theorem ge_call (F : FnAt T X.prog X.w X.K X.mg X.base k x S) (hr : Room k X.A) (hx : Xok T X kx) (hg : Gl X x) (hdb : (x == ("__debug__" : Str)) = false) (he : starEach (e :: es) X.env = (false, eval e X.env) :: starEach es X.env) (hpl : (backTo pos (starEach es X.env)).any (·.1) = false)
    (h : GA T X (e :: es) σ L fun vs L1 => S vs L1 K kx) : GE T X (.Call (.Name x p) (e :: es) [] pos) σ L K := by
  obtain ⟨fd, ps, F1, hb⟩ := F.ex
  refine GE.of (pe_call F1 hr hg F.mgx F.kp hb .nil hx.pass paW hdb he hpl) fun H hs Q q => h H hs _ fun vs L1 H1 k1 h1 => ?_
  rw [List.append_nil]
  exact spOf_of k1 h1 q
theorem ge_call0 (F : FnAt T X.prog X.w X.K X.mg X.base k x S) (hr : Room k X.A) (hx : Xok T X kx) (hg : Gl X x) (hdb : (x == ("__debug__" : Str)) = false)
    (h : S [] L K kx) : GE T X (.Call (.Name x p) [] [] pos) σ L K := by
  obtain ⟨fd, ps, F1, hb⟩ := F.ex
  exact GE.of (pe_call0 F1 hr hg F.mgx F.kp hb .nil hx.pass hdb) fun H hs Q q => spOf_of h hs q
def IsIns (T : List (Addr × Str)) (C : Addr) (x : V) (m : Str) (L : List SA) : Prop := ∃ a, x = .ref a ∧ ∀ H, Hs T L H → ∃ dx fs, H a = some (.ins C dx fs) ∧ fs.lookup m = none
theorem ge_meth {Cn : Str} (F : MeAt T X.prog X.w X.K X.mg X.base k Cn m S) (hr : Room k X.A) (hx : Xok T X kx) (hst : starEach (e :: es) X.env = (false, eval e X.env) :: starEach es X.env) (hpl : (backTo pos (starEach es X.env)).any (·.1) = false)
    (ht : ∃ pl : Sem Bool, eval (.Call (.Attribute o m apos) (e :: es) [] pos) X.env = (do
      let ov ← eval o X.env
      standAt apos.atName
      let (f, first) ← holding [ov] (getMethod ov m pl)
      callWith pos f first (backTo pos (starEach (e :: es) X.env)) (backToKw pos (keywordEach [] X.env))))
    (h : GE T X o σ L fun v L0 => IsIns T (He.ga X.K Cn) v m L0 ∧ GA T X (e :: es) σ L0 fun vs L1 => S (v :: vs) L1 K kx) : GE T X (.Call (.Attribute o m apos) (e :: es) [] pos) σ L K := by
  obtain ⟨fd, ps, F1, hb⟩ := F.ex
  obtain ⟨pl, ht⟩ := ht
  refine GE.of (pe_meth (pl := pl) peW F.cls F.me F1 hr hb .nil hx.pass paW hst hpl ht) fun H hs Q q => h H hs _ fun v L0 H0 ⟨⟨a, ev, fi⟩, k0⟩ h0 => ?_
  subst ev
  obtain ⟨dx, fs, hi, l⟩ := fi H0 h0
  refine ⟨a, dx, fs, rfl, hi, l, k0 H0 h0 _ fun vs L1 H1 k1 h1 => ?_⟩
  rw [List.append_nil]
  exact spOf_of k1 h1 q
theorem ge_meth0 {Cn : Str} (F : MeAt T X.prog X.w X.K X.mg X.base k Cn m S) (hr : Room k X.A) (hx : Xok T X kx)
    (ht : ∃ pl : Sem Bool, eval (.Call (.Attribute o m apos) [] [] pos) X.env = (do
      let ov ← eval o X.env
      standAt apos.atName
      let (f, first) ← holding [ov] (getMethod ov m pl)
      callWith pos f first (backTo pos (starEach [] X.env)) (backToKw pos (keywordEach [] X.env))))
    (h : GE T X o σ L fun v L0 => IsIns T (He.ga X.K Cn) v m L0 ∧ S [v] L0 K kx) : GE T X (.Call (.Attribute o m apos) [] [] pos) σ L K := by
  obtain ⟨fd, ps, F1, hb⟩ := F.ex
  obtain ⟨pl, ht⟩ := ht
  refine GE.of (pe_meth0 (pl := pl) peW F.cls F.me F1 hr hb .nil hx.pass ht) fun H hs Q q => h H hs _ fun v L0 H0 ⟨⟨a, ev, fi⟩, k0⟩ h0 => ?_
  subst ev
  obtain ⟨dx, fs, hi, l⟩ := fi H0 h0
  exact ⟨a, dx, fs, rfl, hi, l, spOf_of k0 h0 q⟩
theorem hs_made {H : Hp} {x dx C : Addr} (h : Hs T L H) (hx : H x = none) (hd : H dx = none) (ne : dx ≠ x) : Hs T (pt x (.ins C dx []) :: L) (upd (upd H dx (.own x)) x (.ins C dx [])) := by
  have h1 : Hs T (pt dx (.own x) :: L) (upd H dx (.own x)) := h.new hd fun _ => nofun
  exact h1.tail.new (by rw [upd_ne ne.symm]; exact hx) fun _ => nofun
theorem ge_make (F : MkAt T X.prog X.w X.K X.mg X.base k x S) (hr : Room (k + 1) X.A) (hx : Xok T X kx) (hg : Gl X x) (hdb : (x == ("__debug__" : Str)) = false) (he : starEach (e :: es) X.env = (false, eval e X.env) :: starEach es X.env) (hpl : (backTo pos (starEach es X.env)).any (·.1) = false)
    (h : GA T X (e :: es) σ L fun vs L1 => ∀ a dx, S (.ref a :: vs) (pt a (.ins (He.ga X.K x) dx []) :: L1) (fun v L2 => v = .non ∧ K (.ref a) L2) kx) : GE T X (.Call (.Name x p) (e :: es) [] pos) σ L K := by
  obtain ⟨fd, ps, F1, hb⟩ := F.ex
  refine GE.of (pe_make F.mkr F1 hr hg F.mgx hb .nil hx.pass paW hdb he hpl) fun H hs Q q => h H hs _ fun vs L1 H1 k1 h1 => fun a dx ha hd ne => ?_
  rw [List.append_nil]
  exact spOf_of (k1 a dx) (hs_made h1 ha hd ne) fun v L2 H2 ⟨e, k2⟩ h2 => ⟨e, q _ L2 H2 k2 h2⟩
theorem ge_make0 (F : MkAt T X.prog X.w X.K X.mg X.base k x S) (hr : Room (k + 1) X.A) (hx : Xok T X kx) (hg : Gl X x) (hdb : (x == ("__debug__" : Str)) = false)
    (h : ∀ a dx, S [.ref a] (pt a (.ins (He.ga X.K x) dx []) :: L) (fun v L2 => v = .non ∧ K (.ref a) L2) kx) : GE T X (.Call (.Name x p) [] [] pos) σ L K := by
  obtain ⟨fd, ps, F1, hb⟩ := F.ex
  refine GE.of (pe_make0 F.mkr F1 hr hg F.mgx hb .nil hx.pass hdb) fun H hs Q q => fun a dx ha hd ne => ?_
  exact spOf_of (h a dx) (hs_made hs ha hd ne) fun v L2 H2 ⟨e, k2⟩ h2 => ⟨e, q _ L2 H2 k2 h2⟩
end
/-! ### statements -/
section
variable {T : List (Addr × Str)} {X : Cx} {σ : St} {L : List SA} {D : EndsL} {e o a c : Expr} {st : Stmt} {rest body orelse : List Stmt} {x f : Str} {pos p pos' : Pos} {i j : Nat}
theorem gss_nil (h : D.nx σ L) : GSs T X [] D σ L := GSs.of pss_nil fun H hs D0 l => l.nx _ _ _ h hs
theorem gss_cons (h : GS T X st { D with nx := fun σ' L' => GSs T X rest D σ' L' } σ L) : GSs T X (st :: rest) D σ L :=
  GSs.of (pss_cons psW pssW) fun H hs D0 l => h H hs _ ⟨fun σ' L' H' k h' => k H' h' D0 l, l.rt, l.bk, l.ct⟩
theorem gss_one (h : GS T X st D σ L) : GSs T X [st] D σ L := GSs.of (pss_one psW) h
theorem gs_pass (h : D.nx σ L) : GS T X (.Pass pos) D σ L := GS.of ps_pass fun H hs D0 l => l.nx _ _ _ h hs
theorem gs_break (h : D.bk σ L) : GS T X (.Break pos) D σ L := GS.of ps_break fun H hs D0 l => l.bk _ _ _ h hs
theorem gs_continue (h : D.ct σ L) : GS T X (.Continue pos) D σ L := GS.of ps_continue fun H hs D0 l => l.ct _ _ _ h hs
theorem gs_doc {j} {z : Str} (h : D.nx σ L) : GS T X (.Expr (.Constant (.str z) j p) pos) D σ L := GS.of ps_doc fun H hs D0 l => l.nx _ _ _ h hs
theorem gs_expr (hsw : swapsWith e none pos.line X.env = pure false) (h : GE T X e σ L fun _ L1 => D.nx σ L1) : GS T X (.Expr e pos) D σ L :=
  GS.of (ps_expr peW hsw) fun H hs D0 l => h H hs _ fun v L1 H1 k h1 => l.nx _ _ _ k h1
theorem gs_ret (h : GE T X e σ L D.rt) : GS T X (.Return (some e) pos) D σ L := GS.of (ps_ret peW) fun H hs D0 l => h H hs _ l.rt
theorem gs_retN (h : D.rt .non L) : GS T X (.Return none pos) D σ L := GS.of ps_retN fun H hs D0 l => l.rt _ _ _ h hs
theorem gs_if (h : GT T X c σ L fun b L1 => if b = true then GSs T X body D σ L1 else GSs T X orelse D σ L1) : GS T X (.If c body orelse pos) D σ L :=
  GS.of (ps_if ptW pssW pssW) fun H hs D0 l => h H hs _ fun b L1 H1 k1 h1 => by
    cases b with
    | true => rw [if_pos rfl] at k1 ⊢; exact k1 H1 h1 D0 l
    | false => rw [if_neg Bool.false_ne_true] at k1 ⊢; exact k1 H1 h1 D0 l
theorem gs_set (hN : X.N.Nodup) (hi : X.N[i]? = some x) (hx : Loc X.env.scope x) (hsw : swapsWith e (some (.Name x pos')) pos.line X.env = pure false) (hf : X.fn x = true ∨ X.env.scope.names.lookup x = some .local)
    (h : GE T X e σ L fun v L1 => D.nx (σ.set i (some v)) L1) : GS T X (.Assign [.Name x pos'] e pos) D σ L :=
  GS.of (ps_set hN hi hx peW hsw hf) fun H hs D0 l => h H hs _ fun v L1 H1 k h1 => l.nx _ _ _ k h1
theorem gs_asg {tg : Expr} (hsw : swapsWithSole [tg] e pos.line X.env = pure false) (hw : swappedStores [tg] e X.env = pure none) (h1 : (assignEach [tg] X.env).map (·.2) = [assign tg X.env])
    (h : GE T X e σ L fun v L1 => GG T X tg v σ L1 D.nx) : GS T X (.Assign [tg] e pos) D σ L :=
  GS.of (ps_asg peW pgW hsw hw h1) fun H hs D0 l => h H hs _ fun v L1 H1 k h1 => k H1 h1 _ l.nx
theorem gs_par {y : Str} {b : Expr} {px py p3 : Pos} {kt k2 p4} (hc : X.calm = true) (hN : X.N.Nodup) (hi : X.N[i]? = some x) (hj : X.N[j]? = some y) (hij : i ≠ j)
    (hx : X.env.scope.names.lookup x = some .local) (hy : X.env.scope.names.lookup y = some .local)
    (hw : swappedStores [.Tuple [.Name x px, .Name y py] kt p3] (.Tuple [a, b] k2 p4) X.env = pure (some [x, y]))
    (hs : swapsWithSole [.Tuple [.Name x px, .Name y py] kt p3] (.Tuple [a, b] k2 p4) pos.line X.env = pure false)
    (h : GA T X [a, b] σ L fun vs L1 => ∃ v w, vs = [v, w] ∧ D.nx ((σ.set i (some v)).set j (some w)) L1) :
    GS T X (.Assign [.Tuple [.Name x px, .Name y py] kt p3] (.Tuple [a, b] k2 p4) pos) D σ L :=
  GS.of (ps_par hc hN hi hj hij hx hy paW hw hs) fun H hs D0 l => h H hs _ fun vs L1 H1 ⟨v, w, e, k⟩ h1 => ⟨v, w, e, l.nx _ _ _ k h1⟩
def GFS (KK : PySem.W.Frag) (x : V) (f : Str) (y : V) (L : List SA) (N : List SA → Prop) : Prop := ∃ a C dx fs L', x = .ref a ∧ Rpl L (pt a (.ins C dx fs)) (pt a (.ins C dx (putF f y fs))) L' ∧ Cls KK C ∧ NoAttr KK C f ∧ fs.length < 1000 ∧ N L'
theorem gs_fld (hsw : swapsWith e (some (.Attribute o f pos')) pos.line X.env = pure false) (h : GE T X e σ L fun y L1 => GE T X o σ L1 fun x L2 => GFS X.K x f y L2 (D.nx σ)) : GS T X (.Assign [.Attribute o f pos'] e pos) D σ L :=
  GS.of (ps_fld peW peW hsw) fun H hs D0 l => h H hs _ fun y L1 H1 k1 h1 => k1 H1 h1 _ fun x L2 H2 ⟨a, C, dx, fs, L', ex, r, c, n, z, k⟩ h2 => by
    obtain ⟨R, s⟩ := r.sel
    exact ⟨a, C, dx, fs, ex, h2.at s, c, n, z, l.nx _ _ _ k (h2.rpl r True.intro fun _ => nofun)⟩
end
end SW
set_option Elab.async false
set_option linter.all false
set_option maxRecDepth 100000
set_option maxHeartbeats 2000000
/-! Sw3: names by search, the entry of a def, stores. -/
namespace SW
open PySem PySem.Spec L2
open PyProof.Rows hiding St
/-- the value that a name holds, found along the rows -/
inductive At : List Str → St → Str → V → Prop
  | here {x N v σ} : At (x :: N) (some v :: σ) x v
  | there {x y N s σ v} : At N σ x v → At (y :: N) (s :: σ) x v
theorem At.ix {N : List Str} {σ : St} {x : Str} {v : V} (h : At N σ x v) : ∃ i : Nat, N[i]? = some x ∧ σ[i]? = some (some v) := by
  induction h with
  | here => exact ⟨0, rfl, rfl⟩
  | there _ ih => obtain ⟨i, a, b⟩ := ih; exact ⟨i + 1, by simpa using a, by simpa using b⟩
/-- a name is stored -/
inductive Put : List Str → St → Str → V → St → Prop
  | here {x N s v σ} : Put (x :: N) (s :: σ) x v (some v :: σ)
  | there {x y N s σ σ' v} : Put N σ x v σ' → Put (y :: N) (s :: σ) x v (s :: σ')
theorem Put.ix {N : List Str} {σ σ' : St} {x : Str} {v : V} (h : Put N σ x v σ') : ∃ i : Nat, N[i]? = some x ∧ σ' = σ.set i (some v) := by
  induction h with
  | here => exact ⟨0, rfl, rfl⟩
  | there _ ih => obtain ⟨i, a, b⟩ := ih; exact ⟨i + 1, by simpa using a, by simp [b]⟩
/-- what is stored stands behind: for a value not yet known -/
inductive Slot : List Str → St → Str → (V → St) → Prop
  | here {x N s σ} : Slot (x :: N) (s :: σ) x (fun v => some v :: σ)
  | there {x y N s σ f} : Slot N σ x f → Slot (y :: N) (s :: σ) x (fun v => s :: f v)
theorem Slot.ix {N : List Str} {σ : St} {x : Str} {f : V → St} (h : Slot N σ x f) : ∃ i : Nat, N[i]? = some x ∧ ∀ v, f v = σ.set i (some v) := by
  induction h with
  | here => exact ⟨0, rfl, fun _ => rfl⟩
  | there _ ih => obtain ⟨i, a, b⟩ := ih; exact ⟨i + 1, by simpa using a, fun v => by simp [b]⟩
/-- the kinds of names -/
inductive Kd : List (Str × NameKind) → Str → NameKind → Prop
  | here {x k l} : Kd ((x, k) :: l) x k
  | there {x k p l} : Kd l x k → Kd (p :: l) x k
theorem Kd.mem {l : List (Str × NameKind)} {x : Str} {k : NameKind} (h : Kd l x k) : (x, k) ∈ l := by
  induction h with
  | here => exact List.mem_cons_self
  | there _ ih => exact List.mem_cons_of_mem _ ih
theorem lookup_nodup {l : List (Str × NameKind)} {x : Str} {k : NameKind} (nd : (l.map (·.1)).Nodup) (h : (x, k) ∈ l) : l.lookup x = some k := by
  induction l with
  | nil => cases h
  | cons p l ih =>
    obtain ⟨y, m⟩ := p
    rw [List.map_cons, List.nodup_cons] at nd
    rcases List.mem_cons.mp h with e | e
    · cases e; simp [List.lookup]
    · have ne : x ≠ y := fun z => nd.1 (by rw [← z]; exact List.mem_map.mpr ⟨_, e, rfl⟩)
      rw [List.lookup_cons, show (x == y) = false from beq_eq_false_iff_ne.mpr ne]
      exact ih nd.2 e
/-- the names of the code at hand, their kinds -/
structure Nm (X : Cx) (N : List Str) (ks : List (Str × NameKind)) : Prop where
  nn : X.N = N
  kk : X.env.scope.names = ks
  nd : N.Nodup
  kd : (ks.map (·.1)).Nodup
/-- xs[k] = v -/
structure PutAt (xs : List V) (k : Int) (v : V) (ys : List V) : Prop where
  ex : ∃ j, ixN xs.length k = some j ∧ ys = xs.set j v
inductive SetR : List V → Nat → V → List V → Prop
  | here {x v : V} {xs : List V} : SetR (x :: xs) 0 v (v :: xs)
  | there {x v : V} {xs ys : List V} {n : Nat} : SetR xs n v ys → SetR (x :: xs) (n + 1) v (x :: ys)
theorem SetR.eq {xs ys : List V} {n : Nat} {v : V} (h : SetR xs n v ys) : ys = xs.set n v := by
  induction h with
  | here => rfl
  | there _ ih => rw [ih]; rfl
theorem PutAt.c {xs ys : List V} {k : Int} {v : V} (j : Nat) (h : ixN xs.length k = some j) (s : SetR xs j v ys) : PutAt xs k v ys := ⟨j, h, s.eq⟩
def GPutL (o i v : V) (L : List SA) (N : List SA → Prop) : Prop := ∃ p xs k ys L', o = .ref p ∧ i = .int k ∧ Rpl L (pt p (.lst xs)) (pt p (.lst ys)) L' ∧ PutAt xs k v ys ∧ N L'
theorem gput {p : Addr} {xs ys : List V} {k : Int} {v : V} {L L' : List SA} {N : List SA → Prop} (r : Rpl L (pt p (.lst xs)) (pt p (.lst ys)) L') (e : PutAt xs k v ys) (h : N L') : GPutL (.ref p) (.int k) v L N := ⟨p, xs, k, ys, L', rfl, rfl, r, e, h⟩
section
variable {T : List (Addr × Str)} {X : Cx} {σ : St} {L : List SA} {K : GK} {D : EndsL} {N : List Str} {ks : List (Str × NameKind)} {e : Expr} {x : Str} {pos pos' : Pos} {v : V}
theorem Nm.look (n : Nm X N ks) {k : NameKind} (h : Kd ks x k) : X.env.scope.names.lookup x = some k := by rw [n.kk]; exact lookup_nodup n.kd h.mem
theorem Nm.gl (n : Nm X N ks) (h : Kd ks x .globalImplicit) : Gl X x := n.look h
inductive Vk : NameKind → Prop
  | l : Vk .local
  | c : Vk .cell
  | f : Vk .free
theorem Nm.vis (n : Nm X N ks) {k : NameKind} (h : Kd ks x k) (v : Vk k) : Vis X.env.scope x := by
  cases v with
  | l => exact .inl (n.look h)
  | c => exact .inr (.inl (n.look h))
  | f => exact .inr (.inr (n.look h))
def dbg (x : Str) : Bool := (x == ("__debug__" : Str)) || (x == ("__classdict__" : Str))
theorem dbg1 (h : dbg x = false) : (x == ("__debug__" : Str)) = false := (Bool.or_eq_false_iff.mp h).1
theorem dbg2 (h : dbg x = false) : (x == ("__classdict__" : Str)) = false := (Bool.or_eq_false_iff.mp h).2
theorem ge_name {k : NameKind} (n : Nm X N ks) (a : At N σ x v) (h : Kd ks x k) (vk : Vk k) (hd : dbg x = false) (q : K v L) : GE T X (.Name x pos) σ L K := by
  obtain ⟨i, h1, h2⟩ := a.ix
  exact ge_var (i := i) (by rw [n.nn]; exact h1) (n.vis h vk) h2 q (dbg1 hd) (dbg2 hd)
inductive Lk : NameKind → Prop
  | l : Lk .local
  | c : Lk .cell
theorem Nm.loc (n : Nm X N ks) {k : NameKind} (h : Kd ks x k) (v : Lk k) : Loc X.env.scope x := by
  cases v with
  | l => exact .inl (n.look h)
  | c => exact .inr (n.look h)
theorem gs_name {k : NameKind} {f : V → St} (n : Nm X N ks) (s : Slot N σ x f) (h : Kd ks x k) (lk : Lk k) (hf : k = .local ∨ X.fn x = true) (hsw : swapsWith e (some (.Name x pos')) pos.line X.env = pure false)
    (q : GE T X e σ L fun v L1 => D.nx (f v) L1) : GS T X (.Assign [.Name x pos'] e pos) D σ L := by
  obtain ⟨i, h1, h2⟩ := s.ix
  have e1 : (fun (v : V) (L1 : List SA) => D.nx (f v) L1) = fun v L1 => D.nx (σ.set i (some v)) L1 := by funext v L1; rw [h2]
  rw [e1] at q
  refine gs_set (i := i) (by rw [n.nn]; exact n.nd) (by rw [n.nn]; exact h1) (n.loc h lk) hsw ?_ q
  rcases hf with rfl | hf
  · exact .inr (n.look h)
  · exact .inl hf
/-- a target that is a name -/
theorem gg_name {k : NameKind} {f : V → St} {K : St → List SA → Prop} (n : Nm X N ks) (s : Slot N σ x f) (h : Kd ks x k) (lk : Lk k) (hf : k = .local ∨ X.fn x = true) (q : K (f v) L) : GG T X (.Name x pos) v σ L K := by
  obtain ⟨i, h1, h2⟩ := s.ix
  refine GG.of (pg_name (i := i) (by rw [n.nn]; exact n.nd) (by rw [n.nn]; exact h1) (n.loc h lk) ?_) fun H hs Q q' => q' _ _ _ ?_ hs
  · rcases hf with rfl | hf
    · exact .inr (n.look h)
    · exact .inl hf
  · rw [← h2]; exact q
theorem gg_sub {o i : Expr} {K : St → List SA → Prop}
    (ha : ∀ v, assign (.Subscript o i pos) X.env v = (do
      let ov ← holding [v] (eval o X.env)
      let iv ← holding [v, ov] (eval i X.env)
      standAt pos
      holding [v, ov, iv] (setItem ov iv v)
      release [v, ov, iv] []))
    (h : GE T X o σ L fun ov L1 => GE T X i σ L1 fun iv L2 => GPutL ov iv v L2 (K σ)) : GG T X (.Subscript o i pos) v σ L K :=
  GG.of (pg_sub peW peW set_list ha) fun H hs Q q => h H hs _ fun ov L1 H1 k1 h1 => k1 H1 h1 _ fun iv L2 H2 ⟨p, xs, k, ys, L', e1, e2, r, ⟨j, e3, e4⟩, k2⟩ h2 => by
    obtain ⟨R, s⟩ := r.sel
    subst e4
    exact ⟨p, xs, k, j, e1, e2, h2.at s, e3, q _ _ _ k2 (h2.rpl r True.intro fun _ => nofun)⟩
end
theorem ite_dec {p A B : Prop} [Decidable p] (h1 : p → A) (h2 : ¬p → B) : if decide p = true then A else B := by
  by_cases h : p
  · rw [decide_eq_true h, if_pos rfl]; exact h1 h
  · rw [decide_eq_false h, if_neg Bool.false_ne_true]; exact h2 h
theorem ite_ndec {p A B : Prop} [Decidable p] (h1 : ¬p → A) (h2 : p → B) : if (!decide p) = true then A else B := by
  by_cases h : p
  · rw [decide_eq_true h]; exact h2 h
  · rw [decide_eq_false h]; exact h1 h
theorem ite_b {b : Bool} {A B : Prop} (h1 : b = true → A) (h2 : b = false → B) : if b = true then A else B := by
  cases b with
  | true => exact h1 rfl
  | false => exact h2 rfl
/-! ### filters -/
section
variable {T : List (Addr × Str)} {X : Cx} {σ : St} {L : List SA} {K : GK}
theorem GE.id {e : Expr} (h : GE T X e σ L K) : GE T X e σ L K := h
theorem GE.idCall {f : Expr} {es kw p} (h : GE T X (.Call f es kw p) σ L K) : GE T X (.Call f es kw p) σ L K := h
theorem GT.id {e : Expr} {K : Bool → List SA → Prop} (h : GT T X e σ L K) : GT T X e σ L K := h
theorem GB.id {e : Expr} {K : Bool → List SA → Prop} (h : GB T X e σ L K) : GB T X e σ L K := h
theorem GA.id {es : List Expr} {K : List V → List SA → Prop} (h : GA T X es σ L K) : GA T X es σ L K := h
theorem GS.id {st : Stmt} {D : EndsL} (h : GS T X st D σ L) : GS T X st D σ L := h
theorem GSs.id {st : List Stmt} {D : EndsL} (h : GSs T X st D σ L) : GSs T X st D σ L := h
theorem GG.id {tg : Expr} {v : V} {K : St → List SA → Prop} (h : GG T X tg v σ L K) : GG T X tg v σ L K := h
theorem GOp.id {f : Value → Value → Sem Value} {x y : V} (h : GOp T X f x y L K) : GOp T X f x y L K := h
theorem GC.id {f : Value} {xs : List V} (h : GC T X f xs L K) : GC T X f xs L K := h
theorem GIx.id {x y : V} (h : GIx T X x y L K) : GIx T X x y L K := h
end
/-! ### built-ins by name -/
section
variable {T : List (Addr × Str)} {X : Cx} {σ : St} {L : List SA} {K : GK} {N : List Str} {ks : List (Str × NameKind)} {e : Expr} {es : List Expr} {p pos : Pos}
theorem gb_int (n : Nm X N ks) (h : Kd ks "int" .globalImplicit) (hm : X.mg "int" = none) (he : starEach (e :: es) X.env = (false, eval e X.env) :: starEach es X.env) (hpl : (backTo pos (starEach es X.env)).any (·.1) = false)
    (q : GA T X (e :: es) σ L fun vs L1 => GC T X (.type "int") vs L1 K) : GE T X (.Call (.Name "int" p) (e :: es) [] pos) σ L K := ge_callTy (n.gl h) hm (by decide +kernel) (by decide) rfl he hpl q
theorem gb_str (n : Nm X N ks) (h : Kd ks "str" .globalImplicit) (hm : X.mg "str" = none) (he : starEach (e :: es) X.env = (false, eval e X.env) :: starEach es X.env) (hpl : (backTo pos (starEach es X.env)).any (·.1) = false)
    (q : GA T X (e :: es) σ L fun vs L1 => GC T X (.type "str") vs L1 K) : GE T X (.Call (.Name "str" p) (e :: es) [] pos) σ L K := ge_callTy (n.gl h) hm (by decide +kernel) (by decide) rfl he hpl q
theorem gb_list (n : Nm X N ks) (h : Kd ks "list" .globalImplicit) (hm : X.mg "list" = none) (he : starEach (e :: es) X.env = (false, eval e X.env) :: starEach es X.env) (hpl : (backTo pos (starEach es X.env)).any (·.1) = false)
    (q : GA T X (e :: es) σ L fun vs L1 => GC T X (.type "list") vs L1 K) : GE T X (.Call (.Name "list" p) (e :: es) [] pos) σ L K := ge_callTy (n.gl h) hm (by decide +kernel) (by decide) rfl he hpl q
theorem gb_tuple (n : Nm X N ks) (h : Kd ks "tuple" .globalImplicit) (hm : X.mg "tuple" = none) (he : starEach (e :: es) X.env = (false, eval e X.env) :: starEach es X.env) (hpl : (backTo pos (starEach es X.env)).any (·.1) = false)
    (q : GA T X (e :: es) σ L fun vs L1 => GC T X (.type "tuple") vs L1 K) : GE T X (.Call (.Name "tuple" p) (e :: es) [] pos) σ L K := ge_callTy (n.gl h) hm (by decide +kernel) (by decide) rfl he hpl q
theorem gb_dict (n : Nm X N ks) (h : Kd ks "dict" .globalImplicit) (hm : X.mg "dict" = none) (he : starEach (e :: es) X.env = (false, eval e X.env) :: starEach es X.env) (hpl : (backTo pos (starEach es X.env)).any (·.1) = false)
    (q : GA T X (e :: es) σ L fun vs L1 => GC T X (.type "dict") vs L1 K) : GE T X (.Call (.Name "dict" p) (e :: es) [] pos) σ L K := ge_callTy (n.gl h) hm (by decide +kernel) (by decide) rfl he hpl q
theorem gb_set (n : Nm X N ks) (h : Kd ks "set" .globalImplicit) (hm : X.mg "set" = none) (he : starEach (e :: es) X.env = (false, eval e X.env) :: starEach es X.env) (hpl : (backTo pos (starEach es X.env)).any (·.1) = false)
    (q : GA T X (e :: es) σ L fun vs L1 => GC T X (.type "set") vs L1 K) : GE T X (.Call (.Name "set" p) (e :: es) [] pos) σ L K := ge_callTy (n.gl h) hm (by decide +kernel) (by decide) rfl he hpl q
theorem gb_bool (n : Nm X N ks) (h : Kd ks "bool" .globalImplicit) (hm : X.mg "bool" = none) (he : starEach (e :: es) X.env = (false, eval e X.env) :: starEach es X.env) (hpl : (backTo pos (starEach es X.env)).any (·.1) = false)
    (q : GA T X (e :: es) σ L fun vs L1 => GC T X (.type "bool") vs L1 K) : GE T X (.Call (.Name "bool" p) (e :: es) [] pos) σ L K := ge_callTy (n.gl h) hm (by decide +kernel) (by decide) rfl he hpl q
theorem gb_range (n : Nm X N ks) (h : Kd ks "range" .globalImplicit) (hm : X.mg "range" = none) (he : starEach (e :: es) X.env = (false, eval e X.env) :: starEach es X.env) (hpl : (backTo pos (starEach es X.env)).any (·.1) = false)
    (q : GA T X (e :: es) σ L fun vs L1 => GC T X (.type "range") vs L1 K) : GE T X (.Call (.Name "range" p) (e :: es) [] pos) σ L K := ge_callTy (n.gl h) hm (by decide +kernel) (by decide) rfl he hpl q
theorem gb_abs (n : Nm X N ks) (h : Kd ks "abs" .globalImplicit) (hm : X.mg "abs" = none) (he : starEach (e :: es) X.env = (false, eval e X.env) :: starEach es X.env) (hpl : (backTo pos (starEach es X.env)).any (·.1) = false)
    (q : GA T X (e :: es) σ L fun vs L1 => GC T X (.builtin "abs") vs L1 K) : GE T X (.Call (.Name "abs" p) (e :: es) [] pos) σ L K := ge_callB (n.gl h) hm (by decide +kernel) (by decide) rfl he hpl q
theorem gb_len (n : Nm X N ks) (h : Kd ks "len" .globalImplicit) (hm : X.mg "len" = none) (he : starEach (e :: es) X.env = (false, eval e X.env) :: starEach es X.env) (hpl : (backTo pos (starEach es X.env)).any (·.1) = false)
    (q : GA T X (e :: es) σ L fun vs L1 => GC T X (.builtin "len") vs L1 K) : GE T X (.Call (.Name "len" p) (e :: es) [] pos) σ L K := ge_callB (n.gl h) hm (by decide +kernel) (by decide) rfl he hpl q
theorem gb_min (n : Nm X N ks) (h : Kd ks "min" .globalImplicit) (hm : X.mg "min" = none) (he : starEach (e :: es) X.env = (false, eval e X.env) :: starEach es X.env) (hpl : (backTo pos (starEach es X.env)).any (·.1) = false)
    (q : GA T X (e :: es) σ L fun vs L1 => GC T X (.builtin "min") vs L1 K) : GE T X (.Call (.Name "min" p) (e :: es) [] pos) σ L K := ge_callB (n.gl h) hm (by decide +kernel) (by decide) rfl he hpl q
theorem gb_max (n : Nm X N ks) (h : Kd ks "max" .globalImplicit) (hm : X.mg "max" = none) (he : starEach (e :: es) X.env = (false, eval e X.env) :: starEach es X.env) (hpl : (backTo pos (starEach es X.env)).any (·.1) = false)
    (q : GA T X (e :: es) σ L fun vs L1 => GC T X (.builtin "max") vs L1 K) : GE T X (.Call (.Name "max" p) (e :: es) [] pos) σ L K := ge_callB (n.gl h) hm (by decide +kernel) (by decide) rfl he hpl q
theorem gb_sum (n : Nm X N ks) (h : Kd ks "sum" .globalImplicit) (hm : X.mg "sum" = none) (he : starEach (e :: es) X.env = (false, eval e X.env) :: starEach es X.env) (hpl : (backTo pos (starEach es X.env)).any (·.1) = false)
    (q : GA T X (e :: es) σ L fun vs L1 => GC T X (.builtin "sum") vs L1 K) : GE T X (.Call (.Name "sum" p) (e :: es) [] pos) σ L K := ge_callB (n.gl h) hm (by decide +kernel) (by decide) rfl he hpl q
theorem gb_sorted (n : Nm X N ks) (h : Kd ks "sorted" .globalImplicit) (hm : X.mg "sorted" = none) (he : starEach (e :: es) X.env = (false, eval e X.env) :: starEach es X.env) (hpl : (backTo pos (starEach es X.env)).any (·.1) = false)
    (q : GA T X (e :: es) σ L fun vs L1 => GC T X (.builtin "sorted") vs L1 K) : GE T X (.Call (.Name "sorted" p) (e :: es) [] pos) σ L K := ge_callB (n.gl h) hm (by decide +kernel) (by decide) rfl he hpl q
theorem gb_any (n : Nm X N ks) (h : Kd ks "any" .globalImplicit) (hm : X.mg "any" = none) (he : starEach (e :: es) X.env = (false, eval e X.env) :: starEach es X.env) (hpl : (backTo pos (starEach es X.env)).any (·.1) = false)
    (q : GA T X (e :: es) σ L fun vs L1 => GC T X (.builtin "any") vs L1 K) : GE T X (.Call (.Name "any" p) (e :: es) [] pos) σ L K := ge_callB (n.gl h) hm (by decide +kernel) (by decide) rfl he hpl q
theorem gb_all (n : Nm X N ks) (h : Kd ks "all" .globalImplicit) (hm : X.mg "all" = none) (he : starEach (e :: es) X.env = (false, eval e X.env) :: starEach es X.env) (hpl : (backTo pos (starEach es X.env)).any (·.1) = false)
    (q : GA T X (e :: es) σ L fun vs L1 => GC T X (.builtin "all") vs L1 K) : GE T X (.Call (.Name "all" p) (e :: es) [] pos) σ L K := ge_callB (n.gl h) hm (by decide +kernel) (by decide) rfl he hpl q
theorem gb_ord (n : Nm X N ks) (h : Kd ks "ord" .globalImplicit) (hm : X.mg "ord" = none) (he : starEach (e :: es) X.env = (false, eval e X.env) :: starEach es X.env) (hpl : (backTo pos (starEach es X.env)).any (·.1) = false)
    (q : GA T X (e :: es) σ L fun vs L1 => GC T X (.builtin "ord") vs L1 K) : GE T X (.Call (.Name "ord" p) (e :: es) [] pos) σ L K := ge_callB (n.gl h) hm (by decide +kernel) (by decide) rfl he hpl q
end
/-! ### the entry of a def -/
section
variable {T : List (Addr × Str)} {P : Program} {w : World} {K : PySem.W.Frag} {mg : Str → Option Value} {base : Heap} {x qual : Str} {pa : Arguments} {bd : List Stmt} {sc : Scope} {f : Addr} {fd : FuncData} {N ps : List Str} {ks : List (Str × NameKind)} {k : Nat} {S : SpL}
abbrev bx (P : Program) (w : World) (K : PySem.W.Frag) (mg : Str → Option Value) (base : Heap) (N : List Str) (qual : Str) (sc : Scope) (f : Addr) (cdv : Value) (A : Around) (outer : List Env) (s : Shared) (H : Hp) (E : XK) : Cx := cxOf (L2.CX P w) P w K mg base N qual sc f cdv A outer s H E
structure DefSc (N ps : List Str) (ks : List (Str × NameKind)) (sc : Scope) : Prop where
  fs : FnScope N ps sc
  kseq : sc.names = ks
  kd : (ks.map (·.1)).Nodup
theorem def_ok (F : FunD K x qual pa bd sc [] [] f fd) (S0 : DefSc N ps ks sc) (hl : ∀ vs L K kx, S vs L K kx → vs.length = ps.length)
    (hb : ∀ (cdv : Value) (A : Around) (outer : List Env) (s : Shared) (H : Hp) (E : XK), Room k (bx P w K mg base N qual sc f cdv A outer s H E).A → Nm (bx P w K mg base N qual sc f cdv A outer s H E) N ks → ∀ (vs : List V) (L : List SA) (KK : GK) (kx : KX), S vs L KK kx →
      Xok T (bx P w K mg base N qual sc f cdv A outer s H E) kx → ∀ σ, σ = start N vs → GSs T (bx P w K mg base N qual sc f cdv A outer s H E) bd { nx := fun _ L => KK .non L, rt := KK } σ L) :
    FnOk P w K mg base (L2.CX P w) (k + 1) f fd ps (spOf T S) := by
  refine F.ok S0.fs (fun vs H Q E ⟨L, KK, kx, _, h, _⟩ => hl vs L KK kx h) fun cdv A outer s H vs Q E hr hsp => ?_
  obtain ⟨L, KK, kx, hs, h, q, qx⟩ := hsp
  have hx : Xok T (bx P w K mg base N qual sc f cdv A outer s H E) kx := ⟨fun cls d _ H => E cls d H, takes_of rfl rfl rfl rfl, fun cls d σ L H k h => qx cls d L H k h⟩
  have g := hb cdv A outer s H E hr ⟨rfl, S0.kseq, S0.fs.nd, S0.kd⟩ vs L KK kx h hx _ rfl
  exact ⟨_, pssW, g H hs _ ⟨fun σ' L' H' k h => q _ _ _ k h, q, fun _ _ _ k => k.elim, fun _ _ _ k => k.elim⟩⟩
theorem binds1 {a : Str} (F : FunD K x qual pa bd sc [] [] f fd)
    (h : ∀ (kV doc pm : Value) (an : Option Addr) (cdv ct u : Value), bindArgs (PySem.W.fnOf x qual pa bd sc .none kV doc pm an cdv ct) ⟨[u], []⟩ = pure [(a, u)]) : Binds K fd [a] [] :=
  F.bindsN fun kV doc pm an cdv ct us hl => match us, hl with | [u], _ => h kV doc pm an cdv ct u
end
end SW
set_option Elab.async false
set_option linter.all false
set_option maxRecDepth 100000
set_option maxHeartbeats 2000000
/-! Sw4: data that never changes (tuples), lists of such. -/
namespace SW
open PySem PySem.Spec L2
open PyProof.Rows hiding St
/-- all tuples of h are tuples of h' -/
def TupLe (h h' : Hp) : Prop := ∀ a xs, h a = some (.tup xs) → h' a = some (.tup xs)
theorem Sub.tup {h H : Hp} (s : Sub h H) : TupLe h H := fun a xs e => (s a _ e).1
def tupOf (H : Hp) : Hp := fun a => match H a with | some (.tup xs) => some (.tup xs) | _ => none
theorem tupOf_some {H : Hp} {a : Addr} {o : HO} (e : tupOf H a = some o) : ∃ xs, o = .tup xs ∧ H a = some (.tup xs) := by
  unfold tupOf at e
  split at e
  · rename_i xs q; cases e; exact ⟨xs, rfl, q⟩
  · cases e
theorem tupOf_le (H : Hp) : TupLe H (tupOf H) := fun a xs e => by unfold tupOf; rw [e]
theorem tupOf_sub (H : Hp) : Sub (tupOf H) H := fun a o e => by
  obtain ⟨xs, rfl, q⟩ := tupOf_some e
  exact ⟨q, fun _ => nofun⟩
/-- what speaks of tuples alone -/
def Pers (F : SA) : Prop := ∀ h h', TupLe h h' → F h → F h'
section
variable {T : List (Addr × Str)} {L : List SA} {A F : SA} {H : Hp}
theorem Pcs.addP (hF : Pers F) (h : Pcs L H) (f : F H) : Pcs (F :: L) H := by
  obtain ⟨ps, h1, h2, h3⟩ := h
  refine ⟨tupOf H :: ps, .cons (hF _ _ (tupOf_le H) f) h1, List.pairwise_cons.mpr ⟨fun g hg a o e1 e2 => ?_, h2⟩, fun g hg => ?_⟩
  · obtain ⟨xs, e, _⟩ := tupOf_some e1
    exact ⟨xs, e⟩
  · rcases List.mem_cons.mp hg with rfl | hg
    · exact tupOf_sub H
    · exact h3 g hg
theorem Hs.addP (hF : Pers F) (h : Hs T L H) (f : F H) : Hs T (F :: L) H := ⟨h.tabs, h.pcs.addP hF f⟩
theorem Hs.getP {R : List SA} (hF : Pers F) (s : Sel L F R) (h : Hs T L H) : F H := by
  obtain ⟨ps, h1, _, h3⟩ := (h.sel s).pcs
  cases h1 with
  | cons r t => exact hF _ _ (h3 _ List.mem_cons_self).tup r
/-- a fact that a piece tells -/
theorem Hs.factP {R : List SA} {φ : Prop} (f : ∀ g, A g → Sub g H → φ) (s : Sel L A R) (h : Hs T L H) : φ := (h.sel s).pcs.factH f
end
/-! ### representations -/
structure PRep (α : Type) where
  rel : Hp → V → α → Prop
  mono : ∀ {h h' : Hp} {v : V} {d : α}, TupLe h h' → rel h v d → rel h' v d
  enc : α → PyData
  dp : ∀ {K : PySem.W.Frag} {h : Hp} {v : V} {d : α}, rel h v d → Dp K h v (enc d)
  ok : ∀ {h : Hp} {v : V} {d : α}, rel h v d → (enc d).canLay0 = true
  dep : Nat
  hdep : ∀ d, (enc d).depth ≤ dep
  eqv : ∀ a b, PyData.eqv (enc a) (enc b) = true ↔ a = b
/-- the value is told by the datum alone -/
structure SRep {α : Type} (R : PRep α) (f : α → V) : Prop where
  to : ∀ {h : Hp} {v : V} {d : α}, R.rel h v d → v = f d
def A2r {α : Type} (R : PRep α) (h : Hp) (xs : List V) (ds : List α) : Prop := A2 (fun v d => R.rel h v d) xs ds
theorem A2r.mono {α : Type} {R : PRep α} {h h' : Hp} {xs : List V} {ds : List α} (t : TupLe h h') (a : A2r R h xs ds) : A2r R h' xs ds := A2.imp (fun _ _ r => R.mono t r) a
theorem A2r.dp {α : Type} {R : PRep α} {K : PySem.W.Frag} {h : Hp} {xs : List V} {ds : List α} (a : A2r R h xs ds) : DpAll K h xs (ds.map R.enc) := by
  induction a with
  | nil => exact .nil
  | cons r _ ih => exact .cons (R.dp r) ih
theorem A2r.ok {α : Type} {R : PRep α} {h : Hp} {xs : List V} {ds : List α} (a : A2r R h xs ds) : PyData.canLayAll0 (ds.map R.enc) = true := by
  induction a with
  | nil => rfl
  | cons r _ ih =>
    show PyData.canLayAll0 (R.enc _ :: _) = true
    simp only [PyData.canLayAll0, R.ok r, Bool.true_and]
    exact ih
theorem depthAll_le {α : Type} {R : PRep α} (ds : List α) : PyData.depthAll (ds.map R.enc) ≤ R.dep := by
  induction ds with
  | nil => exact Nat.zero_le _
  | cons d ds ih =>
    show PyData.depthAll (R.enc d :: ds.map R.enc) ≤ _
    simp only [PyData.depthAll]
    exact Nat.max_le.mpr ⟨R.hdep d, ih⟩
theorem eqvAll_iff {α : Type} {R : PRep α} : ∀ as bs : List α, PyData.eqvAll (as.map R.enc) (bs.map R.enc) = true ↔ as = bs
  | [], [] => by simp [PyData.eqvAll]
  | [], b :: bs => by simp [PyData.eqvAll]
  | a :: as, [] => by simp [PyData.eqvAll]
  | a :: as, b :: bs => by
    simp only [List.map_cons, PyData.eqvAll, Bool.and_eq_true, R.eqv, eqvAll_iff as bs, List.cons.injEq]
theorem A2r.length {α : Type} {R : PRep α} {h : Hp} {xs : List V} {ds : List α} (a : A2r R h xs ds) : xs.length = ds.length := A2.length a
theorem A2r.get {α : Type} {R : PRep α} {h : Hp} {xs : List V} {ds : List α} (a : A2r R h xs ds) : ∀ {i : Nat} {d : α}, ds[i]? = some d → ∃ x, xs[i]? = some x ∧ R.rel h x d := by
  induction a with
  | nil => intro i d e; simp at e
  | cons r t ih =>
    intro i d e
    cases i with
    | zero => simp at e; subst e; exact ⟨_, rfl, r⟩
    | succ i => obtain ⟨x, e1, e2⟩ := ih (by simpa using e); exact ⟨x, by simpa using e1, e2⟩
theorem A2r.get' {α : Type} {R : PRep α} {h : Hp} {xs : List V} {ds : List α} (a : A2r R h xs ds) : ∀ {i : Nat} {x : V}, xs[i]? = some x → ∃ d, ds[i]? = some d ∧ R.rel h x d := by
  induction a with
  | nil => intro i d e; simp at e
  | cons r t ih =>
    intro i d e
    cases i with
    | zero => simp at e; subst e; exact ⟨_, rfl, r⟩
    | succ i => obtain ⟨x, e1, e2⟩ := ih (by simpa using e); exact ⟨x, by simpa using e1, e2⟩
theorem A2r.take {α : Type} {R : PRep α} {h : Hp} {xs : List V} {ds : List α} (a : A2r R h xs ds) : ∀ n, A2r R h (xs.take n) (ds.take n) := by
  induction a with
  | nil => intro n; simp; exact .nil
  | cons r t ih => intro n; cases n with
    | zero => exact .nil
    | succ n => exact .cons r (ih n)
theorem A2r.drop {α : Type} {R : PRep α} {h : Hp} {xs : List V} {ds : List α} (a : A2r R h xs ds) : ∀ n, A2r R h (xs.drop n) (ds.drop n) := by
  induction a with
  | nil => intro n; simp; exact .nil
  | cons r t ih => intro n; cases n with
    | zero => exact .cons r t
    | succ n => exact ih n
theorem A2r.snoc {α : Type} {R : PRep α} {h : Hp} {xs : List V} {ds : List α} {x : V} {d : α} (a : A2r R h xs ds) (r : R.rel h x d) : A2r R h (xs ++ [x]) (ds ++ [d]) := A2.append a (.cons r .nil)
theorem A2r.app {α : Type} {R : PRep α} {h : Hp} {xs ys : List V} {ds es : List α} (a : A2r R h xs ds) (r : A2r R h ys es) : A2r R h (xs ++ ys) (ds ++ es) := A2.append a r
def rInt : PRep Int where
  rel := fun _ v d => v = .int d
  mono := fun _ h => h
  enc := .int
  dp := fun h => by subst h; exact .int _
  ok := fun _ => rfl
  dep := 0
  hdep := fun _ => Nat.le_refl _
  eqv := fun a b => by simp [PyData.eqv]
def rBl : PRep Bool where
  rel := fun _ v d => v = .bl d
  mono := fun _ h => h
  enc := .bool
  dp := fun h => by subst h; exact .bl _
  ok := fun _ => rfl
  dep := 0
  hdep := fun _ => Nat.le_refl _
  eqv := fun a b => by simp [PyData.eqv]
def rStr : PRep Str where
  rel := fun _ v d => v = .str d ∧ PySem.PyData.canLay0 (.str d) = true
  mono := fun _ h => h
  enc := .str
  dp := fun h => by obtain ⟨h, _⟩ := h; subst h; exact .str _
  ok := fun h => h.2
  dep := 0
  hdep := fun _ => Nat.le_refl _
  eqv := fun a b => by simp [PyData.eqv]
def vOpt : Option Str → V | none => .non | some s => .str s
def eOpt : Option Str → PyData | none => .none | some s => .str s
def rOpt : PRep (Option Str) where
  rel := fun _ v d => v = vOpt d ∧ PySem.PyData.canLay0 (eOpt d) = true
  mono := fun _ h => h
  enc := eOpt
  dp := fun {K h v d} q => by obtain ⟨q, _⟩ := q; subst q; cases d with
    | none => exact .non
    | some s => exact .str _
  ok := fun h => h.2
  dep := 0
  hdep := fun d => by cases d <;> exact Nat.le_refl _
  eqv := fun a b => by cases a <;> cases b <;> simp [PyData.eqv, eOpt]
theorem sInt : SRep rInt V.int := ⟨fun h => h⟩
theorem sBl : SRep rBl V.bl := ⟨fun h => h⟩
theorem sStr : SRep rStr V.str := ⟨fun h => h.1⟩
theorem sOpt : SRep rOpt vOpt := ⟨fun h => h.1⟩
theorem depth_tup {ds : List PyData} {n : Nat} (h : PyData.depthAll ds ≤ n) : (PyData.tuple ds).depth ≤ n + 1 := by simp only [PyData.depth]; omega
section
variable {α β γ δ : Type}
def rPair (R : PRep α) (S : PRep β) : PRep (α × β) where
  rel := fun h v d => ∃ a x y, v = .ref a ∧ h a = some (.tup [x, y]) ∧ R.rel h x d.1 ∧ S.rel h y d.2
  mono := fun t ⟨a, x, y, e, h, r, s⟩ => ⟨a, x, y, e, t _ _ h, R.mono t r, S.mono t s⟩
  enc := fun d => .tuple [R.enc d.1, S.enc d.2]
  dp := fun ⟨a, x, y, e, h, r, s⟩ => by subst e; exact .tup (SqT.of h) (.cons (R.dp r) (.cons (S.dp s) .nil))
  ok := fun ⟨a, x, y, e, h, r, s⟩ => by simp only [PyData.canLay0, PyData.canLayAll0, R.ok r, S.ok s, Bool.and_self]
  dep := max R.dep S.dep + 1
  hdep := fun d => depth_tup (by simp only [PyData.depthAll]; have := R.hdep d.1; have := S.hdep d.2; omega)
  eqv := fun a b => by simp only [PyData.eqv, PyData.eqvAll, Bool.and_true, Bool.and_eq_true, R.eqv, S.eqv]; exact ⟨fun ⟨x, y⟩ => Prod.ext x y, fun e => by subst e; exact ⟨rfl, rfl⟩⟩
def rTri (R : PRep α) (S : PRep β) (U : PRep γ) : PRep (α × β × γ) where
  rel := fun h v d => ∃ a x y z, v = .ref a ∧ h a = some (.tup [x, y, z]) ∧ R.rel h x d.1 ∧ S.rel h y d.2.1 ∧ U.rel h z d.2.2
  mono := fun t ⟨a, x, y, z, e, h, r, s, u⟩ => ⟨a, x, y, z, e, t _ _ h, R.mono t r, S.mono t s, U.mono t u⟩
  enc := fun d => .tuple [R.enc d.1, S.enc d.2.1, U.enc d.2.2]
  dp := fun ⟨a, x, y, z, e, h, r, s, u⟩ => by subst e; exact .tup (SqT.of h) (.cons (R.dp r) (.cons (S.dp s) (.cons (U.dp u) .nil)))
  ok := fun ⟨a, x, y, z, e, h, r, s, u⟩ => by simp only [PyData.canLay0, PyData.canLayAll0, R.ok r, S.ok s, U.ok u, Bool.and_self]
  dep := max R.dep (max S.dep U.dep) + 1
  hdep := fun d => depth_tup (by simp only [PyData.depthAll]; have := R.hdep d.1; have := S.hdep d.2.1; have := U.hdep d.2.2; omega)
  eqv := fun a b => by
    simp only [PyData.eqv, PyData.eqvAll, Bool.and_true, Bool.and_eq_true, R.eqv, S.eqv, U.eqv]
    exact ⟨fun ⟨x, y, z⟩ => Prod.ext x (Prod.ext y z), fun e => by subst e; exact ⟨rfl, rfl, rfl⟩⟩
def rQuad (R : PRep α) (S : PRep β) (U : PRep γ) (W : PRep δ) : PRep (α × β × γ × δ) where
  rel := fun h v d => ∃ a x y z w, v = .ref a ∧ h a = some (.tup [x, y, z, w]) ∧ R.rel h x d.1 ∧ S.rel h y d.2.1 ∧ U.rel h z d.2.2.1 ∧ W.rel h w d.2.2.2
  mono := fun t ⟨a, x, y, z, w, e, h, r, s, u, k⟩ => ⟨a, x, y, z, w, e, t _ _ h, R.mono t r, S.mono t s, U.mono t u, W.mono t k⟩
  enc := fun d => .tuple [R.enc d.1, S.enc d.2.1, U.enc d.2.2.1, W.enc d.2.2.2]
  dp := fun ⟨a, x, y, z, w, e, h, r, s, u, k⟩ => by subst e; exact .tup (SqT.of h) (.cons (R.dp r) (.cons (S.dp s) (.cons (U.dp u) (.cons (W.dp k) .nil))))
  ok := fun ⟨a, x, y, z, w, e, h, r, s, u, k⟩ => by simp only [PyData.canLay0, PyData.canLayAll0, R.ok r, S.ok s, U.ok u, W.ok k, Bool.and_self]
  dep := max R.dep (max S.dep (max U.dep W.dep)) + 1
  hdep := fun d => depth_tup (by simp only [PyData.depthAll]; have := R.hdep d.1; have := S.hdep d.2.1; have := U.hdep d.2.2.1; have := W.hdep d.2.2.2; omega)
  eqv := fun a b => by
    simp only [PyData.eqv, PyData.eqvAll, Bool.and_true, Bool.and_eq_true, R.eqv, S.eqv, U.eqv, W.eqv]
    exact ⟨fun ⟨x, y, z, w⟩ => Prod.ext x (Prod.ext y (Prod.ext z w)), fun e => by subst e; exact ⟨rfl, rfl, rfl, rfl⟩⟩
/-- a tuple of any number of such -/
def rTl (R : PRep α) : PRep (List α) where
  rel := fun h v ds => ∃ a xs, v = .ref a ∧ h a = some (.tup xs) ∧ A2r R h xs ds
  mono := fun t ⟨a, xs, e, h, r⟩ => ⟨a, xs, e, t _ _ h, r.mono t⟩
  enc := fun ds => .tuple (ds.map R.enc)
  dp := fun ⟨a, xs, e, h, r⟩ => by subst e; exact .tup (SqT.of h) r.dp
  ok := fun ⟨a, xs, e, h, r⟩ => by simp only [PyData.canLay0]; exact r.ok
  dep := R.dep + 1
  hdep := fun ds => depth_tup (depthAll_le ds)
  eqv := fun a b => by simp only [PyData.eqv]; exact eqvAll_iff a b
/-- a list of such, in one piece -/
def LstR (R : PRep α) (l : Addr) (ds : List α) : SA := fun h => ∃ xs, h l = some (.lst xs) ∧ A2r R h xs ds
def Val (R : PRep α) (v : V) (d : α) : SA := fun h => R.rel h v d
theorem Val.pers {R : PRep α} {v : V} {d : α} : Pers (Val R v d) := fun _ _ t r => R.mono t r
end
/-! ### rows entailed -/
def Ent (T : List (Addr × Str)) (L L' : List SA) : Prop := ∀ H, Hs T L H → Hs T L' H
section
variable {T : List (Addr × Str)} {L L' L1 L2 R W : List SA} {A B : SA}
theorem Ent.refl : Ent T L L := fun _ h => h
theorem Ent.trans (a : Ent T L L1) (b : Ent T L1 L2) : Ent T L L2 := fun H h => b H (a H h)
theorem Ent.tk (t : Tk L W R) : Ent T L (W ++ R) := fun _ h => h.take t
theorem Ent.only (t : Tk L W R) : Ent T L W := fun _ h => h.only t
theorem Ent.perm (p : L.Perm L') : Ent T L L' := fun _ h => h.perm p
theorem Ent.imp (f : ∀ h, A h → B h) : Ent T (A :: L) (B :: L) := fun H h => h.imp f
theorem Ent.fold : Ent T (L1 ++ L) ((fun g => Pcs L1 g) :: L) := fun H h => ⟨h.tabs, h.pcs.fold⟩
theorem Ent.unf : Ent T ((fun g => Pcs L1 g) :: L) (L1 ++ L) := fun H h => ⟨h.tabs, h.pcs.unf⟩
/-- a rewriting of what was taken out -/
theorem Ent.at (t : Tk L W R) (e : Ent T (W ++ R) L') : Ent T L L' := fun H h => e H (h.take t)
end
/-- rows that the rows at hand hold, found piece by piece -/
def Fit (L W : List SA) : Prop := ∀ H, Pcs L H → Pcs W H
def Cv (A B : SA) : Prop := ∀ h, A h → B h
theorem Cv.id {A : SA} : Cv A A := fun _ h => h
theorem Cv.pt {a : Addr} {o o' : HO} (e : o = o') : Cv (pt a o) (pt a o') := fun _ h => by rw [← e]; exact h
theorem Cv.lst {α : Type} {R : PRep α} {a : Addr} {ds ds' : List α} (e : ds = ds') : Cv (LstR R a ds) (LstR R a ds') := fun _ h => by rw [← e]; exact h
theorem Cv.val {α : Type} {R : PRep α} {v : V} {d d' : α} (e : d = d') : Cv (Val R v d) (Val R v d') := fun _ h => by rw [← e]; exact h
theorem Cv.lst0 {α : Type} {R : PRep α} {a : Addr} : Cv (SW.pt a (.lst [])) (LstR R a []) := fun h e => ⟨[], e, .nil⟩
theorem Cv.fold {L W : List SA} (f : Fit L W) : Cv (fun g => Pcs L g) (fun g => Pcs W g) := fun h p => f h p
theorem Pcs.cons2 {A B : SA} {L W : List SA} {H : Hp} (c : Cv A B) (t : Fit L W) (h : Pcs (A :: L) H) : Pcs (B :: W) H := by
  have k : Pcs (L ++ [A]) H := h.perm (List.perm_append_comm (l₁ := [A]) (l₂ := L))
  have k2 : Pcs ((fun g => Pcs L g) :: [A]) H := k.fold
  have k3 : Pcs ((fun g => Pcs W g) :: [A]) H := k2.imp fun g hg => t g hg
  have k4 := k3.unf.perm (List.perm_append_comm (l₁ := W) (l₂ := [A]))
  exact Pcs.imp (fun g x => c g x) k4
theorem Fit.refl {L : List SA} : Fit L L := fun _ h => h
theorem Fit.nil {L : List SA} : Fit L [] := fun _ _ => Pcs.nil
theorem Fit.drop {A : SA} {L W : List SA} (t : Fit L W) : Fit (A :: L) W := fun H h => t H h.tail
theorem Fit.cons {L R W : List SA} {A B : SA} (s : Sel L A R) (c : Cv A B) (t : Fit R W) : Fit L (B :: W) := fun H h => (h.perm s.perm).cons2 c t
theorem Fit.ent {T : List (Addr × Str)} {L W : List SA} (f : Fit L W) : Ent T L W := fun H h => ⟨h.tabs, f H h.pcs⟩
/-- one wished for piece, found -/
inductive SelC : List SA → SA → List SA → Prop
  | here {A B L} (c : Cv A B) : SelC (A :: L) B L
  | there {A B L R} (s : SelC L B R) : SelC (A :: L) B (A :: R)
theorem SelC.ex {L R : List SA} {B : SA} (h : SelC L B R) : ∃ A, Sel L A R ∧ Cv A B := by
  induction h with
  | here c => exact ⟨_, .here, c⟩
  | there _ ih => obtain ⟨A, s, c⟩ := ih; exact ⟨A, .there s, c⟩
theorem Fit.find {L R W : List SA} {B : SA} (s : SelC L B R) (t : Fit R W) : Fit L (B :: W) := by
  obtain ⟨A, s, c⟩ := s.ex
  exact .cons s c t
end SW
set_option Elab.async false
set_option linter.all false
set_option maxRecDepth 100000
set_option maxHeartbeats 2000000
/-! Sw5: what values stand for; lists, tuples, targets, loops, comprehensions. -/
namespace SW
open PySem PySem.Spec L2
open PyProof.Rows hiding St
/-! ### v stands for d -/
def Rv (T : List (Addr × Str)) (L : List SA) {α : Type} (v : V) (R : PRep α) (d : α) : Prop := ∀ H, Hs T L H → R.rel H v d
structure Scal {α : Type} (R : PRep α) (f : α → V) (good : α → Prop) : Prop where
  to : ∀ {h : Hp} {v : V} {d : α}, R.rel h v d → v = f d ∧ good d
  of : ∀ {h : Hp} {d : α}, good d → R.rel h (f d) d
def strGood (s : Str) : Prop := PyData.canLay0 (.str s) = true
def optGood (s : Option Str) : Prop := PyData.canLay0 (eOpt s) = true
theorem cInt : Scal rInt V.int (fun _ => True) := ⟨fun h => ⟨h, True.intro⟩, fun _ => rfl⟩
theorem cBl : Scal rBl V.bl (fun _ => True) := ⟨fun h => ⟨h, True.intro⟩, fun _ => rfl⟩
theorem cStr : Scal rStr V.str strGood := ⟨fun h => h, fun h => ⟨rfl, h⟩⟩
theorem cOpt : Scal rOpt vOpt optGood := ⟨fun h => h, fun h => ⟨rfl, h⟩⟩
section
variable {T : List (Addr × Str)} {L L' R' : List SA} {α β γ δ : Type} {R : PRep α} {S : PRep β} {U : PRep γ} {W : PRep δ} {v x y z w : V} {a : Addr}
theorem rv_val {d : α} (s : Sel L (Val R v d) R') : Rv T L v R d := fun H h => h.getP Val.pers s
theorem rv_scal {f : α → V} {g : α → Prop} {d : α} (c : Scal R f g) (h : g d) : Rv T L (f d) R d := fun _ _ => c.of h
theorem rv_int {i : Int} : Rv T L (.int i) rInt i := fun _ _ => rfl
theorem rv_bl {i : Bool} : Rv T L (.bl i) rBl i := fun _ _ => rfl
theorem rv_str {s : Str} (h : strGood s) : Rv T L (.str s) rStr s := fun _ _ => ⟨rfl, h⟩
theorem rv_pair {d : α} {e : β} (s : Sel L (pt a (.tup [x, y])) R') (h1 : Rv T L x R d) (h2 : Rv T L y S e) : Rv T L (.ref a) (rPair R S) (d, e) := fun H h => ⟨a, x, y, rfl, h.at s, h1 H h, h2 H h⟩
theorem rv_tri {d : α} {e : β} {c : γ} (s : Sel L (pt a (.tup [x, y, z])) R') (h1 : Rv T L x R d) (h2 : Rv T L y S e) (h3 : Rv T L z U c) : Rv T L (.ref a) (rTri R S U) (d, e, c) := fun H h => ⟨a, x, y, z, rfl, h.at s, h1 H h, h2 H h, h3 H h⟩
theorem rv_quad {d : α} {e : β} {c : γ} {b : δ} (s : Sel L (pt a (.tup [x, y, z, w])) R') (h1 : Rv T L x R d) (h2 : Rv T L y S e) (h3 : Rv T L z U c) (h4 : Rv T L w W b) : Rv T L (.ref a) (rQuad R S U W) (d, e, c, b) :=
  fun H h => ⟨a, x, y, z, w, rfl, h.at s, h1 H h, h2 H h, h3 H h, h4 H h⟩
theorem rv_tl0 {R : PRep α} (s : Sel L (pt a (.tup [])) R') : Rv T L (.ref a) (rTl R) [] := fun H h => ⟨a, [], rfl, h.at s, .nil⟩
/-- keep a fact -/
theorem GE.note {X : Cx} {e : Expr} {σ : St} {K : GK} {d : α} (r : Rv T L v R d) (h : GE T X e σ (Val R v d :: L) K) : GE T X e σ L K := fun H hs Q q => h H (hs.addP Val.pers (r H hs)) Q q
/-! ### equality of data -/
def Sees (T : List (Addr × Str)) (KK : PySem.W.Frag) (L : List SA) (v : V) (d : PyData) : Prop := ∀ H, Hs T L H → Dp KK H v d ∧ SeqAt.shaped d = true
theorem shaped_of {d : PyData} (h : d.canLay0 = true) (n : d.depth ≤ 64) : SeqAt.shaped d = true := by unfold SeqAt.shaped; rw [h, Bool.true_and]; exact decide_eq_true n
theorem sees_rv {KK : PySem.W.Frag} {d : α} (r : Rv T L v R d) (n : R.dep ≤ 64) : Sees T KK L v (R.enc d) := fun H h => ⟨R.dp (r H h), shaped_of (R.ok (r H h)) (Nat.le_trans (R.hdep d) n)⟩
theorem depth_lst {ds : List PyData} {n : Nat} (h : PyData.depthAll ds ≤ n) : (PyData.list ds).depth ≤ n + 1 := by simp only [PyData.depth]; omega
theorem sees_lst {KK : PySem.W.Frag} {l : Addr} {ds : List α} (s : Sel L (LstR R l ds) R') (n : R.dep ≤ 63) : Sees T KK L (.ref l) (.list (ds.map R.enc)) := fun H h =>
  h.factP (fun g ⟨xs, e, r⟩ sub => ⟨.lst (SqL.of (sub l _ e).1) (r.mono sub.tup).dp, shaped_of (by simp only [PyData.canLay0]; exact r.ok) (Nat.le_trans (depth_lst (depthAll_le ds)) (by omega))⟩) s
theorem a2_map {f : α → V} {g : α → Prop} (c : Scal R f g) {h : Hp} {ds : List α} (k : ∀ d ∈ ds, g d) : A2r R h (ds.map f) ds := by
  induction ds with
  | nil => exact .nil
  | cons d ds ih => exact .cons (c.of (k d List.mem_cons_self)) (ih fun e he => k e (List.mem_cons_of_mem _ he))
theorem a2_scal {f : α → V} {g : α → Prop} (c : Scal R f g) {h : Hp} {xs : List V} {ds : List α} (k : A2r R h xs ds) : xs = ds.map f ∧ ∀ d ∈ ds, g d := by
  induction k with
  | nil => exact ⟨rfl, fun _ h => nomatch h⟩
  | cons r _ ih =>
    obtain ⟨e, q⟩ := c.to r
    refine ⟨by rw [e, ih.1]; rfl, fun d hd => ?_⟩
    rcases List.mem_cons.mp hd with rfl | hd
    · exact q
    · exact ih.2 d hd
theorem lstR_pt {f : α → V} {g : α → Prop} (c : Scal R f g) {l : Addr} {ds : List α} (k : ∀ d ∈ ds, g d) (h : Hp) (e : pt l (.lst (ds.map f)) h) : LstR R l ds h := ⟨_, e, a2_map c k⟩
theorem sees_pt {KK : PySem.W.Frag} {f : α → V} {g : α → Prop} (c : Scal R f g) {l : Addr} {ds : List α} (s : Sel L (pt l (.lst (ds.map f))) R') (k : ∀ d ∈ ds, g d) (n : R.dep ≤ 63) : Sees T KK L (.ref l) (.list (ds.map R.enc)) := fun H h => by
  have r : A2r R H (ds.map f) ds := a2_map c k
  exact ⟨.lst (SqL.of (h.at s)) r.dp, shaped_of (by simp only [PyData.canLay0]; exact r.ok) (Nat.le_trans (depth_lst (depthAll_le ds)) (by omega))⟩
theorem sees_nil {KK : PySem.W.Frag} {l : Addr} (s : Sel L (pt l (.lst [])) R') : Sees T KK L (.ref l) (.list []) := fun H h => ⟨.lst (SqL.of (h.at s)) .nil, rfl⟩
theorem sees_nilT {KK : PySem.W.Frag} {l : Addr} (s : Sel L (pt l (.tup [])) R') : Sees T KK L (.ref l) (.tuple []) := fun H h => ⟨.tup (SqT.of (h.at s)) .nil, rfl⟩
variable {X : Cx} {K : GK} {D : EndsL} {σ : St}
theorem go_eqE {dx dy : PyData} {b : Bool} {k : Nat} (hr : Room k X.A) (h1 : Sees T X.K L x dx) (h2 : Sees T X.K L y dy) (e : PyData.eqv dx dy = b) (q : K (.bl b) L) : GOp T X (compareOp .Eq) x y L K :=
  GOp.of (op_eqD hr.units) fun H hs Q q' => ⟨dx, dy, (h1 H hs).1, (h2 H hs).1, (h1 H hs).2, (h2 H hs).2, q' _ _ _ (by rw [e]; exact q) hs⟩
theorem go_neE {dx dy : PyData} {b : Bool} {k : Nat} (hr : Room k X.A) (h1 : Sees T X.K L x dx) (h2 : Sees T X.K L y dy) (e : PyData.eqv dx dy = b) (q : K (.bl (!b)) L) : GOp T X (compareOp .NotEq) x y L K :=
  GOp.of (op_neD hr.units) fun H hs Q q' => ⟨dx, dy, (h1 H hs).1, (h2 H hs).1, (h1 H hs).2, (h2 H hs).2, q' _ _ _ (by rw [e]; exact q) hs⟩
theorem bool_dec {b : Bool} {p : Prop} [Decidable p] (h : b = true ↔ p) : b = decide p := by
  cases b with
  | true => exact (decide_eq_true (h.mp rfl)).symm
  | false => exact (decide_eq_false fun q => by have := h.mpr q; cases this).symm
theorem eqv_lst [DecidableEq α] (as bs : List α) : PyData.eqv (.list (as.map R.enc)) (.list (bs.map R.enc)) = decide (as = bs) := bool_dec (by simp only [PyData.eqv]; exact eqvAll_iff as bs)
theorem eqv_enc [DecidableEq α] (a b : α) : PyData.eqv (R.enc a) (R.enc b) = decide (a = b) := bool_dec (R.eqv a b)
theorem eqv_nil [DecidableEq α] (as : List α) : PyData.eqv (.list (as.map R.enc)) (.list []) = decide (as = []) := by
  cases as with
  | nil => rfl
  | cons a as => rfl
theorem eqv_nilT [DecidableEq α] (as : List α) : PyData.eqv (.tuple (as.map R.enc)) (.tuple []) = decide (as = []) := by
  cases as with
  | nil => rfl
  | cons a as => rfl
/-! ### items of tuples -/
theorem GIx.fact {φ : Prop} {i : V} (f : ∀ H, Hs T L H → φ) (h : φ → GIx T X x i L K) : GIx T X x i L K := fun H hs Q q => h (f H hs) H hs Q q
theorem gi_of {p : Addr} {xs : List V} {i : Int} {v : V} (f : ∀ H, Hs T L H → H p = some (.tup xs)) (ha : atI xs i = some v) (k : K v L) : GIx T X (.ref p) (.int i) L K :=
  GIx.of ix_tup fun H hs Q q => ⟨p, xs, i, v, rfl, rfl, SqT.of (f H hs), ha, q _ L H k hs⟩
theorem gi_pair {f : α → V} {g : β → V} {cf : α → Prop} {cg : β → Prop} (c1 : Scal R f cf) (c2 : Scal S g cg) {d : α × β} {i : Int} {u : V} (r : Rv T L v (rPair R S) d) (ha : atI [f d.1, g d.2] i = some u) (k : K u L) : GIx T X v (.int i) L K := by
  intro H hs Q q
  obtain ⟨a, x, y, rfl, e, h1, h2⟩ := r H hs
  obtain ⟨rfl, _⟩ := c1.to h1
  obtain ⟨rfl, _⟩ := c2.to h2
  exact GIx.of ix_tup (fun H' hs' Q' (q' : ∀ v L' H', K v L' → Hs T L' H' → Q' v H') => by
    obtain ⟨a', x', y', ea, e', h1', h2'⟩ := r H' hs'
    cases ea
    obtain ⟨rfl, _⟩ := c1.to h1'
    obtain ⟨rfl, _⟩ := c2.to h2'
    exact ⟨a, _, i, u, rfl, rfl, SqT.of e', ha, q' _ _ _ k hs'⟩) H hs Q q
theorem gi_tri {f : α → V} {g : β → V} {j : γ → V} {cf : α → Prop} {cg : β → Prop} {cj : γ → Prop} (c1 : Scal R f cf) (c2 : Scal S g cg) (c3 : Scal U j cj) {d : α × β × γ} {i : Int} {u : V} (r : Rv T L v (rTri R S U) d) (ha : atI [f d.1, g d.2.1, j d.2.2] i = some u) (k : K u L) : GIx T X v (.int i) L K := by
  intro H hs Q q
  obtain ⟨a, x, y, z, rfl, _⟩ := r H hs
  exact GIx.of ix_tup (fun H' hs' Q' (q' : ∀ v L' H', K v L' → Hs T L' H' → Q' v H') => by
    obtain ⟨a', x', y', z', ea, e', h1', h2', h3'⟩ := r H' hs'
    cases ea
    obtain ⟨rfl, _⟩ := c1.to h1'
    obtain ⟨rfl, _⟩ := c2.to h2'
    obtain ⟨rfl, _⟩ := c3.to h3'
    exact ⟨a, _, i, u, rfl, rfl, SqT.of e', ha, q' _ _ _ k hs'⟩) H hs Q q
theorem gi_quad {f : α → V} {g : β → V} {j : γ → V} {m : δ → V} {cf : α → Prop} {cg : β → Prop} {cj : γ → Prop} {cm : δ → Prop} (c1 : Scal R f cf) (c2 : Scal S g cg) (c3 : Scal U j cj) (c4 : Scal W m cm) {d : α × β × γ × δ} {i : Int} {u : V} (r : Rv T L v (rQuad R S U W) d)
    (ha : atI [f d.1, g d.2.1, j d.2.2.1, m d.2.2.2] i = some u) (k : K u L) : GIx T X v (.int i) L K := by
  intro H hs Q q
  obtain ⟨a, x, y, z, w, rfl, _⟩ := r H hs
  exact GIx.of ix_tup (fun H' hs' Q' (q' : ∀ v L' H', K v L' → Hs T L' H' → Q' v H') => by
    obtain ⟨a', x', y', z', w', ea, e', h1', h2', h3', h4'⟩ := r H' hs'
    cases ea
    obtain ⟨rfl, _⟩ := c1.to h1'
    obtain ⟨rfl, _⟩ := c2.to h2'
    obtain ⟨rfl, _⟩ := c3.to h3'
    obtain ⟨rfl, _⟩ := c4.to h4'
    exact ⟨a, _, i, u, rfl, rfl, SqT.of e', ha, q' _ _ _ k hs'⟩) H hs Q q
/-- an item of a list of data -/
theorem gi_lstR {l : Addr} {ds : List α} {n : Nat} {d : α} (s : Sel L (LstR R l ds) R') (e : ds[n]? = some d) (k : ∀ v, K v (Val R v d :: L)) : GIx T X (.ref l) (.int (n : Int)) L K := by
  intro H hs Q q
  obtain ⟨xs, x, h1, h2, h3⟩ : ∃ xs x, H l = some (.lst xs) ∧ xs[n]? = some x ∧ R.rel H x d := hs.factP (fun g ⟨xs, e1, r⟩ sub => by
    obtain ⟨x, e2, r2⟩ := r.get e
    exact ⟨xs, x, (sub l _ e1).1, e2, R.mono sub.tup r2⟩) s
  intro value slice pins s' σ v u I rx ry z
  exact ix_list value slice pins s' σ H (.ref l) (.int n) v u Q I rx ry ⟨l, xs, (n : Int), x, rfl, rfl, SqL.of h1, atI_nat h2, q _ _ _ (k x) (hs.addP Val.pers h3)⟩ z
theorem gi_lstS {f : α → V} {l : Addr} {ds : List α} {n : Nat} {d : α} (s : Sel L (pt l (.lst (ds.map f))) R') (e : ds[n]? = some d) (k : K (f d) L) : GIx T X (.ref l) (.int (n : Int)) L K :=
  gi_lst s (atI_nat (by rw [List.getElem?_map, e]; rfl)) k
/-! ### targets -/
theorem ggs_nil {K : St → List SA → Prop} (k : K σ L) : GGs T X [] [] σ L K := GGs.of pgs_nil fun H hs Q q => ⟨rfl, q _ _ _ k hs⟩
theorem ggs_cons {e : Expr} {es : List Expr} {vs : List V} {K : St → List SA → Prop} (hst : (assignEach (e :: es) X.env).map (·.2) = assign e X.env :: (assignEach es X.env).map (·.2))
    (h : GG T X e v σ L fun σ1 L1 => GGs T X es vs σ1 L1 K) : GGs T X (e :: es) (v :: vs) σ L K :=
  GGs.of (pgs_cons pgW pgsW hst) fun H hs Q q => ⟨v, vs, rfl, h H hs _ fun σ1 L1 H1 k1 h1 => k1 H1 h1 Q q⟩
theorem gg_tupF {es : List Expr} {k : Nat} {p : Pos} {xs : List V} {K : St → List SA → Prop} (hc : X.calm = true) (hn : (assignEach es X.env).length = xs.length) (hst : (assignEach es X.env).findIdx? (·.1) = none)
    (f : ∀ H, Hs T L H → H a = some (.tup xs)) (h : GGs T X es xs σ L K) : GG T X (.Tuple es k p) (.ref a) σ L K :=
  GG.of (pg_tup hc pgsW hn hst) fun H hs Q q => ⟨a, xs, rfl, SqT.of (f H hs), rfl, h H hs Q q⟩
theorem gg_tup {es : List Expr} {k : Nat} {p : Pos} {xs : List V} {K : St → List SA → Prop} (hc : X.calm = true) (s : Sel L (pt a (.tup xs)) R') (hn : (assignEach es X.env).length = xs.length) (hst : (assignEach es X.env).findIdx? (·.1) = none)
    (h : GGs T X es xs σ L K) : GG T X (.Tuple es k p) (.ref a) σ L K := gg_tupF hc hn hst (fun H hs => hs.at s) h
theorem gg_pair {f : α → V} {g : β → V} {cf : α → Prop} {cg : β → Prop} {es : List Expr} {k : Nat} {p : Pos} {K : St → List SA → Prop} (c1 : Scal R f cf) (c2 : Scal S g cg) {d : α × β} (r : Rv T L v (rPair R S) d) (hc : X.calm = true) (hn : (assignEach es X.env).length = 2) (hst : (assignEach es X.env).findIdx? (·.1) = none)
    (h : cf d.1 → cg d.2 → GGs T X es [f d.1, g d.2] σ L K) : GG T X (.Tuple es k p) v σ L K := by
  intro H hs Q q
  obtain ⟨a, x, y, rfl, e, h1, h2⟩ := r H hs
  obtain ⟨rfl, k1⟩ := c1.to h1
  obtain ⟨rfl, k2⟩ := c2.to h2
  refine gg_tupF hc (xs := [f d.1, g d.2]) hn hst (fun H' hs' => ?_) (h k1 k2) H hs Q q
  obtain ⟨a', x', y', ea, e', h1', h2'⟩ := r H' hs'
  cases ea
  obtain ⟨rfl, _⟩ := c1.to h1'
  obtain ⟨rfl, _⟩ := c2.to h2'
  exact e'
theorem gg_tri {f : α → V} {g : β → V} {j : γ → V} {cf : α → Prop} {cg : β → Prop} {cj : γ → Prop} {es : List Expr} {k : Nat} {p : Pos} {K : St → List SA → Prop} (c1 : Scal R f cf) (c2 : Scal S g cg) (c3 : Scal U j cj) {d : α × β × γ} (r : Rv T L v (rTri R S U) d) (hc : X.calm = true) (hn : (assignEach es X.env).length = 3) (hst : (assignEach es X.env).findIdx? (·.1) = none)
    (h : cf d.1 → cg d.2.1 → cj d.2.2 → GGs T X es [f d.1, g d.2.1, j d.2.2] σ L K) : GG T X (.Tuple es k p) v σ L K := by
  intro H hs Q q
  obtain ⟨a, x, y, z, rfl, e, h1, h2, h3⟩ := r H hs
  obtain ⟨rfl, k1⟩ := c1.to h1
  obtain ⟨rfl, k2⟩ := c2.to h2
  obtain ⟨rfl, k3⟩ := c3.to h3
  refine gg_tupF hc (xs := [f d.1, g d.2.1, j d.2.2]) hn hst (fun H' hs' => ?_) (h k1 k2 k3) H hs Q q
  obtain ⟨a', x', y', z', ea, e', h1', h2', h3'⟩ := r H' hs'
  cases ea
  obtain ⟨rfl, _⟩ := c1.to h1'
  obtain ⟨rfl, _⟩ := c2.to h2'
  obtain ⟨rfl, _⟩ := c3.to h3'
  exact e'
theorem gg_quad {f : α → V} {g : β → V} {j : γ → V} {m : δ → V} {cf : α → Prop} {cg : β → Prop} {cj : γ → Prop} {cm : δ → Prop} {es : List Expr} {k : Nat} {p : Pos} {K : St → List SA → Prop} (c1 : Scal R f cf) (c2 : Scal S g cg) (c3 : Scal U j cj) (c4 : Scal W m cm) {d : α × β × γ × δ} (r : Rv T L v (rQuad R S U W) d) (hc : X.calm = true) (hn : (assignEach es X.env).length = 4) (hst : (assignEach es X.env).findIdx? (·.1) = none)
    (h : cf d.1 → cg d.2.1 → cj d.2.2.1 → cm d.2.2.2 → GGs T X es [f d.1, g d.2.1, j d.2.2.1, m d.2.2.2] σ L K) : GG T X (.Tuple es k p) v σ L K := by
  intro H hs Q q
  obtain ⟨a, x, y, z, w, rfl, e, h1, h2, h3, h4⟩ := r H hs
  obtain ⟨rfl, k1⟩ := c1.to h1
  obtain ⟨rfl, k2⟩ := c2.to h2
  obtain ⟨rfl, k3⟩ := c3.to h3
  obtain ⟨rfl, k4⟩ := c4.to h4
  refine gg_tupF hc (xs := [f d.1, g d.2.1, j d.2.2.1, m d.2.2.2]) hn hst (fun H' hs' => ?_) (h k1 k2 k3 k4) H hs Q q
  obtain ⟨a', x', y', z', w', ea, e', h1', h2', h3', h4'⟩ := r H' hs'
  cases ea
  obtain ⟨rfl, _⟩ := c1.to h1'
  obtain ⟨rfl, _⟩ := c2.to h2'
  obtain ⟨rfl, _⟩ := c3.to h3'
  obtain ⟨rfl, _⟩ := c4.to h4'
  exact e'
end
/-! ### loops -/
section
variable {T : List (Addr × Str)} {X : Cx} {σ : St} {L R' : List SA} {D : EndsL} {tg iter : Expr} {body : List Stmt} {pos : Pos} {α : Type} {R : PRep α}
/-- weaken to an invariant -/
def Fits (T : List (Addr × Str)) (inv : St → List SA → Prop) : St → List SA → Prop := fun σ L => ∃ W, Ent T L W ∧ inv σ W
theorem Fits.mk {inv : St → List SA → Prop} {W : List SA} (h : inv σ W) (t : Ent T L W) : Fits T inv σ L := ⟨W, t, h⟩
theorem fits_hs {inv : St → List SA → Prop} {H : Hp} (f : Fits T inv σ L) (h : Hs T L H) : ∃ W, inv σ W ∧ Hs T W H := by
  obtain ⟨W, t, i⟩ := f
  exact ⟨W, i, t H h⟩
/-- the walk of any iterator -/
theorem wfor (J : It) (n : Nat) (inv : Nat → St → List SA → Prop) (hstop : ∀ σ L H, inv n σ L → Hs T L H → J.stop n H) (hgo : ∀ i σ L H, i < n → inv i σ L → Hs T L H → J.go i H)
    (hstep : ∀ i σ L H, i < n → inv i σ L → Hs T L H → ∀ x H', J.yld i H x H' → ∃ L', Hs T L' H' ∧ GG T X tg x σ L' fun σ2 L2 => GSs T X body { D with nx := Fits T (inv (i + 1)), ct := Fits T (inv (i + 1)), bk := D.nx } σ2 L2)
    (hend : ∀ σ L, inv n σ L → D.nx σ L) {H : Hp} (hs : Hs T L H) (h0 : inv 0 σ L) {D0 : Ends} (l : D.Le T D0) :
    ∃ W : Nat → Nat → St → Hp → Prop, (∃ m, W 0 m σ H) ∧ ∀ i m σ H, W i m σ H →
      (J.stop i H ∧ D0.nx σ H) ∨ (J.go i H ∧ ∃ N : St → Hp → Prop, (∀ σ' H', N σ' H' → ∃ m', m' < m ∧ W (i + 1) m' σ' H') ∧ ∀ x H', J.yld i H x H' → gW X tg x σ H' fun σ2 H2 => ssW X body { D0 with nx := N, ct := N, bk := D0.nx } σ2 H2) := by
  refine ⟨fun i m σ H => m = n - i ∧ i ≤ n ∧ ∃ L, inv i σ L ∧ Hs T L H, ⟨n, by simp, Nat.zero_le _, L, h0, hs⟩, ?_⟩
  rintro i m σ H ⟨rfl, hi, L, iv, hs⟩
  by_cases hlt : i < n
  · refine .inr ⟨hgo i σ L H hlt iv hs, fun σ' H' => ∃ L', inv (i + 1) σ' L' ∧ Hs T L' H', fun σ' H' ⟨L', q, h'⟩ => ⟨n - (i + 1), by omega, rfl, hlt, L', q, h'⟩, fun x H' y => ?_⟩
    obtain ⟨L', h', g⟩ := hstep i σ L H hlt iv hs x H' y
    exact g H' h' _ fun σ2 L2 H2 k2 h2 => k2 H2 h2 _ ⟨fun σ3 L3 H3 k3 h3 => fits_hs k3 h3, l.rt, l.nx, fun σ3 L3 H3 k3 h3 => fits_hs k3 h3⟩
  · have e : i = n := by omega
    subst e
    exact .inl ⟨hstop σ L H iv hs, l.nx _ _ _ (hend σ L iv) hs⟩
/-- over a list, plain -/
theorem gs_forL (inv : Nat → St → List SA → Prop) (l : Addr) (xs : List V) (hp : PassesOwn (model X.prog X.w) X.A X.env X.xe) (hc : X.calm = true) (hf : ∀ x, foldedSetIterable iter X.env x = pure x)
    (h0 : GE T X iter σ L fun v L1 => v = .ref l ∧ inv 0 σ L1) (hl : ∀ i σ' L', inv i σ' L' → ∃ R, Sel L' (pt l (.lst xs)) R)
    (hs : ∀ i x σ' L', xs[i]? = some x → inv i σ' L' → GG T X tg x σ' L' fun σ2 L2 => GSs T X body { D with nx := Fits T (inv (i + 1)), ct := Fits T (inv (i + 1)), bk := D.nx } σ2 L2)
    (hd : ∀ σ' L', inv xs.length σ' L' → D.nx σ' L') : GS T X (.For tg iter body [] pos) D σ L := by
  refine GS.of (ps_for hp hc (pi_list peW) pgW pssW hf) fun H hh D0 le => h0 H hh _ fun v L1 H1 ⟨ev, iv⟩ h1 => ?_
  obtain ⟨R1, s1⟩ := hl _ _ _ iv
  refine ⟨l, ev, ⟨xs, SqL.of (h1.at s1)⟩, wfor (Itl X.K l) xs.length inv (fun σ L H i h => ?_) (fun i σ L H hi iv h => ?_) (fun i σ L H hi iv h x H' y => ?_) hd h1 iv le⟩
  · obtain ⟨R, s⟩ := hl _ _ _ i
    exact ⟨xs, SqL.of (h.at s), Nat.le_refl _⟩
  · obtain ⟨R, s⟩ := hl _ _ _ iv
    exact ⟨xs, xs[i], SqL.of (h.at s), by simp [hi]⟩
  · obtain ⟨R, s⟩ := hl _ _ _ iv
    obtain ⟨e, y⟩ := y
    subst e
    exact ⟨L, h, hs i x σ L (y xs (SqL.of (h.at s))) iv⟩
/-- over a list of data -/
theorem gs_forR (inv : Nat → St → List SA → Prop) (l : Addr) (R : PRep α) (ds : List α) (hp : PassesOwn (model X.prog X.w) X.A X.env X.xe) (hc : X.calm = true) (hf : ∀ x, foldedSetIterable iter X.env x = pure x)
    (h0 : GE T X iter σ L fun v L1 => v = .ref l ∧ inv 0 σ L1) (hl : ∀ i σ' L', inv i σ' L' → ∃ R0, Sel L' (LstR R l ds) R0)
    (hs : ∀ i d x σ' L', ds[i]? = some d → inv i σ' L' → GG T X tg x σ' (Val R x d :: L') fun σ2 L2 => GSs T X body { D with nx := Fits T (inv (i + 1)), ct := Fits T (inv (i + 1)), bk := D.nx } σ2 L2)
    (hd : ∀ σ' L', inv ds.length σ' L' → D.nx σ' L') : GS T X (.For tg iter body [] pos) D σ L := by
  have get : ∀ {i σ L H}, inv i σ L → Hs T L H → ∃ xs, H l = some (.lst xs) ∧ A2r R H xs ds := fun {i σ L H} iv h => by
    obtain ⟨R0, s⟩ := hl _ _ _ iv
    exact h.factP (fun g ⟨xs, e, r⟩ sub => ⟨xs, (sub l _ e).1, r.mono sub.tup⟩) s
  refine GS.of (ps_for hp hc (pi_list peW) pgW pssW hf) fun H hh D0 le => h0 H hh _ fun v L1 H1 ⟨ev, iv⟩ h1 => ?_
  obtain ⟨xs1, e1, _⟩ := get iv h1
  refine ⟨l, ev, ⟨xs1, SqL.of e1⟩, wfor (Itl X.K l) ds.length inv (fun σ L H i h => ?_) (fun i σ L H hi iv h => ?_) (fun i σ L H hi iv h x H' y => ?_) hd h1 iv le⟩
  · obtain ⟨xs, e, r⟩ := get i h
    exact ⟨xs, SqL.of e, Nat.le_of_eq r.length⟩
  · obtain ⟨xs, e, r⟩ := get iv h
    have : i < xs.length := by rw [r.length]; exact hi
    exact ⟨xs, xs[i], SqL.of e, by simp [this]⟩
  · obtain ⟨xs, e, r⟩ := get iv h
    obtain ⟨e2, y⟩ := y
    subst e2
    obtain ⟨d, hd', rr⟩ := r.get' (y xs (SqL.of e))
    exact ⟨_, h.addP Val.pers rr, hs i d x σ L hd' iv⟩
/-- over a tuple of data -/
theorem gs_forT (inv : Nat → St → List SA → Prop) (v0 : V) (R : PRep α) (ds : List α) (hp : PassesOwn (model X.prog X.w) X.A X.env X.xe) (hc : X.calm = true) (hf : ∀ x, foldedSetIterable iter X.env x = pure x)
    (h0 : GE T X iter σ L fun v L1 => v = v0 ∧ inv 0 σ L1) (hl : ∀ i σ' L', inv i σ' L' → Rv T L' v0 (rTl R) ds)
    (hs : ∀ i d x σ' L', ds[i]? = some d → inv i σ' L' → GG T X tg x σ' (Val R x d :: L') fun σ2 L2 => GSs T X body { D with nx := Fits T (inv (i + 1)), ct := Fits T (inv (i + 1)), bk := D.nx } σ2 L2)
    (hd : ∀ σ' L', inv ds.length σ' L' → D.nx σ' L') : GS T X (.For tg iter body [] pos) D σ L := by
  refine GS.of (ps_for hp hc (pi_tup peW) pgW pssW hf) fun H hh D0 le => h0 H hh _ fun v L1 H1 ⟨ev, iv⟩ h1 => ?_
  obtain ⟨l, xs1, ev0, e1, _⟩ := hl _ _ _ iv H1 h1
  subst ev
  subst ev0
  have get : ∀ {i σ L H}, inv i σ L → Hs T L H → ∃ xs, H l = some (.tup xs) ∧ A2r R H xs ds := fun {i σ L H} iv h => by
    obtain ⟨l', xs, ev, e, r⟩ := hl _ _ _ iv H h
    cases ev
    exact ⟨xs, e, r⟩
  refine ⟨l, rfl, ⟨xs1, SqT.of e1⟩, wfor (Itt X.K l) ds.length inv (fun σ L H i h => ?_) (fun i σ L H hi iv h => ?_) (fun i σ L H hi iv h x H' y => ?_) hd h1 iv le⟩
  · obtain ⟨xs, e, r⟩ := get i h
    exact ⟨xs, SqT.of e, Nat.le_of_eq r.length⟩
  · obtain ⟨xs, e, r⟩ := get iv h
    have : i < xs.length := by rw [r.length]; exact hi
    exact ⟨xs, xs[i], SqT.of e, by simp [this]⟩
  · obtain ⟨xs, e, r⟩ := get iv h
    obtain ⟨e2, y⟩ := y
    subst e2
    obtain ⟨d, hd', rr⟩ := r.get' (y xs (SqT.of e))
    exact ⟨_, h.addP Val.pers rr, hs i d x σ L hd' iv⟩
/-- over range(n) -/
theorem gs_forN {a : Expr} {p : Pos} (inv : Nat → St → List SA → Prop) (n : Int) (hp : PassesOwn (model X.prog X.w) X.A X.env X.xe) (hc : X.calm = true) (hg : Gl X "range") (hm : X.mg "range" = none)
    (hst : starEach [a] X.env = [(false, eval a X.env)]) (hf : ∀ x, foldedSetIterable (.Call (.Name "range" p) [a] [] pos) X.env x = pure x)
    (h0 : GA T X [a] σ L fun vs L1 => vs = [.int n] ∧ -(2 ^ 62) ≤ n ∧ n < 2 ^ 62 ∧ inv 0 σ L1)
    (hs : ∀ (i : Nat) σ' L', (i : Int) < n → inv i σ' L' → GG T X tg (.int (i : Int)) σ' L' fun σ2 L2 => GSs T X body { D with nx := Fits T (inv (i + 1)), ct := Fits T (inv (i + 1)), bk := D.nx } σ2 L2)
    (hd : ∀ σ' L', inv n.toNat σ' L' → D.nx σ' L') {pos2 : Pos} : GS T X (.For tg (.Call (.Name "range" p) [a] [] pos) body [] pos2) D σ L := by
  refine GS.of (ps_for hp hc (pi_range1 hg hm paW hst) pgW pssW hf) fun H hh D0 le => h0 H hh _ fun vs L1 H1 ⟨ev, b1, b2, iv⟩ h1 => ?_
  refine ⟨n, ev, b1, b2, wfor (Itr 0 n.toNat) n.toNat inv (fun σ L H i h => Nat.le_refl _) (fun i σ L H hi iv h => hi) (fun i σ L H hi iv h x H' y => ?_) hd h1 iv le⟩
  obtain ⟨e, y⟩ := y
  subst e
  subst y
  refine ⟨L, h, ?_⟩
  rw [Int.zero_add]
  exact hs i σ L (by omega) iv
/-- over range(a, b) -/
theorem gs_forN2 {a b : Expr} {p : Pos} (inv : Nat → St → List SA → Prop) (lo n : Int) (hp : PassesOwn (model X.prog X.w) X.A X.env X.xe) (hc : X.calm = true) (hg : Gl X "range") (hm : X.mg "range" = none)
    (hst : starEach [a, b] X.env = [(false, eval a X.env), (false, eval b X.env)]) (hst2 : starEach [b] X.env = [(false, eval b X.env)]) (hf : ∀ x, foldedSetIterable (.Call (.Name "range" p) [a, b] [] pos) X.env x = pure x)
    (h0 : GA T X [a, b] σ L fun vs L1 => vs = [.int lo, .int n] ∧ (-(2 ^ 62) ≤ lo ∧ lo < 2 ^ 62 ∧ -(2 ^ 62) ≤ n ∧ n < 2 ^ 62) ∧ inv 0 σ L1)
    (hs : ∀ (i : Nat) σ' L', lo + (i : Int) < n → inv i σ' L' → GG T X tg (.int (lo + (i : Int))) σ' L' fun σ2 L2 => GSs T X body { D with nx := Fits T (inv (i + 1)), ct := Fits T (inv (i + 1)), bk := D.nx } σ2 L2)
    (hd : ∀ σ' L', inv (n - lo).toNat σ' L' → D.nx σ' L') {pos2 : Pos} : GS T X (.For tg (.Call (.Name "range" p) [a, b] [] pos) body [] pos2) D σ L := by
  refine GS.of (ps_for hp hc (pi_range2 hg hm paW hst hst2) pgW pssW hf) fun H hh D0 le => h0 H hh _ fun vs L1 H1 ⟨ev, b1, iv⟩ h1 => ?_
  refine ⟨lo, n, ev, b1, wfor (Itr lo (n - lo).toNat) (n - lo).toNat inv (fun σ L H i h => Nat.le_refl _) (fun i σ L H hi iv h => hi) (fun i σ L H hi iv h x H' y => ?_) hd h1 iv le⟩
  obtain ⟨e, y⟩ := y
  subst e
  subst y
  exact ⟨L, h, hs i σ L (by omega) iv⟩
/-- while: an invariant and a measure -/
theorem gs_while {c : Expr} (inv : Nat → St → List SA → Prop) (hp : PassesOwn (model X.prog X.w) X.A X.env X.xe) (m0 : Nat) (h0 : inv m0 σ L)
    (hs : ∀ m σ' L', inv m σ' L' → GT T X c σ' L' fun b L1 => if b = true then GSs T X body { D with nx := fun σ2 L2 => ∃ m', m' < m ∧ Fits T (inv m') σ2 L2, ct := fun σ2 L2 => ∃ m', m' < m ∧ Fits T (inv m') σ2 L2, bk := D.nx } σ' L1 else D.nx σ' L1) : GS T X (.While c body [] pos) D σ L := by
  refine GS.of (ps_while hp ptW pssW) fun H hh D0 le => ⟨fun m σ H => ∃ L, inv m σ L ∧ Hs T L H, ⟨m0, L, h0, hh⟩, fun m σ1 H1 ⟨L1, iv, h1⟩ => ?_⟩
  refine hs m σ1 L1 iv H1 h1 _ fun b L2 H2 k2 h2 => ?_
  cases b with
  | true =>
    rw [if_pos rfl] at k2 ⊢
    refine ⟨fun σ' H' => ∃ m', m' < m ∧ ∃ L, inv m' σ' L ∧ Hs T L H', fun σ' H' ⟨m', hm, q⟩ => ⟨m', hm, q⟩, k2 H2 h2 _ ⟨fun σ3 L3 H3 ⟨m', hm, k3⟩ h3 => ⟨m', hm, fits_hs k3 h3⟩, le.rt, le.nx, fun σ3 L3 H3 ⟨m', hm, k3⟩ h3 => ⟨m', hm, fits_hs k3 h3⟩⟩⟩
  | false =>
    rw [if_neg Bool.false_ne_true] at k2 ⊢
    exact le.nx _ _ _ k2 h2
end
end SW
set_option Elab.async false
set_option linter.all false
set_option maxRecDepth 100000
set_option maxHeartbeats 2000000
/-! Sw6: comprehensions; methods of lists; slices; stores by an operator; raise, try. -/
namespace SW
open PySem PySem.Spec L2
open PyProof.Rows hiding St
/-! ### lists of data packed -/
section
variable {T : List (Addr × Str)} {L L' R' : List SA} {α : Type} {R : PRep α} {H : Hp} {p : Addr}
theorem Hs.packR {ys : List V} {ds : List α} (h : Hs T (pt p (.lst ys) :: L) H) (a : A2r R H ys ds) : Hs T (LstR R p ds :: L) H := by
  have h1 : Pcs ((fun g => A2r R g ys ds) :: pt p (.lst ys) :: L) H := h.pcs.addP (fun _ _ t r => r.mono t) a
  have h2 : Pcs ([(fun g => A2r R g ys ds), pt p (.lst ys)] ++ L) H := h1
  refine ⟨h.tabs, h2.fold.imp fun g k => ?_⟩
  have e : g p = some (.lst ys) := (k.perm (List.Perm.swap _ _ _)).get
  refine ⟨ys, e, ?_⟩
  obtain ⟨ps, k1, _, k3⟩ := k
  cases k1 with
  | cons r t => exact r.mono (k3 _ List.mem_cons_self).tup
theorem Hs.unpackR {ds : List α} (h : Hs T (LstR R p ds :: L) H) : ∃ xs, A2r R H xs ds ∧ Hs T (pt p (.lst xs) :: L) H := by
  obtain ⟨ps, h1, h2, h3⟩ := h.pcs
  cases h1 with
  | cons r t =>
    obtain ⟨xs, e, a⟩ := r
    exact ⟨xs, a.mono (h3 _ List.mem_cons_self).tup, h.tabs, _, .cons e t, h2, h3⟩
theorem Hs.rplR {ys : List V} {ds ds' : List α} (r : Rpl L (LstR R p ds) (LstR R p ds') L') (h : Hs T L H) (a : A2r R H ys ds') : Hs T L' (upd H p (.lst ys)) := by
  obtain ⟨Q, q1, q2⟩ := r.perm
  obtain ⟨xs, _, h1⟩ := (h.perm q1).unpackR
  have h2 : Hs T (pt p (.lst ys) :: Q) (upd H p (.lst ys)) := h1.wr (by exact True.intro) fun _ => nofun
  refine (h2.packR (a.mono fun b zs e => ?_)).perm q2.symm
  rw [upd_ne (ne_of e h1.get (by intro z; cases z))]
  exact e
theorem Hs.newR {ys : List V} {ds : List α} (hp : H p = none) (h : Hs T L H) (a : A2r R H ys ds) : Hs T (LstR R p ds :: L) (upd H p (.lst ys)) := by
  have h2 : Hs T (pt p (.lst ys) :: L) (upd H p (.lst ys)) := h.new hp fun _ => nofun
  refine h2.packR (a.mono fun b zs e => ?_)
  rw [upd_ne (ne_of_none e hp)]
  exact e
theorem Hs.atR {ds : List α} (s : Sel L (LstR R p ds) R') (h : Hs T L H) : ∃ xs, H p = some (.lst xs) ∧ A2r R H xs ds := by
  obtain ⟨xs, a, h1⟩ := (h.sel s).unpackR
  exact ⟨xs, h1.get, a⟩
end
/-! ### the slots wiped -/
inductive SetN : St → Nat → St → Prop
  | here {s : Option V} {σ : St} : SetN (s :: σ) 0 (none :: σ)
  | there {s : Option V} {σ σ' : St} {n : Nat} : SetN σ n σ' → SetN (s :: σ) (n + 1) (s :: σ')
theorem SetN.eq {σ σ' : St} {n : Nat} (h : SetN σ n σ') : σ' = σ.set n none := by
  induction h with
  | here => rfl
  | there _ ih => rw [ih]; rfl
inductive Wp : St → List Nat → St → Prop
  | nil {σ : St} : Wp σ [] σ
  | cons {σ σ1 σ2 : St} {v : Nat} {vs : List Nat} : Wp σ vs σ1 → SetN σ1 v σ2 → Wp σ (v :: vs) σ2
theorem Wp.eq {σ σ' : St} {vs : List Nat} (h : Wp σ vs σ') : σ' = wipe σ vs := by
  induction h with
  | nil => rfl
  | cons _ s ih => rw [s.eq, ih]; rfl
/-! ### comprehensions -/
def tsW (X : Cx) (ifs : List Expr) : TT := fun σ H Q => ∀ pins s, Inv X pins σ H s → wpAny (model X.prog X.w) X.A (forIn ifs true fun c r => if r = true then do let ok ← isTrue c X.env (eval c X.env); pure (ForInStep.yield ok) else pure (ForInStep.yield r)) (TP X pins σ Q) X.xe s
theorem ptsW {X : Cx} {ifs : List Expr} : PTs X ifs (tsW X ifs) := ⟨fun pins s σ H Q I h => h pins s I⟩
def GTs (T : List (Addr × Str)) (X : Cx) (ifs : List Expr) (σ : St) (L : List SA) (K : Bool → List SA → Prop) : Prop := WT T (tsW X ifs) σ L K
section
variable {T : List (Addr × Str)} {X : Cx} {σ : St} {L : List SA}
theorem gts_nil {K : Bool → List SA → Prop} (k : K true L) : GTs T X [] σ L K := fun H hs Q q pins s I => pts_nil.run pins s σ H Q I (q _ L H k hs)
theorem gts_one {c : Expr} {K : Bool → List SA → Prop} (h : GT T X c σ L K) : GTs T X [c] σ L K := fun H hs Q q pins s I => (pts_one ptW).run pins s σ H Q I (h H hs Q q)
/-- the list at D grows by y, then N -/
def LcEnd (T : List (Addr × Str)) (D : Addr) (y : V) (L : List SA) (N : List SA → Prop) : Prop := ∀ H, Hs T L H → ∃ acc, H D = some (.lst acc) ∧ acc.length < sizeLine ∧ ∃ L', Hs T L' (upd H D (.lst (acc ++ [y]))) ∧ N L'
abbrev blkX (X : Cx) (s : Shared) (H : Hp) (scope : Scope) (C : Addr) (cl : List (Str × Addr)) (fp : List Addr) : Cx := X.blk s H scope (compEnvC scope cl C X.env) fp
/-- one turn of a comprehension, from the item on; the block's own context may be any at each place -/
def LcTurn (T : List (Addr × Str)) (X : Cx) (scope : Scope) (tg elt : Expr) (ifs : List Expr) (vs : List Nat) (σ σ0 : St) (D : Addr) (x : V) (L : List SA) (N : List SA → Prop) : Prop :=
  ∀ s H C cl fp, GG T (blkX X s H scope C cl fp) tg x σ0 L fun σ2 L2 => wipe σ2 vs = wipe σ vs ∧ ∀ s H C cl fp, GTs T (blkX X s H scope C cl fp) ifs σ2 L2 fun b L3 => if b = true then ∀ s H C cl fp, GE T (blkX X s H scope C cl fp) elt σ2 L3 fun y L4 => LcEnd T D y L4 N else N L3
def gB (X : Cx) (scope : Scope) (tg : Expr) : TG := fun v σ H Q => ∀ s H0 C cl fp, gW (blkX X s H0 scope C cl fp) tg v σ H Q
def tB_ (X : Cx) (scope : Scope) (ifs : List Expr) : TT := fun σ H Q => ∀ s H0 C cl fp, tsW (blkX X s H0 scope C cl fp) ifs σ H Q
def eB (X : Cx) (scope : Scope) (elt : Expr) : TE := fun σ H Q => ∀ s H0 C cl fp, eW (blkX X s H0 scope C cl fp) elt σ H Q
end
def FitL (T : List (Addr × Str)) (inv : List SA → Prop) : List SA → Prop := fun L => ∃ W, Ent T L W ∧ inv W
theorem FitL.mk {T : List (Addr × Str)} {inv : List SA → Prop} {L W : List SA} (h : inv W) (t : Ent T L W) : FitL T inv L := ⟨W, t, h⟩
theorem fitL_hs {T : List (Addr × Str)} {L : List SA} {inv : List SA → Prop} {H : Hp} (f : FitL T inv L) (h : Hs T L H) : ∃ W, inv W ∧ Hs T W H := by
  obtain ⟨W, t, i⟩ := f
  exact ⟨W, i, t H h⟩
section
variable {T : List (Addr × Str)} {X : Cx} {σ σ0 : St} {L R' : List SA} {K : GK} {elt tg iter : Expr} {ifs : List Expr} {scope : Scope} {own : List (Str × Nat)} {vs : List Nat} {pos : Pos} {α : Type}
theorem turn_ok {D : Addr} {x : V} {inv : List SA → Prop} {H : Hp} (hw : σ0 = wipe σ vs) (g : LcTurn T X scope tg elt ifs vs σ σ0 D x L (FitL T inv)) (h : Hs T L H) :
    gB X scope tg x (wipe σ vs) H fun σ2 H2 => wipe σ2 vs = wipe σ vs ∧ tB_ X scope ifs σ2 H2 fun b H3 =>
      if b = true then eB X scope elt σ2 H3 fun y H4 => ∃ acc, H4 D = some (.lst acc) ∧ acc.length < sizeLine ∧ ∃ L', inv L' ∧ Hs T L' (upd H4 D (.lst (acc ++ [y]))) else ∃ L', inv L' ∧ Hs T L' H3 := by
  subst hw
  intro s H0 C cl fp
  refine g s H0 C cl fp H h _ fun σ2 L2 H2 ⟨e, k2⟩ h2 => ⟨e, fun s H0 C cl fp => k2 s H0 C cl fp H2 h2 _ fun b L3 H3 k3 h3 => ?_⟩
  cases b with
  | true =>
    rw [if_pos rfl] at k3 ⊢
    intro s H0 C cl fp
    refine k3 s H0 C cl fp H3 h3 _ fun y L4 H4 k4 h4 => ?_
    obtain ⟨acc, e1, e2, L', h', q⟩ := k4 H4 h4
    obtain ⟨W, i, h''⟩ := fitL_hs q h'
    exact ⟨acc, e1, e2, W, i, h''⟩
  | false =>
    rw [if_neg Bool.false_ne_true] at k3 ⊢
    obtain ⟨W, i, h''⟩ := fitL_hs k3 h3
    exact ⟨W, i, h''⟩
theorem wlc (J : It) (n : Nat) (D : Addr) (inv : Nat → List SA → Prop) (hw : σ0 = wipe σ vs) (hstop : ∀ L H, inv n L → Hs T L H → J.stop n H) (hgo : ∀ i L H, i < n → inv i L → Hs T L H → J.go i H)
    (hstep : ∀ i L H, i < n → inv i L → Hs T L H → ∀ x H', J.yld i H x H' → ∃ L', Hs T L' H' ∧ LcTurn T X scope tg elt ifs vs σ σ0 D x L' (FitL T (inv (i + 1))))
    {H1 : Hp} {Qd : Hp → Prop} (h0 : ∃ L, inv 0 L ∧ Hs T L (upd H1 D (.lst []))) (hend : ∀ L H, inv n L → Hs T L H → Qd H) :
    ∃ W : Nat → Nat → Hp → Prop, (∃ m, W 0 m (upd H1 D (.lst []))) ∧ ∀ i m H, W i m H →
      (J.stop i H ∧ Qd H) ∨ (J.go i H ∧ ∃ Nx : Hp → Prop, (∀ H', Nx H' → ∃ m', m' < m ∧ W (i + 1) m' H') ∧ ∀ x H', J.yld i H x H' → gB X scope tg x (wipe σ vs) H' fun σ2 H2 => wipe σ2 vs = wipe σ vs ∧ tB_ X scope ifs σ2 H2 fun b H3 =>
        if b = true then eB X scope elt σ2 H3 fun y H4 => ∃ acc, H4 D = some (.lst acc) ∧ acc.length < sizeLine ∧ Nx (upd H4 D (.lst (acc ++ [y]))) else Nx H3) := by
  refine ⟨fun i m H => m = n - i ∧ i ≤ n ∧ ∃ L, inv i L ∧ Hs T L H, ⟨n, by simp, Nat.zero_le _, h0⟩, ?_⟩
  rintro i m H ⟨rfl, hi, L, iv, hs⟩
  by_cases hlt : i < n
  · refine .inr ⟨hgo i L H hlt iv hs, fun H' => ∃ L', inv (i + 1) L' ∧ Hs T L' H', fun H' q => ⟨n - (i + 1), by omega, rfl, hlt, q⟩, fun x H' y => ?_⟩
    obtain ⟨L', h', g⟩ := hstep i L H hlt iv hs x H' y
    exact turn_ok hw g h'
  · have e : i = n := by omega
    subst e
    exact .inl ⟨hstop L H iv hs, hend L H iv hs⟩
theorem pe_lcW {wi : TI} (hc : X.calm = true) (hN : X.N.Nodup) (hi : PI X tg iter wi) (ok : BlkOk X.N X.env.scope scope own) (hf : ∀ x, foldedSetIterable iter X.env x = pure x) :
    PE X (.ListComp elt [⟨tg, iter, ifs, 0⟩] scope pos) (tLc wi (gB X scope tg) (tB_ X scope ifs) (eB X scope elt) (own.map (·.2))) :=
  pe_lc hc hN hi ok (fun s H C cl fp => ⟨fun pins s' σ H' v u Q I r h => h s H C cl fp pins s' u I r⟩) (fun s H C cl fp => ⟨fun pins s' σ H' Q I h => h s H C cl fp pins s' I⟩) (fun s H C cl fp => ⟨fun pins s' σ H' Q I h => h s H C cl fp pins s' I⟩) hf
/-! ends of turns -/
theorem lcend_pt {D : Addr} {y : V} {acc : List V} {L' : List SA} {N : List SA → Prop} (r : Rpl L (pt D (.lst acc)) (pt D (.lst (acc ++ [y]))) L') (hz : acc.length < sizeLine) (n : N L') : LcEnd T D y L N := fun H h => by
  obtain ⟨R, s⟩ := r.sel
  exact ⟨acc, h.at s, hz, L', h.rpl r (by exact True.intro) fun _ => nofun, n⟩
theorem lcend_R {D : Addr} {y : V} {R : PRep α} {ds : List α} {d : α} {L' : List SA} {N : List SA → Prop} (r : Rpl L (LstR R D ds) (LstR R D (ds ++ [d])) L') (hz : ds.length < sizeLine) (hv : Rv T L y R d) (n : N L') : LcEnd T D y L N := fun H h => by
  obtain ⟨Q, s⟩ := r.sel
  obtain ⟨xs, e, a⟩ := h.atR s
  exact ⟨xs, e, by rw [a.length]; exact hz, L', h.rplR r (a.snoc (hv H h)), n⟩
/-- an empty list as a list of data -/
theorem lst0 (R : PRep α) {p : Addr} : ∀ h, pt p (.lst []) h → LstR R p [] h := fun h e => ⟨[], e, .nil⟩
/-! comprehensions whose rows stay: what they gather is told by g -/
theorem lct_imp {D : Addr} {x : V} {Lx : List SA} {N N' : List SA → Prop} (h : LcTurn T X scope tg elt ifs vs σ σ0 D x Lx N) (f : ∀ L', N L' → N' L') : LcTurn T X scope tg elt ifs vs σ σ0 D x Lx N' := by
  intro s H C cl fp H1 h1 Q q
  refine h s H C cl fp H1 h1 Q fun σ2 L2 H2 ⟨e, k⟩ h2 => q σ2 L2 H2 ⟨e, fun s H C cl fp H3 h3 Q3 q3 => ?_⟩ h2
  refine k s H C cl fp H3 h3 Q3 fun b L4 H4 k4 h4 => q3 b L4 H4 ?_ h4
  cases b with
  | true =>
    rw [if_pos rfl] at k4 ⊢
    intro s H C cl fp H5 h5 Q5 q5
    refine k4 s H C cl fp H5 h5 Q5 fun y L6 H6 k6 h6 => q5 y L6 H6 (fun H7 h7 => ?_) h6
    obtain ⟨a, e1, e2, L', h', n⟩ := k6 H7 h7
    exact ⟨a, e1, e2, L', h', f _ n⟩
  | false =>
    rw [if_neg Bool.false_ne_true] at k4 ⊢
    exact f _ k4
/-- what a turn leaves -/
def LcN {γ : Type} (T : List (Addr × Str)) (acc : Addr → γ → SA) (φ : Nat → γ → Prop) (L1 : List SA) (D : Addr) (i : Nat) : List SA → Prop := fun L' => ∃ g', φ (i + 1) g' ∧ Ent T L' (acc D g' :: L1)
theorem lcn_fit {γ : Type} {acc : Addr → γ → SA} {φ : Nat → γ → Prop} {L1 : List SA} {D : Addr} {i : Nat} {L' : List SA} (h : LcN T acc φ L1 D i L') : FitL T (fun L' => ∃ g', φ (i + 1) g' ∧ L' = acc D g' :: L1) L' := by
  obtain ⟨g', hg, e⟩ := h
  exact ⟨_, e, g', hg, rfl⟩
theorem start_acc {γ : Type} {acc : Addr → γ → SA} {g0 : γ} {D : Addr} {L1 : List SA} {H1 : Hp} (h0 : ∀ D h, pt D (.lst []) h → acc D g0 h) (h1 : Hs T L1 H1) (hD : H1 D = none) : Hs T (acc D g0 :: L1) (upd H1 D (.lst [])) := by
  have h2 : Hs T (pt D (.lst []) :: L1) (upd H1 D (.lst [])) := h1.new hD fun _ => nofun
  exact h2.imp fun h => h0 D h
/-- how a comprehension goes on behind its iterable: n turns, item i is x, known by Lx -/
def LcGo (T : List (Addr × Str)) (X : Cx) (scope : Scope) (tg elt : Expr) (ifs : List Expr) (vs : List Nat) (σ σ0 : St) (L1 : List SA) (n : Nat) (item : Nat → V → List SA → Prop) (K : GK) : Prop :=
  ∃ (γ : Type) (acc : Addr → γ → SA) (φ : Nat → γ → Prop) (g0 : γ), φ 0 g0 ∧ (∀ D h, pt D (.lst []) h → acc D g0 h) ∧
    (∀ D i x Lx g, i < n → item i x Lx → φ i g → LcTurn T X scope tg elt ifs vs σ σ0 D x (Lx ++ acc D g :: L1) (LcN T acc φ L1 D i)) ∧ ∀ D g, φ n g → K (.ref D) (acc D g :: L1)
theorem lcgo {γ : Type} {L1 : List SA} {n : Nat} {item : Nat → V → List SA → Prop} (acc : Addr → γ → SA) (φ : Nat → γ → Prop) (g0 : γ) (p0 : φ 0 g0) (a0 : ∀ D h, pt D (.lst []) h → acc D g0 h)
    (hs : ∀ D i x Lx g, i < n → item i x Lx → φ i g → LcTurn T X scope tg elt ifs vs σ σ0 D x (Lx ++ acc D g :: L1) (LcN T acc φ L1 D i)) (hd : ∀ D g, φ n g → K (.ref D) (acc D g :: L1)) : LcGo T X scope tg elt ifs vs σ σ0 L1 n item K := ⟨γ, acc, φ, g0, p0, a0, hs, hd⟩
theorem ps_setLcW {N : List Str} {ks : List (Str × NameKind)} {wi : TI} {i : Nat} {y : Str} {py spos : Pos} (n : Nm X N ks) (hc : X.calm = true) (hy : X.N[i]? = some y) (hyl : X.env.scope.names.lookup y = some .local)
    (hsw : swapsWith (.ListComp elt [⟨tg, iter, ifs, 0⟩] scope pos) (some (.Name y py)) spos.line X.env = pure true) (hi : PI X tg iter wi) (ok : BlkOk X.N X.env.scope scope own) (hf : ∀ x, foldedSetIterable iter X.env x = pure x) :
    PS X (.Assign [.Name y py] (.ListComp elt [⟨tg, iter, ifs, 0⟩] scope pos) spos) (tAsg (tLc wi (gB X scope tg) (tB_ X scope ifs) (eB X scope elt) (own.map (·.2))) (gName i)) :=
  ps_setLc hc (by rw [n.nn]; exact n.nd) hy hyl hsw hi ok (fun s H C cl fp => ⟨fun pins s' σ H' v u Q I r h => h s H C cl fp pins s' u I r⟩) (fun s H C cl fp => ⟨fun pins s' σ H' Q I h => h s H C cl fp pins s' I⟩) (fun s H C cl fp => ⟨fun pins s' σ H' Q I h => h s H C cl fp pins s' I⟩) hf
/-- over a list, plain -/
theorem lcL_core {own : List (Str × Nat)} (hw : Wp σ (own.map (·.2)) σ0)
    (h0 : GE T X iter σ L fun v L1 => ∃ (l : Addr) (xs : List V), v = .ref l ∧ (∃ R, Sel L1 (pt l (.lst xs)) R) ∧ LcGo T X scope tg elt ifs (own.map (·.2)) σ σ0 L1 xs.length (fun i x Lx => xs[i]? = some x ∧ Lx = []) K) : WE T (tLc (iList X.K (eW X iter)) (gB X scope tg) (tB_ X scope ifs) (eB X scope elt) (own.map (·.2))) σ L K := by
  refine fun H hh Q q => h0 H hh _ fun v L1 H1 ⟨l, xs, ev, ⟨R1, s1⟩, γ, acc, φ, g0, p0, a0, hs, hd⟩ h1 => ⟨l, ev, ⟨xs, SqL.of (h1.at s1)⟩, fun D hD => ?_⟩
  have sel : ∀ {g}, Sel (acc D g :: L1) (pt l (.lst xs)) (acc D g :: R1) := fun {g} => .there s1
  refine wlc (Itl X.K l) xs.length D (fun i L' => ∃ g, φ i g ∧ L' = acc D g :: L1) hw.eq (fun L H i h => ?_) (fun i L H hi iv h => ?_) (fun i L H hi iv h x H' y => ?_) ⟨_, ⟨g0, p0, rfl⟩, start_acc a0 h1 hD⟩ fun L' H' iv h' => ?_
  · obtain ⟨g, pg, rfl⟩ := i
    exact ⟨xs, SqL.of (h.at sel), Nat.le_refl _⟩
  · obtain ⟨g, pg, rfl⟩ := iv
    exact ⟨xs, xs[i], SqL.of (h.at sel), by simp [hi]⟩
  · obtain ⟨g, pg, rfl⟩ := iv
    obtain ⟨e, y⟩ := y
    subst e
    exact ⟨_, h, lct_imp (hs D i x [] g hi ⟨y xs (SqL.of (h.at sel)), rfl⟩ pg) fun _ => lcn_fit⟩
  · obtain ⟨g, pg, rfl⟩ := iv
    exact q _ _ _ (hd D g pg) h'
theorem ge_lcL (own : List (Str × Nat)) (hc : X.calm = true) (hN : X.N.Nodup) (ok : BlkOk X.N X.env.scope scope own) (hw : Wp σ (own.map (·.2)) σ0) (hf : ∀ x, foldedSetIterable iter X.env x = pure x)
    (h0 : GE T X iter σ L fun v L1 => ∃ (l : Addr) (xs : List V), v = .ref l ∧ (∃ R, Sel L1 (pt l (.lst xs)) R) ∧ LcGo T X scope tg elt ifs (own.map (·.2)) σ σ0 L1 xs.length (fun i x Lx => xs[i]? = some x ∧ Lx = []) K) : GE T X (.ListComp elt [⟨tg, iter, ifs, 0⟩] scope pos) σ L K := GE.of (pe_lcW hc hN (pi_list peW) ok hf) (lcL_core hw h0)
theorem gs_lcL {N : List Str} {ks : List (Str × NameKind)} {y : Str} {py spos : Pos} {f : V → St} {D : EndsL} (own : List (Str × Nat)) (n : Nm X N ks) (s : Slot N σ y f) (h : Kd ks y .local) (hc : X.calm = true) (ok : BlkOk X.N X.env.scope scope own) (hw : Wp σ (own.map (·.2)) σ0) (hf : ∀ x, foldedSetIterable iter X.env x = pure x)
    (hsw : swapsWith (.ListComp elt [⟨tg, iter, ifs, 0⟩] scope pos) (some (.Name y py)) spos.line X.env = pure true)
    (h0 : GE T X iter σ L fun v L1 => ∃ (l : Addr) (xs : List V), v = .ref l ∧ (∃ R, Sel L1 (pt l (.lst xs)) R) ∧ LcGo T X scope tg elt ifs (own.map (·.2)) σ σ0 L1 xs.length (fun i x Lx => xs[i]? = some x ∧ Lx = []) (fun v L' => D.nx (f v) L')) : GS T X (.Assign [.Name y py] (.ListComp elt [⟨tg, iter, ifs, 0⟩] scope pos) spos) D σ L := by
  obtain ⟨i, h1, h2⟩ := s.ix
  exact GS.of (ps_setLcW (i := i) n hc (by rw [n.nn]; exact h1) (n.look h) hsw (pi_list peW) ok hf) fun H hs D0 l => lcL_core hw h0 H hs _ fun v L' H' k h' => l.nx _ _ _ (by rw [← h2]; exact k) h'
/-- over a list of data -/
theorem lcR_core {own : List (Str × Nat)} (hw : Wp σ (own.map (·.2)) σ0)
    (h0 : GE T X iter σ L fun v L1 => ∃ (l : Addr) (α : Type) (R : PRep α) (ds : List α), v = .ref l ∧ (∃ R0, Sel L1 (LstR R l ds) R0) ∧ LcGo T X scope tg elt ifs (own.map (·.2)) σ σ0 L1 ds.length (fun i x Lx => ∃ d, ds[i]? = some d ∧ Lx = [Val R x d]) K) : WE T (tLc (iList X.K (eW X iter)) (gB X scope tg) (tB_ X scope ifs) (eB X scope elt) (own.map (·.2))) σ L K := by
  refine fun H hh Q q => h0 H hh _ fun v L1 H1 ⟨l, α, R, ds, ev, ⟨R1, s1⟩, γ, acc, φ, g0, p0, a0, hs, hd⟩ h1 => ?_
  obtain ⟨xs1, e1, _⟩ := h1.atR s1
  refine ⟨l, ev, ⟨xs1, SqL.of e1⟩, fun D hD => ?_⟩
  have sel : ∀ {g}, Sel (acc D g :: L1) (LstR R l ds) (acc D g :: R1) := fun {g} => .there s1
  refine wlc (Itl X.K l) ds.length D (fun i L' => ∃ g, φ i g ∧ L' = acc D g :: L1) hw.eq (fun L H i h => ?_) (fun i L H hi iv h => ?_) (fun i L H hi iv h x H' y => ?_) ⟨_, ⟨g0, p0, rfl⟩, start_acc a0 h1 hD⟩ fun L' H' iv h' => ?_
  · obtain ⟨g, pg, rfl⟩ := i
    obtain ⟨xs, e, r⟩ := h.atR sel
    exact ⟨xs, SqL.of e, Nat.le_of_eq r.length⟩
  · obtain ⟨g, pg, rfl⟩ := iv
    obtain ⟨xs, e, r⟩ := h.atR sel
    have : i < xs.length := by rw [r.length]; exact hi
    exact ⟨xs, xs[i], SqL.of e, by simp [this]⟩
  · obtain ⟨g, pg, rfl⟩ := iv
    obtain ⟨xs, e, r⟩ := h.atR sel
    obtain ⟨e2, y⟩ := y
    subst e2
    obtain ⟨d, hd', rr⟩ := r.get' (y xs (SqL.of e))
    exact ⟨_, h.addP Val.pers rr, lct_imp (hs D i x _ g hi ⟨d, hd', rfl⟩ pg) fun _ => lcn_fit⟩
  · obtain ⟨g, pg, rfl⟩ := iv
    exact q _ _ _ (hd D g pg) h'
theorem ge_lcR (own : List (Str × Nat)) (hc : X.calm = true) (hN : X.N.Nodup) (ok : BlkOk X.N X.env.scope scope own) (hw : Wp σ (own.map (·.2)) σ0) (hf : ∀ x, foldedSetIterable iter X.env x = pure x)
    (h0 : GE T X iter σ L fun v L1 => ∃ (l : Addr) (α : Type) (R : PRep α) (ds : List α), v = .ref l ∧ (∃ R0, Sel L1 (LstR R l ds) R0) ∧ LcGo T X scope tg elt ifs (own.map (·.2)) σ σ0 L1 ds.length (fun i x Lx => ∃ d, ds[i]? = some d ∧ Lx = [Val R x d]) K) : GE T X (.ListComp elt [⟨tg, iter, ifs, 0⟩] scope pos) σ L K := GE.of (pe_lcW hc hN (pi_list peW) ok hf) (lcR_core hw h0)
theorem gs_lcR {N : List Str} {ks : List (Str × NameKind)} {y : Str} {py spos : Pos} {f : V → St} {D : EndsL} (own : List (Str × Nat)) (n : Nm X N ks) (s : Slot N σ y f) (h : Kd ks y .local) (hc : X.calm = true) (ok : BlkOk X.N X.env.scope scope own) (hw : Wp σ (own.map (·.2)) σ0) (hf : ∀ x, foldedSetIterable iter X.env x = pure x)
    (hsw : swapsWith (.ListComp elt [⟨tg, iter, ifs, 0⟩] scope pos) (some (.Name y py)) spos.line X.env = pure true)
    (h0 : GE T X iter σ L fun v L1 => ∃ (l : Addr) (α : Type) (R : PRep α) (ds : List α), v = .ref l ∧ (∃ R0, Sel L1 (LstR R l ds) R0) ∧ LcGo T X scope tg elt ifs (own.map (·.2)) σ σ0 L1 ds.length (fun i x Lx => ∃ d, ds[i]? = some d ∧ Lx = [Val R x d]) (fun v L' => D.nx (f v) L')) : GS T X (.Assign [.Name y py] (.ListComp elt [⟨tg, iter, ifs, 0⟩] scope pos) spos) D σ L := by
  obtain ⟨i, h1, h2⟩ := s.ix
  exact GS.of (ps_setLcW (i := i) n hc (by rw [n.nn]; exact h1) (n.look h) hsw (pi_list peW) ok hf) fun H hs D0 l => lcR_core hw h0 H hs _ fun v L' H' k h' => l.nx _ _ _ (by rw [← h2]; exact k) h'
/-- over a tuple of data -/
theorem lcT_core {own : List (Str × Nat)} (hw : Wp σ (own.map (·.2)) σ0)
    (h0 : GE T X iter σ L fun v L1 => ∃ (α : Type) (R : PRep α) (ds : List α), Rv T L1 v (rTl R) ds ∧ LcGo T X scope tg elt ifs (own.map (·.2)) σ σ0 (Val (rTl R) v ds :: L1) ds.length (fun i x Lx => ∃ d, ds[i]? = some d ∧ Lx = [Val R x d]) K) : WE T (tLc (iTup X.K (eW X iter)) (gB X scope tg) (tB_ X scope ifs) (eB X scope elt) (own.map (·.2))) σ L K := by
  refine fun H hh Q q => h0 H hh _ fun v L1 H1 ⟨α, R, ds, r1, γ, acc, φ, g0, p0, a0, hs, hd⟩ h1 => ?_
  obtain ⟨l, xs1, ev0, e1, _⟩ := r1 H1 h1
  subst ev0
  have h1' := h1.addP (F := Val (rTl R) (.ref l) ds) Val.pers (r1 H1 h1)
  have get : ∀ {D : Addr} {g : γ} {H : Hp}, Hs T (acc D g :: Val (rTl R) (.ref l) ds :: L1) H → ∃ xs, H l = some (.tup xs) ∧ A2r R H xs ds := fun {D g H} h => by
    obtain ⟨l', xs, ev, e, r⟩ := h.getP (F := Val (rTl R) (.ref l) ds) Val.pers (.there .here)
    cases ev
    exact ⟨xs, e, r⟩
  refine ⟨l, rfl, ⟨xs1, SqT.of e1⟩, fun D hD => ?_⟩
  refine wlc (Itt X.K l) ds.length D (fun i L' => ∃ g, φ i g ∧ L' = acc D g :: Val (rTl R) (.ref l) ds :: L1) hw.eq (fun L H i h => ?_) (fun i L H hi iv h => ?_) (fun i L H hi iv h x H' y => ?_) ⟨_, ⟨g0, p0, rfl⟩, start_acc a0 h1' hD⟩ fun L' H' iv h' => ?_
  · obtain ⟨g, pg, rfl⟩ := i
    obtain ⟨xs, e, r⟩ := get h
    exact ⟨xs, SqT.of e, Nat.le_of_eq r.length⟩
  · obtain ⟨g, pg, rfl⟩ := iv
    obtain ⟨xs, e, r⟩ := get h
    have : i < xs.length := by rw [r.length]; exact hi
    exact ⟨xs, xs[i], SqT.of e, by simp [this]⟩
  · obtain ⟨g, pg, rfl⟩ := iv
    obtain ⟨xs, e, r⟩ := get h
    obtain ⟨e2, y⟩ := y
    subst e2
    obtain ⟨d, hd', rr⟩ := r.get' (y xs (SqT.of e))
    exact ⟨_, h.addP Val.pers rr, lct_imp (hs D i x _ g hi ⟨d, hd', rfl⟩ pg) fun _ => lcn_fit⟩
  · obtain ⟨g, pg, rfl⟩ := iv
    exact q _ _ _ (hd D g pg) h'
theorem ge_lcT (own : List (Str × Nat)) (hc : X.calm = true) (hN : X.N.Nodup) (ok : BlkOk X.N X.env.scope scope own) (hw : Wp σ (own.map (·.2)) σ0) (hf : ∀ x, foldedSetIterable iter X.env x = pure x)
    (h0 : GE T X iter σ L fun v L1 => ∃ (α : Type) (R : PRep α) (ds : List α), Rv T L1 v (rTl R) ds ∧ LcGo T X scope tg elt ifs (own.map (·.2)) σ σ0 (Val (rTl R) v ds :: L1) ds.length (fun i x Lx => ∃ d, ds[i]? = some d ∧ Lx = [Val R x d]) K) : GE T X (.ListComp elt [⟨tg, iter, ifs, 0⟩] scope pos) σ L K := GE.of (pe_lcW hc hN (pi_tup peW) ok hf) (lcT_core hw h0)
theorem gs_lcT {N : List Str} {ks : List (Str × NameKind)} {y : Str} {py spos : Pos} {f : V → St} {D : EndsL} (own : List (Str × Nat)) (n : Nm X N ks) (s : Slot N σ y f) (h : Kd ks y .local) (hc : X.calm = true) (ok : BlkOk X.N X.env.scope scope own) (hw : Wp σ (own.map (·.2)) σ0) (hf : ∀ x, foldedSetIterable iter X.env x = pure x)
    (hsw : swapsWith (.ListComp elt [⟨tg, iter, ifs, 0⟩] scope pos) (some (.Name y py)) spos.line X.env = pure true)
    (h0 : GE T X iter σ L fun v L1 => ∃ (α : Type) (R : PRep α) (ds : List α), Rv T L1 v (rTl R) ds ∧ LcGo T X scope tg elt ifs (own.map (·.2)) σ σ0 (Val (rTl R) v ds :: L1) ds.length (fun i x Lx => ∃ d, ds[i]? = some d ∧ Lx = [Val R x d]) (fun v L' => D.nx (f v) L')) : GS T X (.Assign [.Name y py] (.ListComp elt [⟨tg, iter, ifs, 0⟩] scope pos) spos) D σ L := by
  obtain ⟨i, h1, h2⟩ := s.ix
  exact GS.of (ps_setLcW (i := i) n hc (by rw [n.nn]; exact h1) (n.look h) hsw (pi_tup peW) ok hf) fun H hs D0 l => lcT_core hw h0 H hs _ fun v L' H' k h' => l.nx _ _ _ (by rw [← h2]; exact k) h'
/-- over range(n) -/
theorem lcN_core {a : Expr} {own : List (Str × Nat)} (hw : Wp σ (own.map (·.2)) σ0)
    (h0 : GA T X [a] σ L fun vs L1 => ∃ n, vs = [.int n] ∧ -(2 ^ 62) ≤ n ∧ n < 2 ^ 62 ∧ LcGo T X scope tg elt ifs (own.map (·.2)) σ σ0 L1 n.toNat (fun i x Lx => x = .int (i : Nat) ∧ Lx = []) K) : WE T (tLc (iRng1 (aW X [a])) (gB X scope tg) (tB_ X scope ifs) (eB X scope elt) (own.map (·.2))) σ L K := by
  refine fun H hh Q q => h0 H hh _ fun vs L1 H1 ⟨n, ev, b1, b2, γ, acc, φ, g0, p0, a0, hs, hd⟩ h1 => ⟨n, ev, b1, b2, fun D hD => ?_⟩
  refine wlc (Itr 0 n.toNat) n.toNat D (fun i L' => ∃ g, φ i g ∧ L' = acc D g :: L1) hw.eq (fun L H i h => Nat.le_refl _) (fun i L H hi iv h => hi) (fun i L H hi iv h x H' y => ?_) ⟨_, ⟨g0, p0, rfl⟩, start_acc a0 h1 hD⟩ fun L' H' iv h' => ?_
  · obtain ⟨g, pg, rfl⟩ := iv
    obtain ⟨e, y⟩ := y
    subst e
    subst y
    refine ⟨_, h, ?_⟩
    rw [Int.zero_add]
    exact lct_imp (hs D i _ [] g hi ⟨rfl, rfl⟩ pg) fun _ => lcn_fit
  · obtain ⟨g, pg, rfl⟩ := iv
    exact q _ _ _ (hd D g pg) h'
theorem ge_lcN {a : Expr} {p p2 : Pos} (own : List (Str × Nat)) (hc : X.calm = true) (hN : X.N.Nodup) (ok : BlkOk X.N X.env.scope scope own) (hw : Wp σ (own.map (·.2)) σ0) (hg : Gl X "range") (hm : X.mg "range" = none)
    (hst : starEach [a] X.env = [(false, eval a X.env)]) (hf : ∀ x, foldedSetIterable (.Call (.Name "range" p) [a] [] p2) X.env x = pure x)
    (h0 : GA T X [a] σ L fun vs L1 => ∃ n, vs = [.int n] ∧ -(2 ^ 62) ≤ n ∧ n < 2 ^ 62 ∧ LcGo T X scope tg elt ifs (own.map (·.2)) σ σ0 L1 n.toNat (fun i x Lx => x = .int (i : Nat) ∧ Lx = []) K) : GE T X (.ListComp elt [⟨tg, (.Call (.Name "range" p) [a] [] p2), ifs, 0⟩] scope pos) σ L K := GE.of (pe_lcW hc hN (pi_range1 hg hm paW hst) ok hf) (lcN_core hw h0)
theorem gs_lcN {a : Expr} {p p2 : Pos} {N : List Str} {ks : List (Str × NameKind)} {y : Str} {py spos : Pos} {f : V → St} {D : EndsL} (own : List (Str × Nat)) (n : Nm X N ks) (s : Slot N σ y f) (h : Kd ks y .local) (hc : X.calm = true) (ok : BlkOk X.N X.env.scope scope own) (hw : Wp σ (own.map (·.2)) σ0) (hg : Gl X "range") (hm : X.mg "range" = none)
    (hst : starEach [a] X.env = [(false, eval a X.env)]) (hf : ∀ x, foldedSetIterable (.Call (.Name "range" p) [a] [] p2) X.env x = pure x)
    (hsw : swapsWith (.ListComp elt [⟨tg, (.Call (.Name "range" p) [a] [] p2), ifs, 0⟩] scope pos) (some (.Name y py)) spos.line X.env = pure true)
    (h0 : GA T X [a] σ L fun vs L1 => ∃ n, vs = [.int n] ∧ -(2 ^ 62) ≤ n ∧ n < 2 ^ 62 ∧ LcGo T X scope tg elt ifs (own.map (·.2)) σ σ0 L1 n.toNat (fun i x Lx => x = .int (i : Nat) ∧ Lx = []) (fun v L' => D.nx (f v) L')) : GS T X (.Assign [.Name y py] (.ListComp elt [⟨tg, (.Call (.Name "range" p) [a] [] p2), ifs, 0⟩] scope pos) spos) D σ L := by
  obtain ⟨i, h1, h2⟩ := s.ix
  exact GS.of (ps_setLcW (i := i) n hc (by rw [n.nn]; exact h1) (n.look h) hsw (pi_range1 hg hm paW hst) ok hf) fun H hs D0 l => lcN_core hw h0 H hs _ fun v L' H' k h' => l.nx _ _ _ (by rw [← h2]; exact k) h'
end
end SW
set_option Elab.async false
set_option linter.all false
set_option maxRecDepth 100000
set_option maxHeartbeats 2000000
/-! Sw7: methods of lists; slices; sums of lists; stores by an operator; raise. -/
namespace SW
open PySem PySem.Spec L2
open PyProof.Rows hiding St
def HasL (T : List (Addr × Str)) (L : List SA) (p : Addr) : Prop := ∀ H, Hs T L H → ∃ xs, H p = some (.lst xs)
section
variable {T : List (Addr × Str)} {X : Cx} {σ : St} {L L1 L' R' : List SA} {K : GK} {D : EndsL} {o e : Expr} {es : List Expr} {apos cpos pos p2 : Pos} {α : Type} {R : PRep α} {p : Addr} {v x y : V}
theorem hasL_pt {xs : List V} (s : Sel L (pt p (.lst xs)) R') : HasL T L p := fun H h => ⟨xs, h.at s⟩
theorem hasL_R {ds : List α} (s : Sel L (LstR R p ds) R') : HasL T L p := fun H h => by
  obtain ⟨xs, e, _⟩ := h.atR s
  exact ⟨xs, e⟩
/-! ### append -/
def GApp (T : List (Addr × Str)) (p : Addr) (y : V) (L : List SA) (N : List SA → Prop) : Prop := ∀ H, Hs T L H → ∃ xs, H p = some (.lst xs) ∧ xs.length < sizeLine ∧ ∃ L', Hs T L' (upd H p (.lst (xs ++ [y]))) ∧ N L'
theorem gapp_pt {xs : List V} {N : List SA → Prop} (r : Rpl L (pt p (.lst xs)) (pt p (.lst (xs ++ [y]))) L') (hz : xs.length < sizeLine) (n : N L') : GApp T p y L N := lcend_pt r hz n
theorem gapp_R {ds : List α} {d : α} {N : List SA → Prop} (r : Rpl L (LstR R p ds) (LstR R p (ds ++ [d])) L') (hz : ds.length < sizeLine) (hv : Rv T L y R d) (n : N L') : GApp T p y L N := lcend_R r hz hv n
theorem ge_append (hbase : attributeBase o "append" X.env (eval o X.env) = eval o X.env) (hfew : ((backTo cpos (starEach [e] X.env)).all (fun x => !x.1) && (backToKw cpos (keywordEach [] X.env)).all (fun x => x.1.isSome)
      && decide (([e] : List Expr).length + ([] : List Keyword).length + (if ([] : List Keyword).isEmpty then 0 else 1) < 30)) = true) (hline : (apos.endLine == cpos.line) = true) (hs : starEach [e] X.env = (false, eval e X.env) :: starEach [] X.env) (hplain : (backTo cpos (starEach [] X.env)).any (·.1) = false)
    (h : GE T X o σ L fun v L1 => ∃ p, v = .ref p ∧ HasL T L1 p ∧ GE T X e σ L1 fun y L2 => GApp T p y L2 (K .non)) : GE T X (.Call (.Attribute o "append" apos) [e] [] cpos) σ L K :=
  GE.of (pe_bm PySem.F.plainAttrs_list PySem.F.slot_list_append PySem.F.type_list_append mt_append peW (pa_cons peW pa_nil hs) hbase hfew hline hs hplain) fun H hh Q q => h H hh _ fun v L1 H1 ⟨p, ev, hp, k1⟩ h1 => by
    subst ev
    obtain ⟨xs, e1⟩ := hp H1 h1
    refine ⟨.inl ⟨rfl, xs, SqL.of e1⟩, k1 H1 h1 _ fun y L2 H2 k2 h2 => ?_⟩
    obtain ⟨ys, e2, hz, L', h', n⟩ := k2 H2 h2
    exact ⟨p, ys, y, rfl, rfl, e2, hz, q _ _ _ n h'⟩
/-! ### extend -/
def GExt (T : List (Addr × Str)) (p : Addr) (y : V) (L : List SA) (N : List SA → Prop) : Prop := ∀ H, Hs T L H → ∃ b xs zs, y = .ref b ∧ H p = some (.lst xs) ∧ H b = some (.lst zs) ∧ xs.length + zs.length ≤ sizeLine ∧ ∃ L', Hs T L' (upd H p (.lst (xs ++ zs))) ∧ N L'
theorem gext_R {b : Addr} {ds es : List α} {N : List SA → Prop} {Q : List SA} (s : Sel L (LstR R b es) Q) (r : Rpl L (LstR R p ds) (LstR R p (ds ++ es)) L') (hz : ds.length + es.length ≤ sizeLine) (n : N L') : GExt T p (.ref b) L N := fun H h => by
  obtain ⟨Q2, s2⟩ := r.sel
  obtain ⟨xs, e1, a1⟩ := h.atR s2
  obtain ⟨zs, e2, a2⟩ := h.atR s
  exact ⟨b, xs, zs, rfl, e1, e2, by rw [a1.length, a2.length]; exact hz, L', h.rplR r (a1.app a2), n⟩
theorem gext_pt {b : Addr} {xs zs : List V} {N : List SA → Prop} {Q : List SA} (s : Sel L (pt b (.lst zs)) Q) (r : Rpl L (pt p (.lst xs)) (pt p (.lst (xs ++ zs))) L') (hz : xs.length + zs.length ≤ sizeLine) (n : N L') : GExt T p (.ref b) L N := fun H h => by
  obtain ⟨Q2, s2⟩ := r.sel
  exact ⟨b, xs, zs, rfl, h.at s2, h.at s, hz, L', h.rpl r (by exact True.intro) fun _ => nofun, n⟩
theorem ge_extend (hbase : attributeBase o "extend" X.env (eval o X.env) = eval o X.env) (hfew : ((backTo cpos (starEach [e] X.env)).all (fun x => !x.1) && (backToKw cpos (keywordEach [] X.env)).all (fun x => x.1.isSome)
      && decide (([e] : List Expr).length + ([] : List Keyword).length + (if ([] : List Keyword).isEmpty then 0 else 1) < 30)) = true) (hline : (apos.endLine == cpos.line) = true) (hs : starEach [e] X.env = (false, eval e X.env) :: starEach [] X.env) (hplain : (backTo cpos (starEach [] X.env)).any (·.1) = false)
    (h : GE T X o σ L fun v L1 => ∃ p, v = .ref p ∧ HasL T L1 p ∧ GE T X e σ L1 fun y L2 => GExt T p y L2 (K .non)) : GE T X (.Call (.Attribute o "extend" apos) [e] [] cpos) σ L K :=
  GE.of (pe_bm PySem.F.plainAttrs_list PySem.F.slot_list_extend PySem.F.type_list_extend mt_extend peW (pa_cons peW pa_nil hs) hbase hfew hline hs hplain) fun H hh Q q => h H hh _ fun v L1 H1 ⟨p, ev, hp, k1⟩ h1 => by
    subst ev
    obtain ⟨xs, e1⟩ := hp H1 h1
    refine ⟨.inl ⟨rfl, xs, SqL.of e1⟩, k1 H1 h1 _ fun y L2 H2 k2 h2 => ?_⟩
    obtain ⟨b, xs2, zs, ey, e2, e3, hz, L', h', n⟩ := k2 H2 h2
    subst ey
    exact ⟨p, b, xs2, zs, rfl, rfl, e2, e3, hz, q _ _ _ n h'⟩
/-! ### pop -/
def GPop (T : List (Addr × Str)) (p : Addr) (i : Int) (L : List SA) (K : GK) : Prop := ∀ H, Hs T L H → ∃ xs k y, H p = some (.lst xs) ∧ -(2 ^ 63) ≤ i ∧ i < 2 ^ 63 ∧ seqIndex? i xs.length = some k ∧ xs[k]? = some y ∧ ∃ L', Hs T L' (upd H p (.lst (xs.eraseIdx k))) ∧ K y L'
theorem gpop0_R {d : α} {ds : List α} (r : Rpl L (LstR R p (d :: ds)) (LstR R p ds) L') (k : ∀ y, K y (Val R y d :: L')) : GPop T p 0 L K := fun H h => by
  obtain ⟨Q2, s2⟩ := r.sel
  obtain ⟨xs, e1, a1⟩ := h.atR s2
  cases a1 with
  | @cons x _ xs' _ r1 t1 =>
    refine ⟨x :: xs', 0, x, e1, by omega, by omega, ?_, rfl, _, (h.rplR r (show A2r R H xs' ds from t1)).addP Val.pers (R.mono (fun b zs eb => ?_) r1), k x⟩
    · exact seqIndex_of (by omega) (by simp only [List.length_cons]; omega)
    · rw [upd_ne (ne_of eb e1 (by intro z; cases z))]; exact eb
theorem gpop0_pt {z : V} {xs : List V} (r : Rpl L (pt p (.lst (z :: xs))) (pt p (.lst xs)) L') (k : K z L') : GPop T p 0 L K := fun H h => by
  obtain ⟨Q2, s2⟩ := r.sel
  exact ⟨z :: xs, 0, z, h.at s2, by omega, by omega, seqIndex_of (by omega) (by simp only [List.length_cons]; omega), rfl, L', h.rpl r (by exact True.intro) fun _ => nofun, k⟩
theorem ge_popAt (hbase : attributeBase o "pop" X.env (eval o X.env) = eval o X.env) (hfew : ((backTo cpos (starEach [e] X.env)).all (fun x => !x.1) && (backToKw cpos (keywordEach [] X.env)).all (fun x => x.1.isSome)
      && decide (([e] : List Expr).length + ([] : List Keyword).length + (if ([] : List Keyword).isEmpty then 0 else 1) < 30)) = true) (hline : (apos.endLine == cpos.line) = true) (hs : starEach [e] X.env = (false, eval e X.env) :: starEach [] X.env) (hplain : (backTo cpos (starEach [] X.env)).any (·.1) = false)
    (h : GE T X o σ L fun v L1 => ∃ p, v = .ref p ∧ HasL T L1 p ∧ GE T X e σ L1 fun y L2 => ∃ i, y = .int i ∧ GPop T p i L2 K) : GE T X (.Call (.Attribute o "pop" apos) [e] [] cpos) σ L K :=
  GE.of (pe_bm PySem.F.plainAttrs_list PySem.F.slot_list_pop PySem.F.type_list_pop mt_popAt peW (pa_cons peW pa_nil hs) hbase hfew hline hs hplain) fun H hh Q q => h H hh _ fun v L1 H1 ⟨p, ev, hp, k1⟩ h1 => by
    subst ev
    obtain ⟨xs, e1⟩ := hp H1 h1
    refine ⟨.inl ⟨rfl, xs, SqL.of e1⟩, k1 H1 h1 _ fun y L2 H2 ⟨i, ey, k2⟩ h2 => ?_⟩
    subst ey
    obtain ⟨xs2, k, y, e2, b1, b2, b3, b4, L', h', n⟩ := k2 H2 h2
    exact ⟨p, xs2, i, k, y, rfl, rfl, e2, b1, b2, b3, b4, q _ _ _ n h'⟩
/-! ### slices -/
def slW (X : Cx) : V → Option Int → Option Int → Hp → VK → Prop := fun x lo hi H Q => ∀ pins s σ v vl vu sl, Inv X pins σ H s → RelV x v → s.heap.IsSliceOf sl vl vu .none → IsPart vl lo → IsPart vu hi →
    ∃ T id, typeLookup (.type T) "__getitem__" = pure (some (.builtin id)) ∧ s.TypeIs v T ∧ wpAny (model X.prog X.w) X.A (getItem v (.ref sl)) (EP X pins σ Q) X.xe s
theorem slWr : SlR X (slW X) := fun pins s σ H x v vl vu lo hi sl Q I rx hs pl pu h => h pins s σ v vl vu sl I rx hs pl pu
def GSl (T : List (Addr × Str)) (X : Cx) (x : V) (lo hi : Option Int) (L : List SA) (K : GK) : Prop := ∀ H, Hs T L H → ∀ Q : VK, (∀ v L' H', K v L' → Hs T L' H' → Q v H') → slW X x lo hi H Q
theorem GSl.of {r : V → Option Int → Option Int → Hp → VK → Prop} {lo hi : Option Int} (hr : SlR X r) (w : ∀ H, Hs T L H → ∀ Q : VK, (∀ v L' H', K v L' → Hs T L' H' → Q v H') → r x lo hi H Q) : GSl T X x lo hi L K :=
  fun H hs Q q pins s σ v vl vu sl I rx hsl pl pu => hr pins s σ H x v vl vu lo hi sl Q I rx hsl pl pu (w H hs Q q)
/-- a part of a slice -/
def GO (T : List (Addr × Str)) (X : Cx) (e : Option Expr) (σ : St) (L : List SA) (K : Option Int → List SA → Prop) : Prop := match e with
  | none => K none L
  | some e => GE T X e σ L fun v L1 => ∃ i, v = .int i ∧ K (some i) L1
def oW (X : Cx) : Option Expr → TO
  | none => tNoPart
  | some e => tPart (eW X e)
theorem poW : ∀ e : Option Expr, PO X e (oW X e)
  | none => po_none
  | some e => po_some peW
theorem go_run {e : Option Expr} {K : Option Int → List SA → Prop} (h : GO T X e σ L K) {H : Hp} (hs : Hs T L H) {Q : Option Int → Hp → Prop} (q : ∀ v L' H', K v L' → Hs T L' H' → Q v H') : oW X e σ H Q := by
  cases e with
  | none => exact q _ _ _ h hs
  | some e => exact h H hs _ fun v L1 H1 ⟨i, ev, k⟩ h1 => ⟨i, ev, q _ _ _ k h1⟩
theorem ge_slice {lo hi : Option Expr} (h : GE T X e σ L fun x L1 => GO T X lo σ L1 fun l L2 => GO T X hi σ L2 fun u L3 => GSl T X x l u L3 K) : GE T X (.Subscript e (.Slice lo hi none p2) pos) σ L K :=
  GE.of (pe_slice slWr peW (poW lo) (poW hi)) fun H hs Q q => h H hs _ fun x L1 H1 k1 h1 => go_run k1 h1 fun l L2 H2 k2 h2 => go_run k2 h2 fun u L3 H3 k3 h3 => k3 H3 h3 Q q
theorem goN {K : Option Int → List SA → Prop} (k : K none L) : GO T X none σ L K := k
theorem goS {e : Expr} {K : Option Int → List SA → Prop} (k : GE T X e σ L fun v L1 => ∃ i, v = .int i ∧ K (some i) L1) : GO T X (some e) σ L K := k
def cutD {α : Type} (ds : List α) (lo hi : Option Int) : List α := (ds.drop (HT.sIx ds.length 0 lo)).take (HT.sIx ds.length ds.length hi - HT.sIx ds.length 0 lo)
theorem cutD_map {β : Type} (f : α → β) (ds : List α) (lo hi : Option Int) : cutD (ds.map f) lo hi = (cutD ds lo hi).map f := by simp [cutD, List.map_take, List.map_drop]
theorem gsl_lst {xs : List V} {lo hi : Option Int} (s : Sel L (pt p (.lst xs)) R') (k : ∀ q, K (.ref q) (pt q (.lst (cutD xs lo hi)) :: L)) : GSl T X (.ref p) lo hi L K :=
  GSl.of sl_list fun H hs Q q => ⟨p, xs, rfl, SqL.of (hs.at s), fun r hr => q _ _ _ (k r) (hs.new hr fun _ => nofun)⟩
theorem A2r.cut {h : Hp} {xs : List V} {ds : List α} (a : A2r R h xs ds) (lo hi : Option Int) : A2r R h (cutV xs lo hi) (cutD ds lo hi) := by
  unfold cutV cutD
  rw [a.length]
  exact (a.drop _).take _
theorem gsl_R {ds : List α} {lo hi : Option Int} (s : Sel L (LstR R p ds) R') (k : ∀ q, K (.ref q) (LstR R q (cutD ds lo hi) :: L)) : GSl T X (.ref p) lo hi L K :=
  GSl.of sl_list fun H hs Q q => by
    obtain ⟨xs, e, a⟩ := hs.atR s
    exact ⟨p, xs, rfl, SqL.of e, fun r hr => q _ _ _ (k r) (hs.newR hr (a.cut lo hi))⟩
/-- a slice of a tuple of data: itself where it is whole -/
theorem gsl_tl {ds : List α} {lo hi : Option Int} (r : Rv T L x (rTl R) ds) (k : ∀ v, K v (Val (rTl R) v (cutD ds lo hi) :: L)) : GSl T X x lo hi L K :=
  GSl.of sl_tupA fun H hs Q q => by
    obtain ⟨a, xs, rfl, e, hr⟩ := r H hs
    refine ⟨a, xs, rfl, SqT.of e, fun hw => ?_, fun _ p hp => ?_⟩
    · have ec : cutD ds lo hi = ds := by
        unfold cutD
        rw [← hr.length, hw.1, hw.2, List.drop_zero, Nat.sub_zero, hr.length, List.take_length]
      exact q _ _ _ (k (.ref a)) (hs.addP Val.pers (by rw [ec]; exact ⟨a, xs, rfl, e, hr⟩))
    · have h2 : Hs T (pt p (.tup (cutV xs lo hi)) :: L) (upd H p (.tup (cutV xs lo hi))) := hs.new hp fun _ => nofun
      refine q _ _ _ (k (.ref p)) (h2.tail.addP Val.pers ⟨p, cutV xs lo hi, rfl, upd_same, (hr.cut lo hi).mono fun b zs eb => ?_⟩)
      rw [upd_ne (ne_of_none eb hp)]; exact eb
end
end SW
set_option Elab.async false
set_option linter.all false
set_option maxRecDepth 100000
set_option maxHeartbeats 2000000
/-! Sw8: rows entailed; entry with closed ends; calls by entailment; operators of lists; raise; lambdas. -/
namespace SW
open PySem PySem.Spec L2
open PyProof.Rows hiding St
section
variable {T : List (Addr × Str)} {X : Cx} {σ : St} {L L' : List SA} {K : GK} {D : EndsL}
theorem GE.ent {e : Expr} (t : Ent T L L') (h : GE T X e σ L' K) : GE T X e σ L K := fun H hs Q k => h H (t H hs) Q k
theorem GT.ent {e : Expr} {K : Bool → List SA → Prop} (t : Ent T L L') (h : GT T X e σ L' K) : GT T X e σ L K := fun H hs Q k => h H (t H hs) Q k
theorem GA.ent {e : List Expr} {K : List V → List SA → Prop} (t : Ent T L L') (h : GA T X e σ L' K) : GA T X e σ L K := fun H hs Q k => h H (t H hs) Q k
theorem GS.ent {e : Stmt} (t : Ent T L L') (h : GS T X e D σ L') : GS T X e D σ L := fun H hs Q k => h H (t H hs) Q k
theorem GSs.ent {e : List Stmt} (t : Ent T L L') (h : GSs T X e D σ L') : GSs T X e D σ L := fun H hs Q k => h H (t H hs) Q k
theorem GC.ent {f : Value} {xs : List V} (t : Ent T L L') (h : GC T X f xs L' K) : GC T X f xs L K := fun H hs Q k => h H (t H hs) Q k
theorem GOp.ent {f : Value → Value → Sem Value} {x y : V} (t : Ent T L L') (h : GOp T X f x y L' K) : GOp T X f x y L K := fun H hs Q k => h H (t H hs) Q k
theorem GIx.ent {x y : V} (t : Ent T L L') (h : GIx T X x y L' K) : GIx T X x y L K := fun H hs Q k => h H (t H hs) Q k
theorem GG.ent {e : Expr} {v : V} {K : St → List SA → Prop} (t : Ent T L L') (h : GG T X e v σ L' K) : GG T X e v σ L K := fun H hs Q k => h H (t H hs) Q k
/-- rows that the heap picks -/
theorem GE.via {e : Expr} (h : ∀ H, Hs T L H → ∃ L', Hs T L' H ∧ GE T X e σ L' K) : GE T X e σ L K := fun H hs Q k => by
  obtain ⟨L', h', g⟩ := h H hs
  exact g H h' Q k
theorem GSs.via {e : List Stmt} (h : ∀ H, Hs T L H → ∃ L', Hs T L' H ∧ GSs T X e D σ L') : GSs T X e D σ L := fun H hs Q k => by
  obtain ⟨L', h', g⟩ := h H hs
  exact g H h' Q k
theorem GS.via {e : Stmt} (h : ∀ H, Hs T L H → ∃ L', Hs T L' H ∧ GS T X e D σ L') : GS T X e D σ L := fun H hs Q k => by
  obtain ⟨L', h', g⟩ := h H hs
  exact g H h' Q k
theorem GSs.mono {e : List Stmt} {D' : EndsL} (h : GSs T X e D' σ L) (n : ∀ σ L, D'.nx σ L → D.nx σ L) (r : ∀ v L, D'.rt v L → D.rt v L) (b : ∀ σ L, D'.bk σ L → D.bk σ L) (c : ∀ σ L, D'.ct σ L → D.ct σ L) : GSs T X e D σ L :=
  fun H hs D0 l => h H hs D0 ⟨fun σ' L' H' k h' => l.nx σ' L' H' (n _ _ k) h', fun v L' H' k h' => l.rt v L' H' (r _ _ k) h', fun σ' L' H' k h' => l.bk σ' L' H' (b _ _ k) h', fun σ' L' H' k h' => l.ct σ' L' H' (c _ _ k) h'⟩
end
theorem Cv.scal {α : Type} {R : PRep α} {f : α → V} {g : α → Prop} (c : Scal R f g) {a : Addr} {ds : List α} (k : ∀ d ∈ ds, g d) : Cv (SW.pt a (.lst (ds.map f))) (LstR R a ds) := fun h e => lstR_pt c k h e
/-! ### entry, ends closed under entailment -/
def Clo (T : List (Addr × Str)) (P : List SA → Prop) : List SA → Prop := fun L => ∃ L0, Ent T L L0 ∧ P L0
theorem Clo.mk {T : List (Addr × Str)} {P : List SA → Prop} {L L0 : List SA} (p : P L0) (e : Ent T L L0) : Clo T P L := ⟨L0, e, p⟩
theorem Clo.id {T : List (Addr × Str)} {P : List SA → Prop} {L : List SA} (p : P L) : Clo T P L := ⟨L, Ent.refl, p⟩
theorem Clo.ent {T : List (Addr × Str)} {P : List SA → Prop} {L L0 : List SA} (e : Ent T L L0) (p : Clo T P L0) : Clo T P L := by
  obtain ⟨L1, e1, p⟩ := p
  exact ⟨L1, e.trans e1, p⟩
def clK (T : List (Addr × Str)) (K : GK) : GK := fun v => Clo T (K v)
def clX (T : List (Addr × Str)) (kx : KX) : KX := fun c d => Clo T (kx c d)
section
variable {T : List (Addr × Str)} {P : Program} {w : World} {K : PySem.W.Frag} {mg : Str → Option Value} {base : Heap} {x qual : Str} {pa : Arguments} {bd : List Stmt} {sc : Scope} {f : Addr} {fd : FuncData} {N ps : List Str} {ks : List (Str × NameKind)} {k : Nat} {S : SpL}
/-- the entry of a def: its ends are closed -/
theorem def_in (F : FunD K x qual pa bd sc [] [] f fd) (S0 : DefSc N ps ks sc) (hl : ∀ vs L K kx, S vs L K kx → vs.length = ps.length)
    (hb : ∀ (A : Around) (outer : List Env) (s : Shared) (H : Hp) (E : XK), Room k (bx P w K mg base N qual sc f fd.code A outer s H E).A → Nm (bx P w K mg base N qual sc f fd.code A outer s H E) N ks → ∀ (vs : List V) (L : List SA) (KK : GK) (kx : KX), S vs L KK kx →
      Xok T (bx P w K mg base N qual sc f fd.code A outer s H E) (clX T kx) → ∀ σ, σ = start N vs → GSs T (bx P w K mg base N qual sc f fd.code A outer s H E) bd { nx := fun _ => Clo T (KK .non), rt := clK T KK } σ L) :
    FnOk P w K mg base (L2.CX P w) (k + 1) f fd ps (spOf T S) := by
  obtain ⟨oc, od, dV, kV, doc, pm, an, cdv0, ct, osl, rfl, lk, hcd, _, _⟩ := F.ex
  refine fn_of lk hcd S0.fs (fun vs H Q E ⟨L, KK, kx, _, h, _⟩ => hl vs L KK kx h) fun A outer s H vs Q E hr hsp => ?_
  obtain ⟨L, KK, kx, hs, h, q, qx⟩ := hsp
  have hx : Xok T (bx P w K mg base N qual sc f cdv0 A outer s H E) (clX T kx) := ⟨fun cls d _ H => E cls d H, takes_of rfl rfl rfl rfl, fun cls d σ L H ⟨L0, e, k⟩ h => qx cls d L0 H k (e H h)⟩
  have g := hb A outer s H E hr ⟨rfl, S0.kseq, S0.fs.nd, S0.kd⟩ vs L KK kx h hx _ rfl
  exact ⟨_, pssW, g H hs _ ⟨fun σ' L' H' ⟨L0, e, k⟩ h => q _ _ _ k (e _ h), fun v L' H' ⟨L0, e, k⟩ h => q _ _ _ k (e _ h), fun _ _ _ k => k.elim, fun _ _ _ k => k.elim⟩⟩
end
/-! ### calls, by entailment -/
/-- what a call asks: rows that the rows at hand entail -/
def CallS (T : List (Addr × Str)) (S : SpL) (vs : List V) (L : List SA) (K : GK) (kx : KX) : Prop := ∃ L', Ent T L L' ∧ S vs L' K kx
theorem CallS.mk {T : List (Addr × Str)} {S : SpL} {vs : List V} {L L' : List SA} {K : GK} {kx : KX} (s : S vs L' K kx) (e : Ent T L L') : CallS T S vs L K kx := ⟨L', e, s⟩
def spE (T : List (Addr × Str)) (S : SpL) : SpL := fun vs L K kx => CallS T S vs L K kx
theorem spE_le {T : List (Addr × Str)} {S : SpL} : ∀ vs H Q E, spOf T (spE T S) vs H Q E → spOf T S vs H Q E := fun vs H Q E ⟨L, K, kx, hs, ⟨L', e, s⟩, q, qx⟩ => ⟨L', K, kx, e H hs, s, q, qx⟩
section
variable {T : List (Addr × Str)} {P : Program} {w : World} {K : PySem.W.Frag} {mg : Str → Option Value} {base : Heap} {k : Nat} {C m x : Str} {S : SpL}
theorem FnAt.e (F : FnAt T P w K mg base k x S) : FnAt T P w K mg base k x (spE T S) := by
  obtain ⟨⟨fd, ps, F1, hb⟩, h2, h3⟩ := F
  exact ⟨⟨fd, ps, F1.imp spE_le, hb⟩, h2, h3⟩
theorem MeAt.e (F : MeAt T P w K mg base k C m S) : MeAt T P w K mg base k C m (spE T S) := by
  obtain ⟨⟨fd, ps, F1, hb⟩, h2, h3⟩ := F
  exact ⟨⟨fd, ps, F1.imp spE_le, hb⟩, h2, h3⟩
theorem MkAt.e (F : MkAt T P w K mg base k C S) : MkAt T P w K mg base k C (spE T S) := by
  obtain ⟨⟨fd, ps, F1, hb⟩, h2, h3⟩ := F
  exact ⟨⟨fd, ps, F1.imp spE_le, hb⟩, h2, h3⟩
theorem FnAt.mono {j : Nat} (F : FnAt T P w K mg base j x S) (h : j ≤ k) : FnAt T P w K mg base k x S := by
  obtain ⟨⟨fd, ps, F1, hb⟩, h2, h3⟩ := F
  exact ⟨⟨fd, ps, F1.mono h, hb⟩, h2, h3⟩
end
/-! ### raise -/
structure ExAt (K : PySem.W.Frag) (mg : Str → Option Value) (x : Str) : Prop where
  glo : mg x = some (.ref (He.ga K x))
  exc : (He.Fa.exc x).ok K = true
section
variable {T : List (Addr × Str)} {X : Cx} {σ : St} {L : List SA} {K : GK} {D : EndsL} {N : List Str} {ks : List (Str × NameKind)} {x : Str} {p p2 pos pos2 : Pos} {kx : KX} {m : Str} {j : Nat}
theorem gs_raise (n : Nm X N ks) (h : Kd ks x .globalImplicit) (hc : X.calm = true) (ex : ExAt X.K X.mg x) (hx : Xok T X kx) (hd : dbg x = false) (k : kx (.ref (He.ga X.K x)) none L) :
    GS T X (.Raise (some (.Call (.Name x p) [.Constant (.str m) j p2] [] pos)) none pos2) D σ L := by
  obtain ⟨W, tk, hW⟩ := hx
  obtain ⟨e1, e2, e3, e4⟩ := He.exc_ok ex.exc
  exact GS.of (ps_raise hc tk (pmk_own PySem.F.excBase_ValueError e1 ex.glo e2 (raises_own e3 e4) (n.gl h) (dbg1 hd))) fun H hs D0 l => hW _ _ _ _ _ k hs
end
/-! ### what a lambda is given to -/
def Catch (K : PySem.W.Frag) : List (Str × Str) → Value → (Str → Prop) → Prop
  | [], _, _ => False
  | (e, r) :: cs, c, P => ∃ b, PySem.W.exmOne K c (.ref (He.ga K e)) = some b ∧ (b = true → P r) ∧ (b = false → Catch K cs c P)
theorem Catch.imp {K : PySem.W.Frag} {P P' : Str → Prop} (f : ∀ r, P r → P' r) : ∀ {cs : List (Str × Str)} {c : Value}, Catch K cs c P → Catch K cs c P'
  | [], _, h => h.elim
  | (e, r) :: cs, c, ⟨b, h1, h2, h3⟩ => ⟨b, h1, fun z => f _ (h2 z), fun z => Catch.imp f (h3 z)⟩
inductive THds (sg : Scope) : List ExceptHandler → List (Str × Str) → Prop
  | nil : THds sg [] []
  | cons {e r : Str} {j : Nat} {p1 p2 p3 p4 : Pos} {hds : List ExceptHandler} {cs : List (Str × Str)} (h : sg.names.lookup e = some .globalImplicit) (hd : (e == ("__debug__" : Str)) = false) (t : THds sg hds cs) :
      THds sg (.ExceptHandler (some (.Name e p1)) none [.Return (some (.Constant (.str r) j p2)) p3] p4 :: hds) ((e, r) :: cs)
def TToldM (K : PySem.W.Frag) (cs : List (Str × Str)) : (XK → Hp → VK → Prop) → Hp → VK → Prop := fun tl H Q => tl (fun cls _ H' => Catch K cs cls fun r => Q (.str r) H') H Q
def tlCs (K : PySem.W.Frag) (cs : List (Str × Str)) : List (Value × (Addr → Value → Option Addr → TS)) := cs.map fun q => (.ref (He.ga K q.1), fun _ _ _ => fun D _ H => D.rt (.str q.2) H)
theorem hds_ok {Y : Cx} {sg : Scope} (hsc : Y.env.scope = sg) {hds : List ExceptHandler} {cs : List (Str × Str)} (t : THds sg hds cs) (hm : ∀ q ∈ cs, Y.mg q.1 = some (.ref (He.ga Y.K q.1))) : HdsOk Y hds (tlCs Y.K cs) := by
  induction t with
  | nil => exact .nil
  | @cons e r j p1 p2 p3 p4 hds cs h hd t ih =>
    exact .cons ⟨by show Y.env.scope.names.lookup e = _; rw [hsc]; exact h, hd, .inl (hm _ List.mem_cons_self)⟩ (fun a oe cls d pn _ _ => pss_one (ps_ret pe_str)) (ih fun q hq => hm q (List.mem_cons_of_mem _ hq))
theorem catch_many {K : PySem.W.Frag} {Wout : WX} {D : Ends} {Q : VK} (hD : D.rt = Q) {σ : St} {H : Hp} {d : Option Addr} : ∀ {cs : List (Str × Str)} {c : Value}, Catch K cs c (fun r => Q (.str r) H) → wMany K Wout D (tlCs K cs) c d σ H
  | [], _, h => h.elim
  | (e, r) :: cs, c, ⟨b, h1, h2, h3⟩ => ⟨b, h1, fun z a _ => by show D.rt (.str r) H; rw [hD]; exact h2 z, fun z => catch_many hD (h3 z)⟩
theorem told_givesM {X : Cx} {Ng : List Str} {x a q : Str} {sg : Scope} {g : Addr} {cdg : Value} {h0 : ExceptHandler} {hds : List ExceptHandler} {cs : List (Str × Str)} {p1 p2 p3 p8 : Pos} (t : THds sg (h0 :: hds) cs) (hm : ∀ q ∈ cs, X.mg q.1 = some (.ref (He.ga X.K q.1)))
    (hi : ∀ f : Addr, (start Ng [V.ref f])[0]? = some (some (V.ref f))) :
    LamX.GivesTo X Ng x sg g cdg [.Try [.Return (some (.Call (.Name a p1) [] [] p2)) p3] (h0 :: hds) [] [] p8] a q (TToldM X.K cs) := by
  intro f c' s H Q tl act hc h
  have tk : Takes (cxOf C8.CX0 X.prog X.w X.K X.mg X.base Ng x sg g cdg X.A X.stack s H C8.E0).nox (fun _ _ _ _ => False) := LamX.takes0
  refine ⟨_, pss_one (ps_try_many (X := (cxOf C8.CX0 X.prog X.w X.K X.mg X.base Ng x sg g cdg X.A X.stack s H C8.E0).nox) (l := tlCs X.K cs)
      (tb := fun W D σ H => ∃ Ech : XK, (∀ cls d σ' H', Ech cls d H' → W cls d σ' H') ∧ σ[0]? = some (some (.ref f)) ∧ H c' = some (LamX.CodeO c' q) ∧ tl Ech H D.rt)
      rfl rfl tk (fun W pn xe tk _ => ?_) (hds_ok (Y := (cxOf C8.CX0 X.prog X.w X.K X.mg X.base Ng x sg g cdg X.A X.stack s H C8.E0).nox) rfl t hm)), ?_⟩
  · refine ⟨fun pins s' σ H' D I h' => ?_⟩
    obtain ⟨Ech, hW, h1, h2, h3⟩ := h'
    have hp := act W pn xe Ech p1 p2 tk hW
    have hq := pss_one (ps_ret (pos := p3) hp)
    exact hq.run pins s' σ H' D I ⟨h1, h2, h3⟩
  · exact ⟨fun cls _ H' => Catch X.K cs cls fun r => Q (.str r) H', fun cls d σ' H' h => catch_many rfl h, hi f, hc, h⟩
/-- the def that calls what it got, and tells the class of what it catches -/
structure ToldAt (K : PySem.W.Frag) (mg : Str → Option Value) (x : Str) (cs : List (Str × Str)) : Prop where
  ex : ∃ (fd : FuncData) (pg : Arguments) (bg : List Stmt) (sg : Scope) (Ng : List Str) (a : Str) (h0 : ExceptHandler) (hds : List ExceptHandler) (p1 p2 p3 p8 : Pos), FunD K x x pg bg sg [] [] (He.ga K x) fd ∧ Binds K fd [a] [] ∧ FnScope Ng [a] sg ∧ Ng[0]? = some a ∧ Vis sg a ∧
    bg = [.Try [.Return (some (.Call (.Name a p1) [] [] p2)) p3] (h0 :: hds) [] [] p8] ∧ THds sg (h0 :: hds) cs ∧ (∀ f : Addr, (start Ng [V.ref f])[0]? = some (some (V.ref f))) ∧ (a == ("__debug__" : Str)) = false ∧ (a == ("__classdict__" : Str)) = false
  mgx : mg x = some (.ref (He.ga K x))
  cls : ∀ q ∈ cs, mg q.1 = some (.ref (He.ga K q.1))
/-- where lambdas of the running def have their code -/
structure LamAt (T : List (Addr × Str)) (X : Cx) : Prop where
  ex : ∃ c P, LamX.TabB X.base X.mg c P ∧ X.env.code = .ref c ∧ (P, X.env.qual ++ "<lambda>") ∈ T ∧ ∀ p ∈ T, p.1 = P → p.2 = X.env.qual ++ "<lambda>"
theorem ge_told {T : List (Addr × Str)} {X : Cx} {σ : St} {L : List SA} {K : GK} {N : List Str} {ks : List (Str × NameKind)} {x : Str} {cs : List (Str × Str)} {k : Nat} {params : Arguments} {body : Expr} {scope : Scope} {p lpos pos : Pos} (n : Nm X N ks) (h : Kd ks x .globalImplicit) (D : ToldAt X.K X.mg x cs) (LA : LamAt T X)
    (hr : Room (k + 2) X.A) (LS : LamX.LamS X.env.scope scope) (hdef : defaultsOf params X.env = ([], [])) (hbind : ∀ (q : Str) (cl : List (Str × Addr)) (pm cv ctv : Value), bindArgs (PySem.W.kla_fn "<lambda>" q params body scope cl pm cv ctv) ⟨[], []⟩ = pure []) (hd : dbg x = false) (nd : (scope.names.map (·.1)).Nodup)
    (hb : ∀ A outer s H E f c', Room k (LamX.lamCx X A outer s H E scope f c').A → Nm (LamX.lamCx X A outer s H E scope f c') N scope.names → Xok T (LamX.lamCx X A outer s H E scope f c') (fun cls _ L' => Catch X.K cs cls fun r => K (.str r) L') → GE T (LamX.lamCx X A outer s H E scope f c') body σ L K) :
    GE T X (.Call (.Name x p) [.Lambda params body scope lpos] [] pos) σ L K := by
  obtain ⟨fd, pg, bg, sg, Ng, a, h0, hds, p1, p2, p3, p8, F, hB, Sg, hNg, hva, ebg, th, hi, ha1, ha2⟩ := D.ex
  subst ebg
  obtain ⟨oc, od, dV, kV, doc, pm, an, cdv, ct, osl, rfl, lk, hcd, _, _⟩ := F.ex
  obtain ⟨c, P, TB, hcode, hmT, hu⟩ := LA.ex
  have hp := LamX.pe_lamcall (T := T) (t := fun E σ H Q => ∀ A outer s H0 f c', Room k (LamX.lamCx X A outer s H0 E scope f c').A → eW (LamX.lamCx X A outer s H0 E scope f c') body σ H Q) (p := p) (lpos := lpos) (pos := pos) (n.gl h) D.mgx F.kp lk hcd hB Sg hNg hva (told_givesM th D.cls hi) TB hcode hmT hu hr LS hdef hbind
    (fun A outer s H E f c' hr' => ⟨fun pins s' σ' H' Q I h' => h' A outer s H f c' hr' pins s' I⟩) (dbg1 hd) ha1 ha2
  refine GE.of hp fun H hs Q q => ⟨hs.tabs, fun H1 e1 t1 => ?_⟩
  intro A outer s H0 f c' hr'
  have hx : Xok T (LamX.lamCx X A outer s H0 (fun cls _ H' => Catch X.K cs cls fun r => Q (.str r) H') scope f c') (fun cls _ L' => Catch X.K cs cls fun r => K (.str r) L') :=
    ⟨fun cls d _ H => Catch X.K cs cls fun r => Q (.str r) H, takes_of rfl rfl rfl rfl, fun cls d σ L H k hs => k.imp fun r z => q _ _ _ z hs⟩
  exact hb A outer s H0 _ f c' hr' ⟨n.nn, rfl, n.nd, nd⟩ hx H1 (hs.extN e1 t1) Q q
end SW
set_option Elab.async false
set_option linter.all false
set_option maxRecDepth 100000
set_option maxHeartbeats 2000000
/-! Sw9: lists by operators and built-ins; stores by an operator; members. -/
namespace SW
open PySem PySem.Spec L2
open PyProof.Rows hiding St
section
variable {T : List (Addr × Str)} {X : Cx} {σ : St} {L L1 L' R' R2' : List SA} {K : GK} {D : EndsL} {p q : Addr} {α : Type} {R : PRep α} {x y v w : V} {N : List Str} {ks : List (Str × NameKind)}
/-! ### + and * of lists and tuples -/
theorem go_catL {xs ys : List V} (s : Sel L (pt p (.lst xs)) R') (s2 : Sel L (pt q (.lst ys)) R2') (hz : xs.length + ys.length ≤ sizeLine) (k : ∀ r, K (.ref r) (pt r (.lst (xs ++ ys)) :: L)) : GOp T X (binaryOp .Add) (.ref p) (.ref q) L K :=
  GOp.of op_cat fun H hs Q q' => ⟨p, q, xs, ys, rfl, rfl, hs.at s, hs.at s2, hz, fun r hr => q' _ _ _ (k r) (hs.new hr fun _ => nofun)⟩
theorem go_catR {ds es : List α} (s : Sel L (LstR R p ds) R') (s2 : Sel L (LstR R q es) R2') (hz : ds.length + es.length ≤ sizeLine) (k : ∀ r, K (.ref r) (LstR R r (ds ++ es) :: L)) : GOp T X (binaryOp .Add) (.ref p) (.ref q) L K :=
  GOp.of op_cat fun H hs Q q' => by
    obtain ⟨xs, e1, a1⟩ := hs.atR s
    obtain ⟨ys, e2, a2⟩ := hs.atR s2
    exact ⟨p, q, xs, ys, rfl, rfl, e1, e2, by rw [a1.length, a2.length]; exact hz, fun r hr => q' _ _ _ (k r) (hs.newR hr (a1.app a2))⟩
theorem go_rep {xs : List V} {i : Int} (s : Sel L (pt p (.lst xs)) R') (h0 : -(2 ^ 63) ≤ i) (h1 : i < 2 ^ 63) (hz : xs.length * i.toNat ≤ sizeLine) (k : ∀ r, K (.ref r) (pt r (.lst (List.replicate i.toNat xs).flatten) :: L)) : GOp T X (binaryOp .Mult) (.ref p) (.int i) L K :=
  GOp.of op_rep fun H hs Q q' => ⟨p, i, xs, rfl, rfl, hs.at s, h0, h1, hz, fun r hr => q' _ _ _ (k r) (hs.new hr fun _ => nofun)⟩
/-- t + u of tuples of data -/
theorem go_catT {ds es : List α} (r1 : Rv T L x (rTl R) ds) (r2 : Rv T L y (rTl R) es) (hz : ds.length + es.length ≤ sizeLine) (k : ∀ v, K v (Val (rTl R) v (ds ++ es) :: L)) : GOp T X (binaryOp .Add) x y L K := by
  refine GOp.of op_catA fun H hs Q q => ?_
  obtain ⟨a, xs, rfl, e1, a1⟩ := r1 H hs
  obtain ⟨b, ys, rfl, e2, a2⟩ := r2 H hs
  refine ⟨a, b, xs, ys, rfl, rfl, SqT.of e1, SqT.of e2, by rw [a1.length, a2.length]; exact hz, fun e => ?_, fun _ e => ?_, fun _ _ p hp => ?_⟩
  · subst e
    cases a1
    exact q _ _ _ (k _) (hs.addP Val.pers ⟨b, ys, rfl, e2, a2⟩)
  · subst e
    cases a2
    refine q _ _ _ (k _) (hs.addP Val.pers ⟨a, xs, rfl, e1, by rw [List.append_nil]; exact a1⟩)
  · have h2 : Hs T (pt p (.tup (xs ++ ys)) :: L) (upd H p (.tup (xs ++ ys))) := hs.new hp fun _ => nofun
    refine q _ _ _ (k _) (h2.tail.addP Val.pers ⟨p, xs ++ ys, rfl, upd_same, (a1.app a2).mono fun b zs eb => ?_⟩)
    rw [upd_ne (ne_of_none eb hp)]; exact eb
/-! ### members -/
theorem inV_int (i : Int) : ∀ ns : List Int, inV (.int i) (ns.map V.int) = decide (i ∈ ns)
  | [] => by simp [inV]
  | n :: ns => by
    have ih := inV_int i ns
    unfold inV at ih ⊢
    rw [List.map_cons, List.any_cons, ih]
    by_cases h : n = i
    · subst h; simp [eqV]
    · have h' : i ≠ n := fun z => h z.symm
      simp [eqV, h, h', List.mem_cons]
theorem inV_str (i : Str) : ∀ ns : List Str, inV (.str i) (ns.map V.str) = decide (i ∈ ns)
  | [] => by simp [inV]
  | n :: ns => by
    have ih := inV_str i ns
    unfold inV at ih ⊢
    rw [List.map_cons, List.any_cons, ih]
    by_cases h : n = i
    · subst h; simp [eqV]
    · have h' : i ≠ n := fun z => h z.symm
      simp [eqV, h, h', List.mem_cons]
theorem all_flat {β : Type} {f : β → V} (h : ∀ b, flatV (f b) = true) (ns : List β) : (ns.map f).all flatV = true := by
  simp [List.all_eq_true, h]
theorem go_inI {i : Int} {ns : List Int} (s : Sel L (pt p (.lst (ns.map V.int))) R') (k : K (.bl (decide (i ∈ ns))) L) : GOp T X (compareOp .In) (.int i) (.ref p) L K :=
  GOp.of op_in_seq fun H hs Q q => ⟨p, _, rfl, .inl (SqL.of (hs.at s)), rfl, all_flat (fun _ => rfl) ns, q _ _ _ (by rw [if_neg Bool.false_ne_true, inV_int]; exact k) hs⟩
theorem go_ninI {i : Int} {ns : List Int} (s : Sel L (pt p (.lst (ns.map V.int))) R') (k : K (.bl (!decide (i ∈ ns))) L) : GOp T X (compareOp .NotIn) (.int i) (.ref p) L K :=
  GOp.of op_notIn_seq fun H hs Q q => ⟨p, _, rfl, .inl (SqL.of (hs.at s)), rfl, all_flat (fun _ => rfl) ns, q _ _ _ (by rw [if_pos rfl, inV_int]; exact k) hs⟩
theorem go_inT {i : Str} {ns : List Str} (s : Sel L (pt p (.lst (ns.map V.str))) R') (k : K (.bl (decide (i ∈ ns))) L) : GOp T X (compareOp .In) (.str i) (.ref p) L K :=
  GOp.of op_in_seq fun H hs Q q => ⟨p, _, rfl, .inl (SqL.of (hs.at s)), rfl, all_flat (fun _ => rfl) ns, q _ _ _ (by rw [if_neg Bool.false_ne_true, inV_str]; exact k) hs⟩
theorem go_ninT {i : Str} {ns : List Str} (s : Sel L (pt p (.lst (ns.map V.str))) R') (k : K (.bl (!decide (i ∈ ns))) L) : GOp T X (compareOp .NotIn) (.str i) (.ref p) L K :=
  GOp.of op_notIn_seq fun H hs Q q => ⟨p, _, rfl, .inl (SqL.of (hs.at s)), rfl, all_flat (fun _ => rfl) ns, q _ _ _ (by rw [if_pos rfl, inV_str]; exact k) hs⟩
theorem any_mem {α : Type} {R : PRep α} [DecidableEq α] (d : α) : ∀ ds : List α, ((ds.map R.enc).any fun z => PyData.eqv z (R.enc d)) = decide (d ∈ ds)
  | [] => by simp
  | e :: ds => by
    rw [List.map_cons, List.any_cons, any_mem d ds, eqv_enc]
    by_cases h : e = d
    · subst h; simp
    · have h' : d ≠ e := fun z => h z.symm
      simp [h, h', List.mem_cons]
theorem go_inR {d : α} {ds : List α} [DecidableEq α] {k : Nat} (hr : Room k X.A) (r : Rv T L x R d) (s : Sel L (LstR R p ds) R') (n : R.dep ≤ 63) (q : K (.bl (decide (d ∈ ds))) L) : GOp T X (compareOp .In) x (.ref p) L K :=
  GOp.of (op_inD (by have := hr.un; omega)) fun H hs Q q' => by
    have h1 := sees_rv (KK := X.K) r (Nat.le_succ_of_le n) H hs
    have h2 := sees_lst (KK := X.K) s n H hs
    exact ⟨_, _, h1.1, h2.1, h1.2, h2.2, q' _ _ _ (by rw [any_mem]; exact q) hs⟩
theorem go_ninR {d : α} {ds : List α} [DecidableEq α] {k : Nat} (hr : Room k X.A) (r : Rv T L x R d) (s : Sel L (LstR R p ds) R') (n : R.dep ≤ 63) (q : K (.bl (!decide (d ∈ ds))) L) : GOp T X (compareOp .NotIn) x (.ref p) L K :=
  GOp.of (op_notInD (by have := hr.un; omega)) fun H hs Q q' => by
    have h1 := sees_rv (KK := X.K) r (Nat.le_succ_of_le n) H hs
    have h2 := sees_lst (KK := X.K) s n H hs
    exact ⟨_, _, h1.1, h2.1, h1.2, h2.2, q' _ _ _ (by rw [any_mem]; exact q) hs⟩
/-! ### built-ins -/
theorem gc_max2 {i j : Int} (hc : X.calm = true) (k : K (.int (if j > i then j else i)) L) : GC T X (.builtin "max") [.int i, .int j] L K := GC.of (call_max2 hc) fun H hs Q q => ⟨i, j, rfl, q _ _ _ k hs⟩
theorem gc_min2 {i j : Int} (hc : X.calm = true) (k : K (.int (if j < i then j else i)) L) : GC T X (.builtin "min") [.int i, .int j] L K := GC.of (call_min2 hc) fun H hs Q q => ⟨i, j, rfl, q _ _ _ k hs⟩
theorem gc_sum {ns : List Int} (hc : X.calm = true) (s : Sel L (pt p (.lst (ns.map V.int))) R') (k : K (.int ns.sum) L) : GC T X (.builtin "sum") [.ref p] L K := GC.of (cr_sum hc) fun H hs Q q => ⟨p, ns, rfl, SqL.of (hs.at s), q _ _ _ k hs⟩
theorem gc_maxL {ns : List Int} (hc : X.calm = true) (s : Sel L (pt p (.lst (ns.map V.int))) R') (h0 : ns ≠ []) (k : ∀ m, m ∈ ns → (∀ y, y ∈ ns → y ≤ m) → K (.int m) L) : GC T X (.builtin "max") [.ref p] L K :=
  GC.of (cr_max hc) fun H hs Q q => ⟨p, ns, rfl, SqL.of (hs.at s), List.length_pos_iff.mpr h0, fun m h1 h2 => q _ _ _ (k m h1 h2) hs⟩
theorem gc_minL {ns : List Int} (hc : X.calm = true) (s : Sel L (pt p (.lst (ns.map V.int))) R') (h0 : ns ≠ []) (k : ∀ m, m ∈ ns → (∀ y, y ∈ ns → m ≤ y) → K (.int m) L) : GC T X (.builtin "min") [.ref p] L K :=
  GC.of (cr_min hc) fun H hs Q q => ⟨p, ns, rfl, SqL.of (hs.at s), List.length_pos_iff.mpr h0, fun m h1 h2 => q _ _ _ (k m h1 h2) hs⟩
theorem gc_strI {i : Int} (h : i.natAbs.log2 < 1920) (k : K (.str (toString i)) L) : GC T X (.type "str") [.int i] L K := GC.of call_str_int fun H hs Q q => ⟨i, rfl, h, q _ _ _ k hs⟩
theorem gc_list {xs : List V} (s : Sel L (pt p (.lst xs)) R') (k : ∀ r, K (.ref r) (pt r (.lst xs) :: L)) : GC T X (.type "list") [.ref p] L K :=
  GC.of call_list_of fun H hs Q q => ⟨p, xs, rfl, .inl (SqL.of (hs.at s)), fun r hr => q _ _ _ (k r) (hs.new hr fun _ => nofun)⟩
theorem gc_listR {ds : List α} (s : Sel L (LstR R p ds) R') (k : ∀ r, K (.ref r) (LstR R r ds :: L)) : GC T X (.type "list") [.ref p] L K :=
  GC.of call_list_of fun H hs Q q => by
    obtain ⟨xs, e1, a1⟩ := hs.atR s
    exact ⟨p, xs, rfl, .inl (SqL.of e1), fun r hr => q _ _ _ (k r) (hs.newR hr a1)⟩
theorem gc_listT {ds : List α} (r : Rv T L x (rTl R) ds) (k : ∀ r, K (.ref r) (LstR R r ds :: L)) : GC T X (.type "list") [x] L K :=
  GC.of call_list_of fun H hs Q q => by
    obtain ⟨a, xs, rfl, e1, a1⟩ := r H hs
    exact ⟨a, xs, rfl, .inr (SqT.of e1), fun r hr => q _ _ _ (k r) (hs.newR hr a1)⟩
theorem gc_tuple {xs : List V} (s : Sel L (pt p (.lst xs)) R') (k : ∀ r, K (.ref r) (pt r (.tup xs) :: L)) : GC T X (.type "tuple") [.ref p] L K :=
  GC.of call_tuple_of fun H hs Q q => ⟨p, xs, rfl, .inl ⟨SqL.of (hs.at s), fun r hr => q _ _ _ (k r) (hs.new hr fun _ => nofun)⟩⟩
theorem gc_tupleR {ds : List α} (s : Sel L (LstR R p ds) R') (k : ∀ v, K v (Val (rTl R) v ds :: L)) : GC T X (.type "tuple") [.ref p] L K :=
  GC.of call_tuple_of fun H hs Q q => by
    obtain ⟨xs, e1, a1⟩ := hs.atR s
    refine ⟨p, xs, rfl, .inl ⟨SqL.of e1, fun r hr => q _ _ _ (k _) ?_⟩⟩
    have h2 : Hs T (pt r (.tup xs) :: L) (upd H r (.tup xs)) := hs.new hr fun _ => nofun
    refine h2.tail.addP Val.pers ⟨r, xs, rfl, upd_same, a1.mono fun b zs eb => ?_⟩
    rw [upd_ne (ne_of_none eb hr)]; exact eb
theorem gc_tupleT {ds : List α} (r : Rv T L x (rTl R) ds) (k : K x L) : GC T X (.type "tuple") [x] L K :=
  GC.of call_tuple_of fun H hs Q q => by
    obtain ⟨a, xs, rfl, e1, a1⟩ := r H hs
    exact ⟨a, xs, rfl, .inr ⟨SqT.of e1, q _ _ _ k hs⟩⟩
theorem gc_lenR {ds : List α} (s : Sel L (LstR R p ds) R') (k : K (.int ds.length) L) : GC T X (.builtin "len") [.ref p] L K :=
  GC.of call_len_seq fun H hs Q q => by
    obtain ⟨xs, e1, a1⟩ := hs.atR s
    exact ⟨p, xs, rfl, .inl (SqL.of e1), by rw [a1.length]; exact q _ _ _ k hs⟩
theorem gc_lenTl {ds : List α} (r : Rv T L x (rTl R) ds) (k : K (.int ds.length) L) : GC T X (.builtin "len") [x] L K :=
  GC.of call_len_seq fun H hs Q q => by
    obtain ⟨a, xs, rfl, e1, a1⟩ := r H hs
    exact ⟨a, xs, rfl, .inr (SqT.of e1), by rw [a1.length]; exact q _ _ _ k hs⟩
/-! ### ranges as values -/
theorem call_rng1 : CallR X (.type "range") (fun vs H Q => ∃ j, vs = [V.int j] ∧ ∀ p, H p = none → Q (.ref p) (upd H p (.rng 0 j))) := by
  intro pins s σ H vs us Q I r h
  obtain ⟨j, rfl, q⟩ := h
  obtain ⟨u, rfl, ri⟩ := Vals.one r
  obtain ⟨t, rfl⟩ := ri
  refine PySem.call_range_1 ⟨.ref s.heap.objs.size, upd H s.heap.objs.size (.rng 0 j), I.laid (t' := s.toks + 1 + 1) (fun b o e => Heap.get?_push_of_some _ e) (Nat.le_refl _) ?_, rfl, q _ (I.hok.fresh (Nat.le_refl _))⟩
  exact ⟨s.toks, t, s.toks + 1, Heap.get?_push_size _ rfl⟩
theorem gc_rng1 {j : Int} (k : ∀ r, K (.ref r) (pt r (.rng 0 j) :: L)) : GC T X (.type "range") [.int j] L K := GC.of call_rng1 fun H hs Q q => ⟨j, rfl, fun r hr => q _ _ _ (k r) (hs.new hr fun _ => nofun)⟩
theorem gc_rng2 {i j : Int} (k : ∀ r, K (.ref r) (pt r (.rng i j) :: L)) : GC T X (.type "range") [.int i, .int j] L K := GC.of cr_range2 fun H hs Q q => ⟨i, j, rfl, fun r hr => q _ _ _ (k r) (hs.new hr fun _ => nofun)⟩
def rngL (i j : Int) : List Int := (List.range (j - i).toNat).map fun k => i + (k : Nat)
theorem vals_rng {i : Int} {n : Nat} {acc : List Value} (hl : acc.length = n) (h : ∀ (j : Nat) (v : Value), acc[j]? = some v → ∃ t, v = Value.int (i + j * 1) t) : Vals ((List.range n).map fun k => V.int (i + (k : Nat))) acc := by
  refine vals_of_at (by simp [hl]) fun j x u h1 h2 => ?_
  obtain ⟨t, rfl⟩ := h j u h2
  rw [List.getElem?_map] at h1
  by_cases hj : j < n
  · rw [List.getElem?_range hj] at h1
    cases h1
    exact ⟨t, by rw [Int.mul_one]⟩
  · rw [List.getElem?_eq_none (by simpa using hj)] at h1; cases h1
theorem call_list_rng (hc : X.calm = true) : CallR X (.type "list") (fun xs H Q => ∃ p i j, xs = [V.ref p] ∧ H p = some (.rng i j) ∧ -(2 ^ 62) ≤ i ∧ i < 2 ^ 62 ∧ -(2 ^ 62) ≤ j ∧ j < 2 ^ 62 ∧ (j - i).toNat ≤ 2 ^ 24 ∧ (j - i).toNat ≤ sizeLine ∧ ∀ l, H l = none → Q (.ref l) (upd H l (.lst ((rngL i j).map V.int)))) := by
  intro pins s σ H xs us Q I r h
  obtain ⟨p, i, j, rfl, hp, h1, h2, h3, h4, h5, hz, q⟩ := h
  obtain ⟨u, rfl, rx⟩ := Vals.one r
  obtain rfl : u = Value.ref p := rx
  obtain ⟨t1, t2, t3, ho⟩ := I.hok p _ hp
  refine PySem.call_list_range (n := (j - i).toNat) (I.ok.hd hc) ho (small_one h1 h2 h3 h4) (rangeSize_nat i j) h5 fun h' tk acc' c' kp e hacc => ?_
  refine ⟨.ref s.heap.objs.size, _, I.laid (t' := tk) kp (Nat.le_refl _) (show ObjOk X.prog X.w _ h' _ (.lst ((rngL i j).map V.int)) from ⟨?_, acc'.toList, c', ?_, by simpa using e⟩), rfl, q _ (I.hok.fresh (Nat.le_refl _))⟩
  · rw [List.length_map]; unfold rngL; rw [List.length_map, List.length_range]; exact hz
  · unfold rngL
    rw [List.map_map]
    exact vals_rng (by rw [Array.length_toList]; exact hacc.1) fun m v hm => hacc.2 m v (by simpa using hm)
theorem gc_listRng {i j : Int} (hc : X.calm = true) (s : Sel L (pt p (.rng i j)) R') (h1 : -(2 ^ 62) ≤ i) (h2 : i < 2 ^ 62) (h3 : -(2 ^ 62) ≤ j) (h4 : j < 2 ^ 62) (h5 : (j - i).toNat ≤ 2 ^ 24) (hz : (j - i).toNat ≤ sizeLine) (k : ∀ r, K (.ref r) (pt r (.lst ((rngL i j).map V.int)) :: L)) :
    GC T X (.type "list") [.ref p] L K := GC.of (call_list_rng hc) fun H hs Q q => ⟨p, i, j, rfl, hs.at s, h1, h2, h3, h4, h5, hz, fun r hr => q _ _ _ (k r) (hs.new hr fun _ => nofun)⟩
/-! ### stores by an operator -/
def GIp (T : List (Addr × Str)) (X : Cx) (op : Operator) (x y : V) (L : List SA) (K : GK) : Prop := ∀ H, Hs T L H → ∀ Q : VK, (∀ v L' H', K v L' → Hs T L' H' → Q v H') → ∀ pins s σ v u, Inv X pins σ H s → RelV x v → RelV y u → wpAny (model X.prog X.w) X.A (inplaceOp op v u) (EP X pins σ Q) X.xe s
def ipW (X : Cx) (op : Operator) : TIp := fun x y H Q => ∀ pins s σ v u, Inv X pins σ H s → RelV x v → RelV y u → wpAny (model X.prog X.w) X.A (inplaceOp op v u) (EP X pins σ Q) X.xe s
theorem ipWr {op : Operator} : PIp X op (ipW X op) := fun pins s σ H x y v u Q I r1 r2 h => h pins s σ v u I r1 r2
theorem GIp.of {op : Operator} {r : TIp} (hp : PIp X op r) (w : WR2 T r x y L K) : GIp T X op x y L K := fun H hs Q q pins s σ v u I r1 r2 => hp pins s σ H x y v u Q I r1 r2 (w H hs Q q)
theorem gip_add {i j : Int} (k : K (.int (i + j)) L) : GIp T X .Add (.int i) (.int j) L K := GIp.of ip_add (wr_I0 k)
theorem gip_sub {i j : Int} (k : K (.int (i - j)) L) : GIp T X .Sub (.int i) (.int j) L K := GIp.of ip_sub (wr_I0 k)
theorem gip_addS {i j : Str} (hz : i.length + j.length ≤ sizeLine) (k : K (.str (i ++ j)) L) : GIp T X .Add (.str i) (.str j) L K := GIp.of iop_add_str fun H hs Q q => ⟨i, j, rfl, rfl, hz, q _ _ _ k hs⟩
theorem gs_aug {n : Str} {e : Expr} {op : Operator} {pos pos' : Pos} {kd : NameKind} {f : V → St} (nm : Nm X N ks) (a : At N σ n x) (s : Slot N σ n f) (h : Kd ks n kd) (lk : Lk kd) (hf : kd = .local ∨ X.fn n = true)
    (g : GE T X e σ L fun y L1 => GIp T X op x y L1 fun z L2 => D.nx (f z) L2) : GS T X (.AugAssign (.Name n pos') op e pos) D σ L := by
  obtain ⟨i, h1, h2⟩ := s.ix
  obtain ⟨j, h3, h4⟩ := a.ix
  have hij : i = j := by
    have hi : i < N.length := by
      by_cases c : i < N.length
      · exact c
      · rw [List.getElem?_eq_none (by omega)] at h1; cases h1
    exact (List.getElem?_inj hi nm.nd).mp (by rw [h1, h3])
  subst hij
  refine GS.of (ps_aug (i := i) (by rw [nm.nn]; exact nm.nd) (by rw [nm.nn]; exact h1) (nm.loc h lk) peW ipWr ?_) fun H hs D0 l => ⟨x, h4, g H hs _ fun y L1 H1 k1 h1 => k1 H1 h1 _ fun z L2 H2 k2 h2' => l.nx _ _ _ (by rw [← h2]; exact k2) h2'⟩
  rcases hf with rfl | hf
  · exact .inr (nm.look h)
  · exact .inl hf
/-- e.f op= value: the field is read, the value reckoned, the field stored -/
def GFA (T : List (Addr × Str)) (X : Cx) (o : V) (f : Str) (value : Expr) (op : Operator) (σ : St) (L : List SA) (N : List SA → Prop) : Prop := ∃ a C dx fs v R, o = .ref a ∧ Sel L (pt a (.ins C dx fs)) R ∧ Cls X.K C ∧ NoAttr X.K C f ∧ fs.lookup f = some v ∧
  GE T X value σ L fun y L1 => GIp T X op v y L1 fun z L2 => ∃ dx' fs' L', Rpl L2 (pt a (.ins C dx' fs')) (pt a (.ins C dx' (putF f z fs'))) L' ∧ fs'.length < 1000 ∧ N L'
theorem gs_fldaug {o value : Expr} {f : Str} {op : Operator} {tpos pos : Pos} (h : GE T X o σ L fun x L1 => GFA T X x f value op σ L1 (D.nx σ)) : GS T X (.AugAssign (.Attribute o f tpos) op value pos) D σ L :=
  GS.of (ps_fldaug peW peW (rd := ipW X op) (fun pins s σ H x y u v Q I r1 r2 h => h pins s σ u v I r1 r2)) fun H hs D0 l => h H hs _ fun x L1 H1 ⟨a, C, dx, fs, v, R, ex, s, c, na, lk, g⟩ h1 =>
    ⟨a, C, dx, fs, v, ex, h1.at s, c, na, lk, g H1 h1 _ fun y L2 H2 k2 h2 => k2 H2 h2 _ fun z L3 H3 ⟨dx', fs', L', r, hl, n⟩ h3 => by
      obtain ⟨R3, s3⟩ := r.sel
      exact ⟨dx', fs', h3.at s3, hl, l.nx _ _ _ n (h3.rpl r True.intro fun _ => nofun)⟩⟩
/-- xs[i] by values -/
def rGetL : V → V → Hp → VK → Prop := fun o i H Q => ∃ p xs k z, o = .ref p ∧ i = .int k ∧ H p = some (.lst xs) ∧ atI xs k = some z ∧ Q z H
theorem get_list : PGet X rGetL := by
  intro pins s σ H o i ov iv Q I ro ri h
  obtain ⟨p, xs, k, z, rfl, rfl, hp, he, q⟩ := h
  obtain rfl : ov = Value.ref p := ro
  obtain ⟨t, rfl⟩ := ri
  obtain ⟨its, r, pl, hz⟩ := I.list (SqL.of hp)
  obtain ⟨j, h1, h2, h3, h4, h5⟩ := atI_get he
  obtain ⟨w, ew, rw'⟩ := r.get h2
  have hl := r.length
  have hn := line63
  have fin : EP X pins σ Q w s := ⟨z, H, I, rw', q⟩
  by_cases h0 : 0 ≤ k
  · have hj : k.toNat = j := by
      rw [seqIndex_of h0 h5] at h1
      exact Option.some.inj h1
    exact wpAny_getItem_list pl.isList h0 (by omega) (by rw [hj]; simpa using ew) fin
  · have hj : (k + (its.toArray.size : Int)).toNat = j := by
      rw [seqIndex_neg (by omega) h4] at h1
      rw [List.size_toArray, ← hl]
      exact Option.some.inj h1
    exact wpAny_getItem_list_neg pl.isList (by omega) (by rw [List.size_toArray] <;> omega) (by omega) (by rw [hj]; simpa using ew) fin
def GAS (T : List (Addr × Str)) (X : Cx) (o i : V) (value : Expr) (op : Operator) (σ : St) (L : List SA) (N : List SA → Prop) : Prop := ∃ p xs k z R, o = .ref p ∧ i = .int k ∧ Sel L (pt p (.lst xs)) R ∧ atI xs k = some z ∧
  GE T X value σ L fun y L1 => GIp T X op z y L1 fun u L2 => GPutL o i u L2 N
theorem gs_augS {o i value : Expr} {op : Operator} {tpos pos : Pos} (ha : ∀ ov iv new, augStore i ov iv new = (do holding [new, ov, iv] (setItem ov iv new); release [new, ov, iv] []; pure .next))
    (h : GE T X o σ L fun ov L1 => GE T X i σ L1 fun iv L2 => GAS T X ov iv value op σ L2 (D.nx σ)) : GS T X (.AugAssign (.Subscript o i tpos) op value pos) D σ L :=
  GS.of (ps_augS peW peW get_list peW ipWr set_list ha) fun H hs D0 l => h H hs _ fun ov L1 H1 k1 h1 => k1 H1 h1 _ fun iv L2 H2 ⟨p, xs, k, z, R, e1, e2, s, e3, g⟩ h2 =>
    ⟨p, xs, k, z, e1, e2, h2.at s, e3, g H2 h2 _ fun y L3 H3 k3 h3 => k3 H3 h3 _ fun u L4 H4 ⟨p', xs', k', ys, L', e4, e5, r, ⟨j, e6, e7⟩, n⟩ h4 => by
      obtain ⟨R4, s4⟩ := r.sel
      subst e7
      exact ⟨p', xs', k', j, e4, e5, h4.at s4, e6, l.nx _ _ _ n (h4.rpl r True.intro fun _ => nofun)⟩⟩
/-! ### remove, of a list of ints -/
theorem erase_at (i : Int) : ∀ (ns : List Int), i ∈ ns → ∃ j : Nat, ns[j]? = some i ∧ (∀ m : Nat, m < j → ns[m]? ≠ some i) ∧ ns.eraseIdx j = ns.erase i
  | [], h => by cases h
  | n :: ns, h => by
    by_cases e : n = i
    · subst e
      exact ⟨0, rfl, fun m hm => by omega, by simp⟩
    · have h' : i ∈ ns := by
        rcases List.mem_cons.mp h with z | z
        · exact absurd z.symm e
        · exact z
      obtain ⟨j, h1, h2, h3⟩ := erase_at i ns h'
      refine ⟨j + 1, by simpa using h1, fun m hm => ?_, ?_⟩
      · cases m with
        | zero => simp [e]
        | succ m => simpa using h2 m (by omega)
      · rw [List.eraseIdx_cons_succ, h3, List.erase_cons_tail (by simpa using e)]
def GRem (T : List (Addr × Str)) (p : Addr) (i : Int) (L : List SA) (N : List SA → Prop) : Prop := ∃ (ns : List Int) (L' : List SA), Rpl L (pt p (.lst (ns.map V.int))) (pt p (.lst ((ns.erase i).map V.int))) L' ∧ i ∈ ns ∧ N L'
theorem ge_remove {o e : Expr} {apos cpos : Pos} (hbase : attributeBase o "remove" X.env (eval o X.env) = eval o X.env) (hfew : ((backTo cpos (starEach [e] X.env)).all (fun x => !x.1) && (backToKw cpos (keywordEach [] X.env)).all (fun x => x.1.isSome)
      && decide (([e] : List Expr).length + ([] : List Keyword).length + (if ([] : List Keyword).isEmpty then 0 else 1) < 30)) = true) (hline : (apos.endLine == cpos.line) = true) (hs : starEach [e] X.env = (false, eval e X.env) :: starEach [] X.env) (hplain : (backTo cpos (starEach [] X.env)).any (·.1) = false)
    (h : GE T X o σ L fun v L1 => ∃ p, v = .ref p ∧ HasL T L1 p ∧ GE T X e σ L1 fun y L2 => ∃ i, y = .int i ∧ GRem T p i L2 (K .non)) : GE T X (.Call (.Attribute o "remove" apos) [e] [] cpos) σ L K :=
  GE.of (pe_bm PySem.F.plainAttrs_list PySem.F.slot_list_remove PySem.F.type_list_remove mt_remove peW (pa_cons peW pa_nil hs) hbase hfew hline hs hplain) fun H hh Q q => h H hh _ fun v L1 H1 ⟨p, ev, hp, k1⟩ h1 => by
    subst ev
    obtain ⟨xs, e1⟩ := hp H1 h1
    refine ⟨.inl ⟨rfl, xs, SqL.of e1⟩, k1 H1 h1 _ fun y L2 H2 ⟨i, ey, ns, L', r, hm, n⟩ h2 => ?_⟩
    subst ey
    obtain ⟨R2, s2⟩ := r.sel
    obtain ⟨j, j1, j2, j3⟩ := erase_at i ns hm
    exact ⟨p, ns, i, j, rfl, rfl, h2.at s2, j1, j2, q _ _ _ n (by rw [j3]; exact h2.rpl r True.intro fun _ => nofun)⟩
end
end SW
set_option Elab.async false
set_option linter.all false
set_option maxRecDepth 100000
set_option maxHeartbeats 2000000
/-! Sw10: fields, by search. -/
namespace SW
open PySem PySem.Spec L2
open PyProof.Rows hiding St
inductive PutF : Str → V → List (Str × V) → List (Str × V) → Prop
  | nil {f : Str} {y : V} : PutF f y [] [(f, y)]
  | here {f : Str} {y x : V} {r : List (Str × V)} : PutF f y ((f, x) :: r) ((f, y) :: r)
  | there {f g : Str} {y x : V} {r r' : List (Str × V)} (h : decide (g = f) = false) (t : PutF f y r r') : PutF f y ((g, x) :: r) ((g, x) :: r')
theorem PutF.eq {f : Str} {y : V} {fs fs' : List (Str × V)} (h : PutF f y fs fs') : fs' = putF f y fs := by
  induction h with
  | nil => rfl
  | here => unfold putF; rw [if_pos rfl]
  | there h _ ih => unfold putF; rw [if_neg (of_decide_eq_false h), ← ih]
inductive LkF : List (Str × V) → Str → V → Prop
  | here {f : Str} {x : V} {r : List (Str × V)} : LkF ((f, x) :: r) f x
  | there {f g : Str} {x v : V} {r : List (Str × V)} (h : decide (g = f) = false) (t : LkF r f v) : LkF ((g, x) :: r) f v
theorem LkF.eq {f : Str} {v : V} {fs : List (Str × V)} (h : LkF fs f v) : fs.lookup f = some v := by
  induction h with
  | here => rw [List.lookup_cons, beq_self_eq_true]
  | @there f g x v r h _ ih =>
    have : (f == g) = false := beq_eq_false_iff_ne.mpr fun z => of_decide_eq_false h z.symm
    rw [List.lookup_cons, this]; exact ih
inductive NoF : List (Str × V) → Str → Prop
  | nil {f : Str} : NoF [] f
  | cons {f g : Str} {x : V} {r : List (Str × V)} (h : decide (g = f) = false) (t : NoF r f) : NoF ((g, x) :: r) f
theorem NoF.eq {f : Str} {fs : List (Str × V)} (h : NoF fs f) : fs.lookup f = none := by
  induction h with
  | nil => rfl
  | @cons f g x r h _ ih =>
    have : (f == g) = false := beq_eq_false_iff_ne.mpr fun z => of_decide_eq_false h z.symm
    rw [List.lookup_cons, this]; exact ih
section
variable {T : List (Addr × Str)} {X : Cx} {σ : St} {L L' R' : List SA} {K : GK} {KK : PySem.W.Frag} {a C dx : Addr} {fs fs' : List (Str × V)} {f : Str} {v y z : V} {N : List SA → Prop}
theorem gf (s : Sel L (pt a (.ins C dx fs)) R') (l : LkF fs f v) (c : Cls KK C) (n : NoAttr KK C f) (k : K v L) : GF T KK (.ref a) f L K := ⟨a, C, dx, fs, v, R', rfl, s, c, n, l.eq, k⟩
theorem gfs (r : Rpl L (pt a (.ins C dx fs)) (pt a (.ins C dx fs')) L') (e : PutF f y fs fs') (c : Cls KK C) (n : NoAttr KK C f) (hz : fs.length < 1000) (k : N L') : GFS KK (.ref a) f y L N := ⟨a, C, dx, fs, L', rfl, by rw [← e.eq]; exact r, c, n, hz, k⟩
theorem gfa {value : Expr} {op : Operator} (s : Sel L (pt a (.ins C dx fs)) R') (l : LkF fs f v) (c : Cls X.K C) (n : NoAttr X.K C f)
    (g : GE T X value σ L fun y L1 => GIp T X op v y L1 fun z L2 => ∃ dx' fs' L', Rpl L2 (pt a (.ins C dx' fs')) (pt a (.ins C dx' (putF f z fs'))) L' ∧ fs'.length < 1000 ∧ N L') : GFA T X (.ref a) f value op σ L N := ⟨a, C, dx, fs, v, R', rfl, s, c, n, l.eq, g⟩
theorem gfaE (r : Rpl L (pt a (.ins C dx fs)) (pt a (.ins C dx fs')) L') (e : PutF f z fs fs') (hz : fs.length < 1000) (k : N L') : ∃ dx' fs' L', Rpl L (pt a (.ins C dx' fs')) (pt a (.ins C dx' (putF f z fs'))) L' ∧ fs'.length < 1000 ∧ N L' := ⟨dx, fs, L', by rw [← e.eq]; exact r, hz, k⟩
theorem isIns {C C' a : Addr} {m : Str} (s : Sel L (pt a (.ins C' dx fs)) R') (l : NoF fs m) (e : C' = C) : IsIns T C (.ref a) m L := ⟨a, rfl, fun H h => ⟨dx, fs, by rw [← e]; exact h.at s, l.eq⟩⟩
theorem gas {p : Addr} {xs : List V} {k : Int} {value : Expr} {op : Operator} (s : Sel L (pt p (.lst xs)) R') (e : atI xs k = some z) (g : GE T X value σ L fun y L1 => GIp T X op z y L1 fun u L2 => GPutL (.ref p) (.int k) u L2 N) : GAS T X (.ref p) (.int k) value op σ L N := ⟨p, xs, k, z, R', rfl, rfl, s, e, g⟩
end
/-! ### blocks of comprehensions -/
theorem Nm.ndN {X : Cx} {N : List Str} {ks : List (Str × NameKind)} (n : Nm X N ks) : X.N.Nodup := by rw [n.nn]; exact n.nd
theorem nm_blk {X : Cx} {N : List Str} {ks kc : List (Str × NameKind)} {scope : Scope} {s : Shared} {H : Hp} {C : Addr} {cl : List (Str × Addr)} {fp : List Addr} (n : Nm X N ks) (h : (relS scope X.env.scope).names = kc) (nd : (kc.map (·.1)).Nodup) : Nm (blkX X s H scope C cl fp) N kc := ⟨n.nn, h, n.nd, nd⟩
section
variable {X : Cx} {N : List Str} {ks kc : List (Str × NameKind)} {scope : Scope} {s : Shared} {H : Hp} {C : Addr} {cl : List (Str × Addr)} {fp : List Addr} {T : List (Addr × Str)} {σ : St} {L : List SA}
theorem gg_blk {tg : Expr} {v : V} {K : St → List SA → Prop} (n : Nm X N ks) (h : (relS scope X.env.scope).names = kc) (nd : (kc.map (·.1)).Nodup) (k : Nm (blkX X s H scope C cl fp) N kc → GG T (blkX X s H scope C cl fp) tg v σ L K) : GG T (blkX X s H scope C cl fp) tg v σ L K := k (nm_blk n h nd)
theorem gts_blk {ifs : List Expr} {K : Bool → List SA → Prop} (n : Nm X N ks) (h : (relS scope X.env.scope).names = kc) (nd : (kc.map (·.1)).Nodup) (k : Nm (blkX X s H scope C cl fp) N kc → GTs T (blkX X s H scope C cl fp) ifs σ L K) : GTs T (blkX X s H scope C cl fp) ifs σ L K := k (nm_blk n h nd)
theorem ge_blk {e : Expr} {K : GK} (n : Nm X N ks) (h : (relS scope X.env.scope).names = kc) (nd : (kc.map (·.1)).Nodup) (k : Nm (blkX X s H scope C cl fp) N kc → GE T (blkX X s H scope C cl fp) e σ L K) : GE T (blkX X s H scope C cl fp) e σ L K := k (nm_blk n h nd)
end
theorem ite_nI {i : Int} {A B : Prop} (h : B) : if decide (V.int i = V.non) = true then A else B := by rw [decide_eq_false (fun z => by cases z), if_neg Bool.false_ne_true]; exact h
theorem ite_nN {A B : Prop} (h : A) : if decide (V.non = V.non) = true then A else B := by rw [decide_eq_true rfl, if_pos rfl]; exact h
theorem ite_nnI {i : Int} {A B : Prop} (h : A) : if (!decide (V.int i = V.non)) = true then A else B := by rw [decide_eq_false (fun z => by cases z)]; exact h
theorem ite_nnN {A B : Prop} (h : B) : if (!decide (V.non = V.non)) = true then A else B := by rw [decide_eq_true rfl]; exact h
theorem ite_nR {i : Addr} {A B : Prop} (h : B) : if decide (V.ref i = V.non) = true then A else B := by rw [decide_eq_false (fun z => by cases z), if_neg Bool.false_ne_true]; exact h
theorem ite_nnR {i : Addr} {A B : Prop} (h : A) : if (!decide (V.ref i = V.non)) = true then A else B := by rw [decide_eq_false (fun z => by cases z)]; exact h
theorem grem {T : List (Addr × Str)} {p : Addr} {i : Int} {L L' : List SA} {N : List SA → Prop} {ns : List Int} (r : Rpl L (pt p (.lst (ns.map V.int))) (pt p (.lst ((ns.erase i).map V.int))) L') (hm : i ∈ ns) (k : N L') : GRem T p i L N := ⟨ns, L', r, hm, k⟩
theorem ite_nb {b : Bool} {A B : Prop} (h1 : b = false → A) (h2 : b = true → B) : if (!b) = true then A else B := by
  cases b with
  | false => exact h1 rfl
  | true => exact h2 rfl
end SW
set_option Elab.async false
set_option linter.all false
set_option maxRecDepth 100000
set_option maxHeartbeats 2000000
/-! Sw11: lists of objects; loops whose row is found on the way; joins; the drawn dice. -/
namespace SW
open PySem PySem.Spec L2
open PyProof.Rows hiding St
theorem iteNT {A B : Prop} (h : B) : if (!true) = true then A else B := h
theorem iteNF {A B : Prop} (h : A) : if (!false) = true then A else B := h
theorem Fit.trans {L L1 L2 : List SA} (f : Fit L L1) (g : Fit L1 L2) : Fit L L2 := fun H h => g H (f H h)
theorem Fit.tl {A : SA} {L W : List SA} (f : Fit L W) : Fit (A :: L) (A :: W) := fun H h => h.cons2 Cv.id f
theorem Fit.at1 {A : SA} {L L' R : List SA} (s : Sel L A R) (f : Fit (A :: R) L') : Fit L L' := fun H h => f H (h.perm s.perm)
theorem Fit.of {L W : List SA} (p : L.Perm W) : Fit L W := fun H h => h.perm p
theorem gs_join {T : List (Addr × Str)} {X : Cx} {σ : St} {L : List SA} {D : EndsL} {st : Stmt} (n1 : St → List SA → Prop) (h : GS T X st { D with nx := n1 } σ L) (k : ∀ σ' L', n1 σ' L' → D.nx σ' L') : GS T X st D σ L :=
  fun H hs D0 l => h H hs D0 ⟨fun σ' L' H' q h' => l.nx σ' L' H' (k σ' L' q) h', l.rt, l.bk, l.ct⟩
theorem lcend_ent {T : List (Addr × Str)} {D : Addr} {y : V} {L L' : List SA} {N : List SA → Prop} (t : Ent T L L') (h : LcEnd T D y L' N) : LcEnd T D y L N := fun H hs => h H (t H hs)
theorem pcs_pt1 {a : Addr} {o : HO} {h : Hp} (n : NoTbl o) (e : pt a o h) : Pcs [pt a o] h := ⟨[one a o], .cons one_same .nil, by simp, fun g hg => by
  have hg : g = one a o := by simpa using hg
  subst hg
  intro b u e2
  obtain ⟨rfl, rfl⟩ := one_of e2
  exact ⟨e, n⟩⟩
/-! ### lists of objects -/
/-- the pieces of each -/
def ObS (F : Addr → SA) (as : List Addr) : SA := fun h => Pcs (as.map F) h
/-- a list of references, the pieces of each -/
def ObL (F : Addr → SA) (D : Addr) (as : List Addr) : SA := fun h => Pcs (pt D (.lst (as.map V.ref)) :: as.map F) h
section
variable {T : List (Addr × Str)} {F : Addr → SA} {D a : Addr} {as : List Addr} {L : List SA}
theorem obl_nil {h : Hp} (e : pt D (.lst []) h) : ObL F D [] h := pcs_pt1 (fun _ => nofun) e
theorem obl_out : Ent T (ObL F D as :: L) (pt D (.lst (as.map V.ref)) :: ObS F as :: L) := Ent.trans (Ent.unf (L1 := pt D (.lst (as.map V.ref)) :: as.map F)) (Fit.ent (Fit.tl fun _ h => Pcs.fold h))
theorem obl_in : Ent T (pt D (.lst (as.map V.ref ++ [.ref a])) :: F a :: ObS F as :: L) (ObL F D (as ++ [a]) :: L) := fun H h => by
  have h1 : Hs T (ObS F as :: pt D (.lst (as.map V.ref ++ [.ref a])) :: F a :: L) H := h.perm (List.perm_middle (l₁ := [pt D (.lst (as.map V.ref ++ [.ref a])), F a]) (a := ObS F as) (l₂ := L))
  have h2 : Hs T (as.map F ++ (pt D (.lst (as.map V.ref ++ [.ref a])) :: F a :: L)) H := ⟨h1.tabs, h1.pcs.unf⟩
  have h3 : Hs T (pt D (.lst (as.map V.ref ++ [.ref a])) :: (as.map F ++ (F a :: L))) H := h2.perm List.perm_middle
  have e : pt D (.lst (as.map V.ref ++ [.ref a])) :: (as.map F ++ (F a :: L)) = (pt D (.lst ((as ++ [a]).map V.ref)) :: (as ++ [a]).map F) ++ L := by simp
  rw [e] at h3
  exact ⟨h3.tabs, h3.pcs.fold⟩
theorem obs_cons : Ent T (ObS F (a :: as) :: L) (F a :: ObS F as :: L) := Ent.trans (Ent.unf (L1 := F a :: as.map F)) (Fit.ent (Fit.tl fun _ h => Pcs.fold h))
theorem obs_drop {i : Nat} (h : as[i]? = some a) : Ent T (ObS F (as.drop i) :: L) (F a :: ObS F (as.drop (i + 1)) :: L) := by
  have hi : i < as.length := by
    by_cases c : i < as.length
    · exact c
    · rw [List.getElem?_eq_none (by omega)] at h; cases h
  have e : as.drop i = a :: as.drop (i + 1) := by
    rw [List.drop_eq_getElem_cons hi]
    rw [List.getElem?_eq_getElem hi] at h
    cases h; rfl
  rw [e]
  exact obs_cons
end
/-! ### loops whose row is found on the way -/
section
variable {T : List (Addr × Str)} {X : Cx} {σ : St} {L R' : List SA} {D : EndsL} {tg iter : Expr} {body : List Stmt} {pos : Pos}
theorem gs_forLx (hp : PassesOwn (model X.prog X.w) X.A X.env X.xe) (hc : X.calm = true) (hf : ∀ x, foldedSetIterable iter X.env x = pure x)
    (h0 : GE T X iter σ L fun v L1 => ∃ (l : Addr) (xs : List V) (inv : Nat → St → List SA → Prop), v = .ref l ∧ Fits T (inv 0) σ L1 ∧ (∀ i σ' L', inv i σ' L' → ∃ R, Sel L' (pt l (.lst xs)) R) ∧
      (∀ i x σ' L', xs[i]? = some x → inv i σ' L' → GG T X tg x σ' L' fun σ2 L2 => GSs T X body { D with nx := Fits T (inv (i + 1)), ct := Fits T (inv (i + 1)), bk := D.nx } σ2 L2) ∧
      (∀ σ' L', inv xs.length σ' L' → D.nx σ' L')) : GS T X (.For tg iter body [] pos) D σ L := by
  refine GS.of (ps_for hp hc (pi_list peW) pgW pssW hf) fun H hh D0 le => h0 H hh _ fun v L1 H1 ⟨l, xs, inv, ev, iv, hl, hs, hd⟩ h1 => ?_
  obtain ⟨L1, iv, h1⟩ := fits_hs iv h1
  obtain ⟨R1, s1⟩ := hl _ _ _ iv
  refine ⟨l, ev, ⟨xs, SqL.of (h1.at s1)⟩, wfor (Itl X.K l) xs.length inv (fun σ L H i h => ?_) (fun i σ L H hi iv h => ?_) (fun i σ L H hi iv h x H' y => ?_) hd h1 iv le⟩
  · obtain ⟨R, s⟩ := hl _ _ _ i
    exact ⟨xs, SqL.of (h.at s), Nat.le_refl _⟩
  · obtain ⟨R, s⟩ := hl _ _ _ iv
    exact ⟨xs, xs[i], SqL.of (h.at s), by simp [hi]⟩
  · obtain ⟨R, s⟩ := hl _ _ _ iv
    obtain ⟨e, y⟩ := y
    subst e
    exact ⟨L, h, hs i x σ L (y xs (SqL.of (h.at s))) iv⟩
theorem gs_forRx (hp : PassesOwn (model X.prog X.w) X.A X.env X.xe) (hc : X.calm = true) (hf : ∀ x, foldedSetIterable iter X.env x = pure x)
    (h0 : GE T X iter σ L fun v L1 => ∃ (α : Type) (R : PRep α) (l : Addr) (ds : List α) (inv : Nat → St → List SA → Prop), v = .ref l ∧ Fits T (inv 0) σ L1 ∧ (∀ i σ' L', inv i σ' L' → ∃ R0, Sel L' (LstR R l ds) R0) ∧
      (∀ i d x σ' L', ds[i]? = some d → inv i σ' L' → GG T X tg x σ' (Val R x d :: L') fun σ2 L2 => GSs T X body { D with nx := Fits T (inv (i + 1)), ct := Fits T (inv (i + 1)), bk := D.nx } σ2 L2) ∧
      (∀ σ' L', inv ds.length σ' L' → D.nx σ' L')) : GS T X (.For tg iter body [] pos) D σ L := by
  refine GS.of (ps_for hp hc (pi_list peW) pgW pssW hf) fun H hh D0 le => h0 H hh _ fun v L1 H1 ⟨α, R, l, ds, inv, ev, iv, hl, hs, hd⟩ h1 => ?_
  obtain ⟨L1, iv, h1⟩ := fits_hs iv h1
  have get : ∀ {i σ L H}, inv i σ L → Hs T L H → ∃ xs, H l = some (.lst xs) ∧ A2r R H xs ds := fun {i σ L H} iv h => by
    obtain ⟨R0, s⟩ := hl _ _ _ iv
    exact h.factP (fun g ⟨xs, e, r⟩ sub => ⟨xs, (sub l _ e).1, r.mono sub.tup⟩) s
  obtain ⟨xs1, e1, _⟩ := get iv h1
  refine ⟨l, ev, ⟨xs1, SqL.of e1⟩, wfor (Itl X.K l) ds.length inv (fun σ L H i h => ?_) (fun i σ L H hi iv h => ?_) (fun i σ L H hi iv h x H' y => ?_) hd h1 iv le⟩
  · obtain ⟨xs, e, r⟩ := get i h
    exact ⟨xs, SqL.of e, Nat.le_of_eq r.length⟩
  · obtain ⟨xs, e, r⟩ := get iv h
    have : i < xs.length := by rw [r.length]; exact hi
    exact ⟨xs, xs[i], SqL.of e, by simp [this]⟩
  · obtain ⟨xs, e, r⟩ := get iv h
    obtain ⟨e2, y⟩ := y
    subst e2
    obtain ⟨d, hd', rr⟩ := r.get' (y xs (SqL.of e))
    exact ⟨_, h.addP Val.pers rr, hs i d x σ L hd' iv⟩
theorem gs_forTx (hp : PassesOwn (model X.prog X.w) X.A X.env X.xe) (hc : X.calm = true) (hf : ∀ x, foldedSetIterable iter X.env x = pure x)
    (h0 : GE T X iter σ L fun v L1 => ∃ (α : Type) (R : PRep α) (ds : List α) (inv : Nat → St → List SA → Prop), Fits T (inv 0) σ L1 ∧ (∀ i σ' L', inv i σ' L' → Rv T L' v (rTl R) ds) ∧
      (∀ i d x σ' L', ds[i]? = some d → inv i σ' L' → GG T X tg x σ' (Val R x d :: L') fun σ2 L2 => GSs T X body { D with nx := Fits T (inv (i + 1)), ct := Fits T (inv (i + 1)), bk := D.nx } σ2 L2) ∧
      (∀ σ' L', inv ds.length σ' L' → D.nx σ' L')) : GS T X (.For tg iter body [] pos) D σ L := by
  refine GS.of (ps_for hp hc (pi_tup peW) pgW pssW hf) fun H hh D0 le => h0 H hh _ fun v L1 H1 ⟨α, R, ds, inv, iv, hl, hs, hd⟩ h1 => ?_
  obtain ⟨L1, iv, h1⟩ := fits_hs iv h1
  obtain ⟨l, xs1, ev0, e1, _⟩ := hl _ _ _ iv H1 h1
  subst ev0
  have get : ∀ {i σ L H}, inv i σ L → Hs T L H → ∃ xs, H l = some (.tup xs) ∧ A2r R H xs ds := fun {i σ L H} iv h => by
    obtain ⟨l', xs, ev, e, r⟩ := hl _ _ _ iv H h
    cases ev
    exact ⟨xs, e, r⟩
  refine ⟨l, rfl, ⟨xs1, SqT.of e1⟩, wfor (Itt X.K l) ds.length inv (fun σ L H i h => ?_) (fun i σ L H hi iv h => ?_) (fun i σ L H hi iv h x H' y => ?_) hd h1 iv le⟩
  · obtain ⟨xs, e, r⟩ := get i h
    exact ⟨xs, SqT.of e, Nat.le_of_eq r.length⟩
  · obtain ⟨xs, e, r⟩ := get iv h
    have : i < xs.length := by rw [r.length]; exact hi
    exact ⟨xs, xs[i], SqT.of e, by simp [this]⟩
  · obtain ⟨xs, e, r⟩ := get iv h
    obtain ⟨e2, y⟩ := y
    subst e2
    obtain ⟨d, hd', rr⟩ := r.get' (y xs (SqT.of e))
    exact ⟨_, h.addP Val.pers rr, hs i d x σ L hd' iv⟩
theorem gs_forNx {a : Expr} {p : Pos} (hp : PassesOwn (model X.prog X.w) X.A X.env X.xe) (hc : X.calm = true) (hg : Gl X "range") (hm : X.mg "range" = none)
    (hst : starEach [a] X.env = [(false, eval a X.env)]) (hf : ∀ x, foldedSetIterable (.Call (.Name "range" p) [a] [] pos) X.env x = pure x) {pos2 : Pos}
    (h0 : GA T X [a] σ L fun vs L1 => ∃ (n : Int) (inv : Nat → St → List SA → Prop), vs = [.int n] ∧ -(2 ^ 62) ≤ n ∧ n < 2 ^ 62 ∧ Fits T (inv 0) σ L1 ∧
      (∀ (i : Nat) σ' L', (i : Int) < n → inv i σ' L' → GG T X tg (.int (i : Int)) σ' L' fun σ2 L2 => GSs T X body { D with nx := Fits T (inv (i + 1)), ct := Fits T (inv (i + 1)), bk := D.nx } σ2 L2) ∧
      (∀ σ' L', inv n.toNat σ' L' → D.nx σ' L')) : GS T X (.For tg (.Call (.Name "range" p) [a] [] pos) body [] pos2) D σ L := by
  refine GS.of (ps_for hp hc (pi_range1 hg hm paW hst) pgW pssW hf) fun H hh D0 le => h0 H hh _ fun vs L1 H1 ⟨n, inv, ev, b1, b2, iv, hs, hd⟩ h1 => ?_
  obtain ⟨L1, iv, h1⟩ := fits_hs iv h1
  refine ⟨n, ev, b1, b2, wfor (Itr 0 n.toNat) n.toNat inv (fun σ L H i h => Nat.le_refl _) (fun i σ L H hi iv h => hi) (fun i σ L H hi iv h x H' y => ?_) hd h1 iv le⟩
  obtain ⟨e, y⟩ := y
  subst e
  subst y
  refine ⟨L, h, ?_⟩
  rw [Int.zero_add]
  exact hs i σ L (by omega) iv
end
/-! ### the drawn dice -/
def dcP (d : Addr) : SA := fun h => ∃ q : Int × Int × Int, pt d (.lst [.int q.1, .int q.2.1, .int q.2.2]) h
section
variable {T : List (Addr × Str)} {X : Cx} {σ : St} {L R : List SA} {D : EndsL} {sts : List Stmt} {d : Addr}
theorem dc_in (s : Sel L (dcP d) R) (h : ∀ x y z, GSs T X sts D σ (pt d (.lst [.int x, .int y, .int z]) :: R)) : GSs T X sts D σ L := GSs.via fun H hs => by
  have h1 := (hs.sel s)
  obtain ⟨q, h2⟩ := h1.pcs.ex
  exact ⟨_, ⟨h1.tabs, h2⟩, h q.1 q.2.1 q.2.2⟩
theorem Cv.dc {x y z : Int} : Cv (SW.pt d (.lst [.int x, .int y, .int z])) (dcP d) := fun h e => ⟨(x, y, z), e⟩
end
def spDice : SpL := fun vs L K kx => ∃ (c : Int), vs = [.int c] ∧ ∀ d, K (.ref d) (dcP d :: L)
def spRoll : SpL := fun vs L K kx => ∃ (d : Addr) (m : Int) (R : List SA), vs = [.ref d, .int m] ∧ 0 < m ∧ m < 1073741824 ∧ L = dcP d :: R ∧ ∀ r : Int, 0 ≤ r → r < m → K (.int r) (dcP d :: R)
/-- the script: a list that is read -/
def ScrP (KK : PySem.W.Frag) (a : Addr) (ns : List Int) : SA := fun h => SqL KK h a (ns.map V.int)
theorem rd_sub {h H : Hp} {a : Addr} {o : HO} (s : Sub h H) (r : Rd h a o) : Rd H a o := by
  rcases r with r | ⟨n, r⟩
  · exact .inl (s _ _ r).1
  · exact .inr ⟨n, (s _ _ r).1⟩
theorem scr_sub {KK : PySem.W.Frag} {h H : Hp} {a : Addr} {xs : List V} (s : Sub h H) (r : SqL KK h a xs) : SqL KK H a xs := by
  rcases r with r | r
  · exact .inl (rd_sub s r)
  · exact .inr r
theorem Hs.scr {T : List (Addr × Str)} {KK : PySem.W.Frag} {a : Addr} {ns : List Int} {L R : List SA} {H : Hp} (s : Sel L (ScrP KK a ns) R) (h : Hs T L H) : SqL KK H a (ns.map V.int) := h.factP (fun g e sub => scr_sub sub e) s
theorem pcs_scr {KK : PySem.W.Frag} {a : Addr} {ns : List Int} {H : Hp} (h : SqL KK H a (ns.map V.int)) : Pcs [ScrP KK a ns] H := by
  have key : ∀ o : HO, NoTbl o → H a = some o → SqL KK (one a o) a (ns.map V.int) → Pcs [ScrP KK a ns] H := fun o no e q => ⟨[one a o], .cons q .nil, by simp, fun g hg => by
    have hg : g = one a o := by simpa using hg
    subst hg
    intro b u e2
    obtain ⟨rfl, rfl⟩ := one_of e2
    exact ⟨e, no⟩⟩
  rcases h with h | h
  · rcases h with h | ⟨n, h⟩
    · exact key (.lst (ns.map V.int)) (fun _ => nofun) h (.inl (.inl one_same))
    · exact key (.frz n (.lst (ns.map V.int))) (fun _ => nofun) h (.inl (.inr ⟨n, one_same⟩))
  · refine ⟨[fun _ => none], .cons (.inr h) .nil, by simp, fun g hg => ?_⟩
    have hg : g = fun _ => none := by simpa using hg
    subst hg
    intro b u e2
    cases e2
theorem gsl_scr {T : List (Addr × Str)} {X : Cx} {L R' : List SA} {K : GK} {p : Addr} {ns : List Int} {lo hi : Option Int} (s : Sel L (ScrP X.K p ns) R') (k : ∀ q, K (.ref q) (pt q (.lst (cutD (ns.map V.int) lo hi)) :: L)) : GSl T X (.ref p) lo hi L K :=
  GSl.of sl_list fun H hs Q q => ⟨p, ns.map V.int, rfl, hs.scr s, fun r hr => q _ _ _ (k r) (hs.new hr fun _ => nofun)⟩
def spRounds (KK : PySem.W.Frag) : SpL := fun vs L K kx => ∃ (s : Addr) (ns : List Int) (m : Nat) (R : List SA), vs = [.ref s, .int (m : Int)] ∧ L = ScrP KK s ns :: R ∧ ns.length ≤ 1000 ∧ ∀ D as, K (.ref D) (ObL dcP D as :: R)
theorem call_roll {T : List (Addr × Str)} {L R : List SA} {K : GK} {kx : KX} {d : Addr} {m : Int} (e : Ent T L (dcP d :: R)) (h1 : 0 < m) (h2 : m < 1073741824) (k : ∀ r : Int, 0 ≤ r → r < m → K (.int r) (dcP d :: R)) : spE T spRoll [.ref d, .int m] L K kx := CallS.mk ⟨d, m, R, rfl, h1, h2, rfl, k⟩ e
end SW
set_option Elab.async false
set_option linter.all false
set_option maxRecDepth 100000
set_option maxHeartbeats 2000000
/-! Sw12: sums of truth values. -/
namespace SW
open PySem PySem.Spec L2
open PyProof.Rows hiding St
section
variable {prog : Program} {w : World} {A : Around} {E : Value → Shared → Prop} {s : Shared} {l : Addr} {items : Array Value}
theorem sum_boolRaw {Q : Value → Shared → Prop} {val : Nat → Int} (hh : A.handled = none) (hl : s.heap.IsList l items) (hv : ∀ (i : Nat) v, items[i]? = some v → NumOf (val i) v)
    (h : ∀ h' tk t', (∀ b o, s.heap.get? b = some o → h'.get? b = some o) → Q (.int (preSum val items.size) t') { s with heap := h', toks := tk }) : wpAny (model prog w) A (call (.builtin "sum") [.ref l]) Q E s := by
  have hlt : l < s.heap.objs.size := by obtain ⟨_, e, _⟩ := hl; exact Heap.lt_size e
  refine call_sum_walkAnyB (wpAny_pyIter_list hl ?_)
  refine ⟨_, _, _, _, _, _, _, val, rfl, (Walks.list (A := A.in1) hh _ l (Nat.ne_of_lt hlt) items).toS, ⟨⟨_, Heap.get?_push_size _ rfl, rfl, rfl⟩, hl.push _⟩, fun b hb => ?_, fun i v hi => hv i v hi, fun s' t' hm => ?_⟩
  · show b < (s.heap.push _).objs.size
    rw [Heap.size_push]
    rcases List.mem_cons.mp hb with rfl | hb
    · exact Nat.lt_succ_self _
    · rcases List.mem_cons.mp hb with rfl | hb
      · exact Nat.lt_succ_of_lt hlt
      · cases hb
  · have e : s' = { s with heap := s'.heap, toks := s'.toks } := by
      obtain ⟨h1, h2, h3, h4, h5⟩ := hm
      cases s'
      cases h2
      cases h3
      cases h4
      rfl
    rw [e]
    exact h s'.heap s'.toks t' (old_kept hm.heap)
end
theorem vals_bools : ∀ {bs : List Bool} {its : List Value}, Vals (bs.map V.bl) its → its = bs.map Value.bool
  | [], its, h => by
    have := h.length
    cases its with
    | nil => rfl
    | cons _ _ => cases this
  | b :: bs, its, h => by
    cases h with
    | cons r t => rw [vals_bools t]; have r : _ = Value.bool b := r; rw [r]; rfl
def rSumB (K : PySem.W.Frag) : List V → Hp → VK → Prop := fun vs H Q => ∃ (a : Addr) (bs : List Bool), vs = [V.ref a] ∧ SqL K H a (bs.map V.bl) ∧ Q (.int ((bs.map fun b => if b = true then (1 : Int) else 0).sum)) H
theorem cr_sumB {X : Cx} (hc : X.calm = true) : CallR X (.builtin "sum") (rSumB X.K) := by
  intro pins s σ H vs us Q I r h
  obtain ⟨a, bs, rfl, hs, q⟩ := h
  obtain ⟨its, rv, hl, _⟩ := I.list hs
  rw [Vals.ref1 r]
  have e := vals_bools rv
  subst e
  refine sum_boolRaw (val := fun j => (bs.map fun b => if b = true then (1 : Int) else 0).getD j 0) (I.ok.hd hc) hl.isList (fun i v hi => ?_) fun h' tk t' hk => ?_
  · have hi2 : (bs.map Value.bool)[i]? = some v := by simpa using hi
    rw [List.getElem?_map] at hi2
    cases hb : bs[i]? with
    | none => rw [hb] at hi2; cases hi2
    | some b =>
      rw [hb] at hi2
      cases hi2
      exact .inr ⟨b, rfl, by simp [List.getD_eq_getElem?_getD, hb]⟩
  · have e := preSum_getD (bs.map fun b => if b = true then (1 : Int) else 0) (bs.map Value.bool).toArray.size
    rw [List.take_of_length_le (by simp)] at e
    rw [e]
    exact ⟨.int _, H, I.kept hk, ⟨_, rfl⟩, q⟩
theorem gc_sumB {T : List (Addr × Str)} {X : Cx} {L R' : List SA} {K : GK} {p : Addr} {bs : List Bool} (hc : X.calm = true) (s : Sel L (pt p (.lst (bs.map V.bl))) R') (k : K (.int ((bs.map fun b => if b = true then (1 : Int) else 0).sum)) L) : GC T X (.builtin "sum") [.ref p] L K := GC.of (cr_sumB hc) fun H hs Q q => ⟨p, bs, rfl, SqL.of (hs.at s), q _ _ _ k hs⟩
end SW
set_option Elab.async false
set_option linter.all false
set_option maxRecDepth 100000
set_option maxHeartbeats 2000000
/-! Sw13: texts; calls and tries that know the slots. -/
namespace SW
open PySem PySem.Spec L2
open PyProof.Rows hiding St
section
variable {T : List (Addr × Str)} {X : Cx} {σ : St} {L R' : List SA} {K : GK} {D : EndsL} {tg iter o e : Expr} {body : List Stmt} {pos apos cpos : Pos}
/-- over a text's signs -/
theorem gs_forSx (hp : PassesOwn (model X.prog X.w) X.A X.env X.xe) (hc : X.calm = true) (hf : ∀ x, foldedSetIterable iter X.env x = pure x)
    (h0 : GE T X iter σ L fun v L1 => ∃ (z : Str) (inv : Nat → St → List SA → Prop), v = .str z ∧ Fits T (inv 0) σ L1 ∧
      (∀ i c σ' L', z.cps[i]? = some c → inv i σ' L' → GG T X tg (.str ⟨#[c]⟩) σ' L' fun σ2 L2 => GSs T X body { D with nx := Fits T (inv (i + 1)), ct := Fits T (inv (i + 1)), bk := D.nx } σ2 L2) ∧
      (∀ σ' L', inv z.cps.size σ' L' → D.nx σ' L')) : GS T X (.For tg iter body [] pos) D σ L := by
  refine GS.of (ps_for hp hc (pi_str peW) pgW pssW hf) fun H hh D0 le => h0 H hh _ fun v L1 H1 ⟨z, inv, ev, iv, hs, hd⟩ h1 => ?_
  obtain ⟨L1, iv, h1⟩ := fits_hs iv h1
  refine ⟨z, ev, wfor (Its z) z.cps.size inv (fun σ L H i h => Nat.le_refl _) (fun i σ L H hi iv h => hi) (fun i σ L H hi iv h x H' y => ?_) hd h1 iv le⟩
  obtain ⟨e, c, hc, y⟩ := y
  subst e
  subst y
  exact ⟨L, h, hs i c σ L hc iv⟩
theorem go_inSign {c : Nat} {z : Str} (k : K (.bl (decide (c ∈ z.cps.toList))) L) : GOp T X (compareOp .In) (.str ⟨#[c]⟩) (.str z) L K := GOp.of op_in_sign fun H hs Q q => ⟨c, z, rfl, rfl, q _ _ _ k hs⟩
theorem go_ninSign {c : Nat} {z : Str} (k : K (.bl (!decide (c ∈ z.cps.toList))) L) : GOp T X (compareOp .NotIn) (.str ⟨#[c]⟩) (.str z) L K := GOp.of op_notIn_sign fun H hs Q q => ⟨c, z, rfl, rfl, q _ _ _ k hs⟩
/-- a.index(b) -/
theorem ge_index (hs : starEach [e] X.env = [(false, eval e X.env)]) (hbase : attributeBase o "index" X.env (eval o X.env) = eval o X.env) (hline : (apos.endLine == cpos.line) = true)
    (h : GE T X o σ L fun v L1 => ∃ a, v = .str a ∧ GE T X e σ L1 fun y L2 => ∃ b i rest, y = .str b ∧ Builtin.Str.occurrences a b 0 a.length 1 = i :: rest ∧ K (.int (i : Nat)) L2) : GE T X (.Call (.Attribute o "index" apos) [e] [] cpos) σ L K :=
  GE.of (pe_m1 F.slot_str_index F.type_str_index mt_sindex peW peW hs hbase hline) fun H hh Q q => h H hh _ fun v L1 H1 ⟨a, ev, k1⟩ h1 => ⟨⟨a, ev⟩, k1 H1 h1 _ fun y L2 H2 ⟨b, i, rest, ey, ho, k2⟩ h2 => ⟨a, b, i, rest, ev, by rw [ey], ho, q _ _ _ k2 h2⟩⟩
/-- a.join(list of texts) -/
theorem ge_join (hs : starEach [e] X.env = [(false, eval e X.env)]) (hbase : attributeBase o "join" X.env (eval o X.env) = eval o X.env) (hline : (apos.endLine == cpos.line) = true)
    (h : GE T X o σ L fun v L1 => ∃ a, v = .str a ∧ GE T X e σ L1 fun y L2 => ∃ p ys R', y = .ref p ∧ Sel L2 (pt p (.lst (ys.map V.str))) R' ∧ (ys.map (·.length)).sum + ys.length * a.length ≤ 16777216 ∧ K (.str (Txt.join a ys)) L2) : GE T X (.Call (.Attribute o "join" apos) [e] [] cpos) σ L K :=
  GE.of (pe_join peW peW hs hbase hline) fun H hh Q q => h H hh _ fun v L1 H1 ⟨a, ev, k1⟩ h1 => ⟨⟨a, ev⟩, k1 H1 h1 _ fun y L2 H2 ⟨p, ys, R', ey, s, hz, k2⟩ h2 => ⟨a, p, ys, ev, by rw [ey], .inl (SqL.of (h2.at s)), hz, q _ _ _ k2 h2⟩⟩
end
/-! ### what is raised is wished for at the slots -/
abbrev KXS := Value → Option Addr → St → List SA → Prop
def XokS (T : List (Addr × Str)) (X : Cx) (kx : KXS) : Prop := ∃ W : WX, Takes X W ∧ ∀ cls d σ L H, kx cls d σ L → Hs T L H → W cls d σ H
section
variable {T : List (Addr × Str)} {X : Cx} {σ : St} {L : List SA} {K : GK} {D : EndsL} {kx : KX} {kxs : KXS} {S : SpL} {e o : Expr} {es : List Expr} {x m : Str} {p pos apos : Pos} {k : Nat} {N : List Str} {ks : List (Str × NameKind)}
theorem ge_callS (F : FnAt T X.prog X.w X.K X.mg X.base k x S) (hr : Room k X.A) (hx : XokS T X kxs) (hg : Gl X x) (hdb : (x == ("__debug__" : Str)) = false) (he : starEach (e :: es) X.env = (false, eval e X.env) :: starEach es X.env) (hpl : (backTo pos (starEach es X.env)).any (·.1) = false)
    (h : GA T X (e :: es) σ L fun vs L1 => S vs L1 K (fun c d L' => kxs c d σ L')) : GE T X (.Call (.Name x p) (e :: es) [] pos) σ L K := by
  obtain ⟨fd, ps, F1, hb⟩ := F.ex
  obtain ⟨W, tk, hW⟩ := hx
  refine GE.of (pe_callSD F1 hr hg F.mgx F.kp hb .nil (fun σ => passAt tk σ) paW hdb he hpl) fun H hs Q q => h H hs _ fun vs L1 H1 k1 h1 => ?_
  rw [List.append_nil]
  exact ⟨L1, K, _, h1, k1, q, fun cls d L' H' k h' => hW _ _ _ _ _ k h'⟩
/-- try: body except x: suite -/
theorem gs_try {np pos' : Pos} {body suite : List Stmt} {b0 : Stmt} (n : Nm X N ks) (h : Kd ks x .globalImplicit) (hs : X.stack = X.env :: X.outer) (hf : X.env.frame = some X.env.locals) (hd : dbg x = false) (gl : X.mg x = some (.ref (He.ga X.K x))) (hx : Xok T X kx)
    (hb : ∀ pn xe, Nm (X.tr pn xe) N ks → PassesOwn (model (X.tr pn xe).prog (X.tr pn xe).w) (X.tr pn xe).A (X.tr pn xe).env (X.tr pn xe).xe → XokS T (X.tr pn xe) (fun cls d σ' L' => ∃ b, PySem.W.exmOne X.K cls (.ref (He.ga X.K x)) = some b ∧ (b = true → ∀ a pn', GSs T (X.suite a pn') (b0 :: suite) D σ' L') ∧ (b = false → kx cls d L')) → GSs T (X.tr pn xe) body D σ L) :
    GS T X (.Try body [.ExceptHandler (some (.Name x np)) none (b0 :: suite) pos'] [] [] pos) D σ L := by
  obtain ⟨Wout, tk, hW⟩ := hx
  refine GS.of (ps_try_only (tb := fun W D σ H => ∀ pn xe, Takes (X.tr pn xe) W → PassesOwn (model (X.tr pn xe).prog (X.tr pn xe).w) (X.tr pn xe).A (X.tr pn xe).env (X.tr pn xe).xe → ssW (X.tr pn xe) body D σ H) (ts := fun a cls d D σ H => ∀ pn', ssW (X.suite a pn') (b0 :: suite) D σ H) hs hf ⟨n.gl h, dbg1 hd, .inl gl⟩ tk (fun W pn xe tk hp => ⟨fun pins s σ H D I h => h pn xe tk hp pins s I⟩) (fun a oe cls d pn _ _ => ⟨fun pins s σ H D I h => h _ pins s I⟩)) fun H hh D0 le => ?_
  intro pn xe tk2 hp
  refine hb pn xe ⟨n.nn, n.kk, n.nd, n.kd⟩ hp ⟨_, tk2, fun cls d σ' L' H' ⟨b, e1, e2, e3⟩ h' => ⟨b, e1, fun z a _ => ?_, fun z => hW _ _ _ _ _ (e3 z) h'⟩⟩ H hh D0 le
  exact fun pn' => e2 z a pn' H' h' D0 le
end
end SW
set_option Elab.async false
set_option linter.all false
set_option maxRecDepth 100000
set_option maxHeartbeats 2000000
/-! Sx1: an own exception over ValueError whose __init__ says super().__init__(text) first. -/
namespace SW
open PySem PySem.Spec L2
open PyProof.Rows hiding St
/-- the context of such an __init__ -/
def cxK (CX : CXT) (P : Program) (w : World) (K : PySem.W.Frag) (mg : Str → Option Value) (base : Heap) (N : List Str) (qual : Str) (scope : Scope) (f cda cc : Addr) (A : Around) (outer : List Env) (s : Shared) (H : Hp) (E : XK) : Cx where
  prog := P
  w := w
  K := K
  mg := mg
  base := base
  A := A.deeper (PySem.W.ksEnv qual scope s.heap.objs.size f (.ref cda) cc)
  N := N
  s_0 := s
  H_0 := H
  env := PySem.W.ksEnv qual scope s.heap.objs.size f (.ref cda) cc
  outer := outer
  stack := PySem.W.ksEnv qual scope s.heap.objs.size f (.ref cda) cc :: outer
  ex := []
  calm := true
  fn := fun _ => false
  pn := []
  xe := fun e s' => wpAny (model P w) (A.deeper (PySem.W.ksEnv qual scope s.heap.objs.size f (.ref cda) cc)) (leaving (PySem.W.ksEnv qual scope s.heap.objs.size f (.ref cda) cc) e) (fun _ s'' => CX outer H s E e s'') (fun e' s'' => CX outer H s E e' s'') s'
structure SupScope (ps : List Str) (sc : Scope) : Prop where
  kind : sc.kind = .function
  co : sc.isCoroutine = false
  gen : sc.isGenerator = false
  nd : ps.Nodup
  par : ∀ x ∈ ps, sc.names.lookup x = some .local
  cell : ∀ y ∈ sc.names, y.2 ≠ .cell
  free : ∀ y ∈ sc.names, y.2 = .free → y.1 = "__class__"
  cls : sc.names.lookup ("__class__" : Str) = some .free
  sup : sc.names.lookup ("super" : Str) = some .globalImplicit
theorem look_mem {l : List (Str × Value)} {y : Str} {u : Value} (nd : (l.map (·.1)).Nodup) (h : (y, u) ∈ l) : l.lookup y = some u := by
  induction l with
  | nil => cases h
  | cons p l ih =>
    obtain ⟨z, m⟩ := p
    rw [List.map_cons, List.nodup_cons] at nd
    rcases List.mem_cons.mp h with e | e
    · cases e; simp [List.lookup]
    · have ne : y ≠ z := fun q => nd.1 (by rw [← q]; exact List.mem_map.mpr ⟨_, e, rfl⟩)
      rw [List.lookup_cons, show (y == z) = false from beq_eq_false_iff_ne.mpr ne]
      exact ih nd.2 e
theorem zip_fst : ∀ {ps : List Str} {us : List Value}, ((ps.zip us).map (·.1)).Sublist ps
  | [], _ => by simp
  | p :: ps, [] => by simp
  | p :: ps, u :: us => by rw [List.zip_cons_cons, List.map_cons]; exact (zip_fst (ps := ps) (us := us)).cons₂ p
theorem zip_look {ps : List Str} {us : List Value} {i : Nat} {y : Str} {u : Value} (nd : ps.Nodup) (h1 : ps[i]? = some y) (h2 : us[i]? = some u) : (ps.zip us).reverse.lookup y = some u := by
  refine look_mem ?_ ?_
  · rw [List.map_reverse]
    exact ((List.reverse_perm _).nodup_iff).mpr (nd.sublist zip_fst)
  · rw [List.mem_reverse]
    refine List.mem_of_getElem? (i := i) ?_
    rw [List.getElem?_zip_eq_some]
    exact ⟨h1, h2⟩
theorem inv_startK {CX : CXT} {P : Program} {w : World} {K : PySem.W.Frag} {mg : Str → Option Value} {base : Heap} {ps : List Str} {qual : Str} {scope : Scope} {f cda cc : Addr} {A : Around} {outer : List Env} {s : Shared} {h1 : Heap} {tk : Nat} {H : Hp} {E : XK} {us : List Value} {vs : List V}
    {cl : Value} {cld : Option Addr} {D : Addr} {csl : Array (Option Value)} (S : SupScope ps scope) (hd : A.handled = none) (e0 : Env0 P w K mg base A outer s H) (hl : vs.length = ps.length) (r : Vals vs us) (hcc : K.lookup cc = some ⟨cl, cld, .cell (some (.ref D)), csl⟩)
    (ns : h1.Ns s.heap.objs.size (fun x => (ps.zip us).reverse.lookup x)) (hk : ∀ b o, s.heap.get? b = some o → h1.get? b = some o) :
    Inv (cxK CX P w K mg base ps qual scope f cda cc A outer s H E) [] (L2.start ps vs) H { s with heap := h1, toks := tk } := by
  have hbase : base.get? cc = some ⟨cl, cld, .cell (some (.ref D)), csl⟩ := e0.mod.kin _ _ hcc
  obtain ⟨hs1, hs2⟩ := e0.bs _ _ hbase
  have cells : ∀ {y : Str} {c : Addr}, List.lookup y [(("__class__" : Str), cc)] = some c → y = "__class__" ∧ c = cc := fun {y c} h => by
    rw [List.lookup_cons] at h
    by_cases q : (y == ("__class__" : Str)) = true
    · rw [q] at h
      cases h
      exact ⟨by simpa using q, rfl⟩
    · rw [Bool.eq_false_iff.mpr q] at h
      cases h
  have noA : ∀ b : Addr, b ∉ (cxK CX P w K mg base ps qual scope f cda cc A outer s H E).ex := fun b z => absurd (show b ∈ ([] : List Addr) from z) (by simp)
  refine ⟨⟨e0.mod, S.kind, rfl, rfl, Nat.le_refl _, fun y z c h1 h2 => ?_, fun y hy => ?_, fun y c hf h => (by cases hf), fun _ => hd, Around.frames_deeper e0.frames, .inr ⟨rfl, rfl⟩, fun b z => absurd z (noA b), e0.bs, e0.bsz, fun b _ _ => noA b, fun b z => absurd z (noA b), e0.funs, e0.frf⟩,
    rfl, e0.bare, Un.kept hk, ⟨_, ns, fun i y v h1 h2 h3 => ?_⟩, fun y c h => ?_, e0.hok.fresh (Nat.le_refl _), fun y c h => ?_, fun p hp => absurd (show p ∈ ([] : List (Addr × Obj)) from hp) (by simp), e0.hok.kept hk, ?_⟩
  · rw [(cells h1).1, (cells h2).1]
  · refine ⟨cc, ?_⟩
    have hy : scope.names.lookup y = some .cell ∨ scope.names.lookup y = some .free := hy
    rcases hy with hy | hy
    · exact absurd rfl (S.cell _ (PySem.mem_of_lookup hy))
    · have := S.free _ (PySem.mem_of_lookup hy) rfl
      have this : y = "__class__" := this
      subst this
      rfl
  · have hi : i < vs.length := by
      unfold L2.start at h2
      by_cases hi : i < vs.length
      · exact hi
      · rw [List.getElem?_append_right (by simpa using hi)] at h2
        rw [List.getElem?_replicate] at h2
        split at h2 <;> cases h2
    have ha : vs[i]? = some v := by
      unfold L2.start at h2
      rw [List.getElem?_append_left (by simpa using hi), List.getElem?_map] at h2
      cases e : vs[i]? with
      | none => rw [e] at h2; cases h2
      | some a => rw [e] at h2; cases h2; rfl
    obtain ⟨u, hu, rv⟩ := r.get ha
    have h1 : ps[i]? = some y := h1
    refine ⟨u, rv, .inl ⟨S.par y (List.mem_of_getElem? h1), ?_⟩⟩
    exact zip_look S.nd h1 hu
  · rw [(cells h).2]
    exact ⟨_, _, hk _ _ hs1, rfl⟩
  · rw [(cells h).2]; exact hs2
  · unfold L2.start
    show _ = ps.length
    rw [List.length_append, List.length_map, List.length_replicate]
    omega
/-- what the written part says of such a class -/
structure SupF (K : PySem.W.Frag) (P : Program) (f C : Addr) (qual : Str) (params : Arguments) (body : List Stmt) (scope : Scope) (fd : FuncData) : Prop where
  ex : ∃ oc od osl cda cc dV kV doc pm an ct cl cld csl ccl cdd vs ccs file tf, fd = PySem.W.fnX "__init__" qual params body scope [("__class__", cc)] dV kV doc pm an (.ref cda) ct ∧ K.lookup f = some ⟨oc, od, .func fd, osl⟩ ∧
    PySem.W.codeIn K (.ref cda) qual = true ∧ K.lookup cc = some ⟨cl, cld, .cell (some (.ref C)), csl⟩ ∧ K.lookup cda = some ⟨ccl, cdd, .fields vs, ccs⟩ ∧ vs[2]? = some (.str file tf) ∧ ((P.main.file : Str) == file) = true
  oex : OexC K C
  sup : PySem.W.nsIn K mainGlobals "super" = some none
  thp : PySem.W.nsIn K cStatics "thirdparty.any" = some none
  cls : ∃ cd, PySem.W.clsIn K C = some cd ∧ PySem.W.alongIn K "__init__" ((cd.mro.dropWhile (· != .ref C)).drop 1) = some (some (.builtin "ValueError.__init__"))
  sub : PySem.W.mroIn K C (.type "ValueError") = some true
  mro : PySem.W.mroIn K C (.ref C) = some true
  top : (P.main.scope.names.lookup ("super" : Str)).isSome = false
  kp : PySem.W.keepIn K (.ref f) = true
section
variable {X : Cx} {pins : List (Addr × Obj)} {σ : St} {H : Hp} {s : Shared}
theorem load_super (I : Inv X pins σ H s) (hk : X.env.kindOf ("super" : Str) = some .globalImplicit) (hs : X.mg "super" = none) {Q : Value → Shared → Prop} {E : Value → Shared → Prop} (q : Q (.type "super") s) : wpAny (model X.prog X.w) X.A (loadName X.env "super") Q E s := by
  obtain ⟨mb, hb, hbb⟩ := I.mod.blt
  refine PySem.W.ks_loadName_global I.ok.kind hk ?_
  refine PySem.Calls.loadGlobal_builtin (env := X.env) (mg := X.mg) (mb := mb) ?_ hs ?_ ((hbb _ (by decide +kernel)).trans (show bootBuiltins "super" = some (.type "super") from by decide +kernel)) q
  · rw [I.ok.glob]; exact I.mod.glob.keeps I.bk
  · rw [I.ok.blt]; exact hb.keeps I.bk
end
theorem init_super {CX : CXT} {P : Program} {w : World} {K : PySem.W.Frag} {mg : Str → Option Value} {base : Heap} {k : Nat} {f C : Addr} {qual : Str} {params : Arguments} {body rest : List Stmt} {scope : Scope} {fd : FuncData} {ps ps' : List Str} {sp : Sp} {ar : Arg} {p0 p1 p2 p3 p4 p5 : Pos} {msg : Str} {j : Nat}
    (F : SupF K P f C qual params body scope fd) (S : SupScope ps scope) (hmg : mg "super" = none) (hb0 : body = .Expr (.Call (.Attribute (.Call (.Name "super" p0) [] [] p1) "__init__" p2) [.Constant (.str msg) j p3] [] p4) p5 :: rest)
    (hself : (params.posonlyargs ++ params.args).head? = some ar) (har : ps = ar.arg :: ps') (hline : (p2.endLine == p4.line) = true) (len : ∀ vs H Q E, sp vs H Q E → vs.length = ps.length)
    (hrest : ∀ cda cc A outer s H vs Q E, sp vs H Q E → ∃ a vs', vs = .ref a :: vs' ∧ H a = some (exo a C none) ∧ ∃ t, PSs (cxK CX P w K mg base ps qual scope f cda cc A outer s H E) rest t ∧ t { nx := fun _ H' => Q .non H', rt := Q } (L2.start ps vs) H) :
    FnOk P w K mg base CX (k + 1) f fd ps sp := by
  refine ⟨len, fun A outer s H args us vs Q E hr e0 hb r hsp => ?_⟩
  obtain ⟨oc, od, osl, cda, cc, dV, kV, doc, pm, an, ct, cl, cld, csl, ccl, cdd, cvs, ccs, file, tf, rfl, lk, hcd, hcc, hcda, hvs, hfile⟩ := F.ex
  have hl := len _ _ _ _ hsp
  have KX : K.In s.heap := e0.mod.kin.keeps fun b o e => (e0.bs b o e).1
  have lim : s.heap.NoLimit := e0.mod.nolimit.keeps fun b o e => (e0.bs b o e).1
  have hloc : ∀ y ∈ ps.zip us, scope.names.lookup y.1 = some .local := fun ⟨n, v⟩ hy => S.par n (List.of_mem_zip hy).1
  refine PySem.ks_codeAny_call_defAt (fd := PySem.W.fnX "__init__" qual params body scope [("__class__", cc)] dV kV doc pm an (.ref cda) ct) (body := body) (binds := ps.zip us) hr.depth (KX _ _ lk) rfl lim (PySem.W.codeRec_of KX hcd) rfl hb S.cell hloc (fun h₁ hns hk₁ => ?_) S.co S.gen S.kind
  obtain ⟨a, vs', rfl, ha, t, ht, hq⟩ := hrest cda cc A outer s H vs Q E hsp
  have I : Inv (cxK CX P w K mg base ps qual scope f cda cc A outer s H E) [] (L2.start ps (.ref a :: vs')) H { s with heap := h₁, toks := s.toks + (ps.zip us).length } := inv_startK S hr.hd e0 hl r hcc hns hk₁
  subst hb0
  obtain ⟨vnm, vq, vN, vbs, vbm, vsn, vsub, vab, vcol, vdd, vk0, vk1, vk2, vk3, vk5, hC, hbm⟩ := F.oex.cls
  obtain ⟨cdC, hcls, halong⟩ := F.cls
  -- the walk of super().__init__(msg)
  refine PySem.ks_wpAt_execs_cons (PySem.ks_wpAt_Expr_any ?_ I.quiet rfl)
  have ev : eval (.Call (.Attribute (.Call (.Name "super" p0) [] [] p1) "__init__" p2) [.Constant (.str msg) j p3] [] p4) (PySem.W.ksEnv qual scope s.heap.objs.size f (.ref cda) cc) = (do
      let ov ← attributeBase (.Call (.Name "super" p0) [] [] p1) "__init__" (PySem.W.ksEnv qual scope s.heap.objs.size f (.ref cda) cc) (eval (.Call (.Name "super" p0) [] [] p1) (PySem.W.ksEnv qual scope s.heap.objs.size f (.ref cda) cc))
      standAt p2.atName
      methodCall (.Call (.Name "super" p0) [] [] p1) "__init__" p2 p4 (PySem.W.ksEnv qual scope s.heap.objs.size f (.ref cda) cc) ov 1 (backTo p4 (starEach [.Constant (.str msg) j p3] (PySem.W.ksEnv qual scope s.heap.objs.size f (.ref cda) cc))) (backToKw p4 (keywordEach [] (PySem.W.ksEnv qual scope s.heap.objs.size f (.ref cda) cc)))) := rfl
  show PySem.wpAt _ _ _ (eval (.Call (.Attribute (.Call (.Name "super" p0) [] [] p1) "__init__" p2) [.Constant (.str msg) j p3] [] p4) (PySem.W.ksEnv qual scope s.heap.objs.size f (.ref cda) cc)) _ _ _
  rw [ev]
  obtain ⟨m, fr, hm⟩ := I.loc
  obtain ⟨uself, ru, hlook⟩ := hm 0 ar.arg (.ref a) (by show ps[0]? = _; rw [har]; rfl) (by subst har; rfl) (.inl (S.par _ (by rw [har]; exact List.mem_cons_self)))
  obtain rfl : uself = Value.ref a := ru
  have hmself : m ar.arg = some (.ref a) := by
    rcases hlook with ⟨_, h⟩ | ⟨h, _⟩
    · exact h
    · have q := S.par ar.arg (by rw [har]; exact List.mem_cons_self)
      have h : scope.names.lookup ar.arg = some .cell ∨ scope.names.lookup ar.arg = some .free := h
      rw [q] at h
      rcases h with h | h <;> cases h
  have K1 : K.In h₁ := fun b o e => hk₁ b o (KX b o e)
  obtain ⟨t1, hx⟩ := exo_at I.hok ha
  have hx : h₁.get? a = some ({ cls := .ref C, dict := none, data := .fields #[.ref t1, .none, .none, .none, .bool false, .none] } : Obj) := hx
  have hCh := K1 _ _ hC
  refine PySem.wpAt_bind (PySem.ks_wpAt_super_base (env := PySem.W.ksEnv qual scope s.heap.objs.size f (.ref cda) cc) S.sup S.cls (by decide) rfl (K1 _ _ lk) rfl hself rfl (K1 _ _ hcda) rfl hvs hfile F.top ?_)
  refine load_super I S.sup hmg ⟨rfl, ?_⟩
  refine wpAny_loadName_free S.kind S.cls rfl ⟨_, K1 _ _ hcc, rfl⟩ ?_
  refine wpAny_loadName_local S.kind (S.par _ (by rw [har]; exact List.mem_cons_self)) fr hmself ?_
  refine PySem.ks_wpAny_isType_cls hCh rfl ⟨rfl, ?_⟩
  refine PySem.ks_wpAny_call_super hCh rfl hx rfl (fun c => nofun) (PySem.W.looks_mroIn K1 F.mro) (fun h2 e2 k2 => ?_)
  refine PySem.wpAt_bind (PySem.wpAt_of_wpAny (wpAny_standAt ?_))
  have K2 : K.In h2 := fun b o e => k2 b o (K1 b o e)
  have hx2 := k2 _ _ hx
  have hne : a ≠ C := fun z => by
    rw [z, hCh] at hx
    cases hx
  have I2at : PySem.W.InstAt h2 a ({ cls := .ref C, dict := none, data := .fields #[.ref t1, .none, .none, .none, .bool false, .none] } : Obj) C none := ⟨hx2, rfl, rfl, True.intro⟩
  rw [L2.mcall_line (by rfl) hline]
  refine PySem.wpAt_of_wpAny (wpAny_bind (wpAny_holding (PySem.W.kxs_getMethod PySem.W.kxs_ValueError e2 (PySem.W.looks_opaque K2 F.thp) (l₀ := cdC.mro) ((PySem.W.looks_clsIn K2 hcls).andThen .now) rfl K2 halong (I2at.type.andThen (PySem.W.looks_mroIn K2 F.sub)) hne (by decide) ?_)))
  show wpAny _ _ (callWith p4 (.ref h2.objs.size) [] (backTo p4 (starEach [.Constant (.str msg) j p3] (PySem.W.ksEnv qual scope s.heap.objs.size f (.ref cda) cc))) []) _ _ _
  refine PySem.W.kxs_callWith (i := "ValueError.__init__") (x := a) (by rfl) ?_
  refine PySem.Calls.evalArgs_plain (Calls.spliced_cons (Calls.Constant_str (k := j) (pos := p3) ?_))
  refine Calls.spliced_nil ?_
  have hmw : (h2.push (PySem.W.kxs_mw "ValueError.__init__" a)).get? h2.objs.size = some (PySem.W.kxs_mw "ValueError.__init__" a) := Heap.get?_push_size _ rfl
  refine ⟨hmw, ?_⟩
  have hx3 : (h2.push (PySem.W.kxs_mw "ValueError.__init__" a)).get? a = some ({ cls := .ref C, dict := none, data := .fields #[.ref t1, .none, .none, .none, .bool false, .none] } : Obj) := Heap.get?_push_of_some _ hx2
  have hC3 := Heap.get?_push_of_some (PySem.W.kxs_mw "ValueError.__init__" a) (K2 _ _ hC)
  refine wpAny_call (codeAny_of_tree ?_)
  show wpAny _ _ (callAny (.ref h2.objs.size) ⟨_, []⟩) _ _ _
  simp only [callAny]
  refine wpAny_bind (wpAny_load hmw ?_)
  simp only [PySem.W.kxs_mw, show (Value.type "method-wrapper" == Value.type "method" || Value.type "method-wrapper" == Value.type "builtin_function_or_method" || Value.type "method-wrapper" == Value.type "method-wrapper") = true by decide, if_true]
  refine PySem.W.KFB.if_so (by decide) ?_
  refine wpAny_bind (PySem.W.check_bound_init PySem.F.excBase_ValueError.toExcCallFacts hC3 hx3 rfl ?_)
  refine wpAny_bind (wpAny_pure (wpAny_pure ?_))
  refine ⟨plainId_quiet PySem.F.excBase_ValueError.init.plain _, codeAny_builtin PySem.F.excBase_ValueError.initEntry ?_⟩
  refine PySem.W.exc_init_tree (cls := .ref C) (t0 := t1) (dv := none) (c2 := .none) (c3 := .none) (b4 := .bool false) hx3 (by show 1 ≤ sizeLine; rw [sizeLine_eq]; omega) (fun h4 k4 hx4 _ => ?_)
  have k3 : ∀ b o, h₁.get? b = some o → (h2.push (PySem.W.kxs_mw "ValueError.__init__" a)).get? b = some o := fun b o e => Heap.get?_push_of_some _ (k2 b o e)
  have J0 : Inv (cxK CX P w K mg base ps qual scope f cda cc A outer s H E) [] (L2.start ps (.ref a :: vs')) H ⟨h2.push (PySem.W.kxs_mw "ValueError.__init__" a), s.gens, s.drawn, s.toks + (ps.zip us).length + 1 + 1, s.os⟩ := I.kept (t' := s.toks + (ps.zip us).length + 1 + 1) k3
  have J := J0.write (t' := s.toks + (ps.zip us).length + 1 + 1) (x := a) (e := a) (o := exo a C none) (by rw [ha]; exact True.intro) (.inl rfl) k4 ⟨_, hx4⟩ (exo_ok hx4)
  have eu : upd H a (exo a C none) = H := by
    funext b
    by_cases hb : b = a
    · rw [hb, upd_same, ha]
    · rw [upd_ne hb]
  rw [eu] at J
  refine PySem.wpAt_of_wpAny ?_
  have fin : ∀ {σ' : St} {H' : Hp} {v : V} {u : Value} {s' : Shared}, Inv (cxK CX P w K mg base ps qual scope f cda cc A outer s H E) [] σ' H' s' → RelV v u → Q v H' → CE outer P w H s Q u s' :=
    fun {σ' H' v u s'} J rv q => ⟨v, H', J.os, J.bare, J.base, J.hok, rv, q⟩
  refine wpAny_mono (ht.run [] _ (L2.start ps (.ref a :: vs')) H _ J hq) (fun fl s' hs => ?_) fun e s' hs => hs
  cases fl with
  | ret u =>
    obtain ⟨v, σ', H', J, rv, q⟩ := hs
    exact fin J rv q
  | next =>
    obtain ⟨σ', H', J, q⟩ := hs
    exact fin (v := V.non) (u := Value.none) J rfl q
  | brk =>
    obtain ⟨_, _, _, q⟩ := hs
    exact False.elim q
  | cont =>
    obtain ⟨_, _, _, q⟩ := hs
    exact False.elim q
end SW
set_option Elab.async false
set_option linter.all false
set_option maxRecDepth 100000
set_option maxHeartbeats 2000000
/-! Sx2: raising such an exception, over rows. -/
namespace SW
open PySem PySem.Spec L2
open PyProof.Rows hiding St
/-- the promise of such an __init__: the fields in order of their stores, the last first -/
def spXI (C : Addr) (gs : List Str) : Sp := fun vs H Q _ => ∃ a ys, vs = .ref a :: ys ∧ ys.length = gs.length ∧ H a = some (exo a C none) ∧
  ∀ d H', H d = none → d ≠ a → H' a = some (exo a C (some d)) → H' d = some (exd d (gs.zip ys).reverse) → (∀ b, b ≠ a → b ≠ d → H' b = H b) → Q .non H'
section
variable {P : Program} {w : World} {K : PySem.W.Frag} {mg : Str → Option Value} {base : Heap} {f C : Addr} {qual : Str} {params : Arguments} {body : List Stmt} {scope : Scope} {fd : FuncData} {ar : Arg} {p0 p1 p2 p3 p4 p5 q1 q2 q3 q4 r1 r2 r3 r4 : Pos} {msg g g2 : Str} {j : Nat} {ps' : List Str}
theorem ok_init1 (F : SupF K P f C qual params body scope fd) (S : SupScope ["self", g] scope) (hmg : mg "super" = none)
    (hb0 : body = [.Expr (.Call (.Attribute (.Call (.Name "super" p0) [] [] p1) "__init__" p2) [.Constant (.str msg) j p3] [] p4) p5, .Assign [.Attribute (.Name "self" q1) g q2] (.Name g q3) q4])
    (hself : (params.posonlyargs ++ params.args).head? = some ar) (har : ar.arg = "self") (hline : (p2.endLine == p4.line) = true) (hno : NoAttr K C g) (hd1 : dbg g = false)
    (hsw : ∀ env, swapsWith (.Name g q3) (some (.Attribute (.Name "self" q1) g q2)) q4.line env = pure false) :
    FnOk P w K mg base (L2.CX P w) 1 f fd ["self", g] (spXI C [g]) := by
  refine init_super F S hmg hb0 hself (ps' := [g]) (by rw [har]) hline (fun vs H Q E h => ?_) fun cda cc A outer s H vs Q E h => ?_
  · obtain ⟨a, ys, rfl, hl, _⟩ := h
    simp [hl]
  · obtain ⟨a, ys, rfl, hl, ha, hq⟩ := h
    obtain ⟨y, rfl⟩ : ∃ y, ys = [y] := by
      rcases ys with _ | ⟨y, _ | ⟨z, t⟩⟩
      · cases hl
      · exact ⟨y, rfl⟩
      · simp at hl
    refine ⟨a, [y], rfl, ha, _, pss_one (ps_ost (pe_var (i := 0) rfl (.inl (S.par _ (by simp))) (by decide) (by decide)) (pe_var (i := 1) rfl (.inl (S.par _ (by simp))) (dbg1 hd1) (dbg2 hd1)) (hsw _)), ?_⟩
    refine ⟨y, rfl, .ref a, rfl, a, C, rfl, F.oex, hno, .inl ⟨ha, fun d hd ne => ?_⟩⟩
    refine hq d _ hd ne upd_same ?_ fun b h1 h2 => ?_
    · rw [upd_ne ne, upd_same]; rfl
    · rw [upd_ne h1, upd_ne h2]
theorem ok_init2 (F : SupF K P f C qual params body scope fd) (S : SupScope ["self", g, g2] scope) (hmg : mg "super" = none)
    (hb0 : body = [.Expr (.Call (.Attribute (.Call (.Name "super" p0) [] [] p1) "__init__" p2) [.Constant (.str msg) j p3] [] p4) p5, .Assign [.Attribute (.Name "self" q1) g q2] (.Name g q3) q4, .Assign [.Attribute (.Name "self" r1) g2 r2] (.Name g2 r3) r4])
    (hself : (params.posonlyargs ++ params.args).head? = some ar) (har : ar.arg = "self") (hline : (p2.endLine == p4.line) = true) (hno : NoAttr K C g) (hno2 : NoAttr K C g2) (hd1 : dbg g = false) (hd2 : dbg g2 = false)
    (hsw : ∀ env, swapsWith (.Name g q3) (some (.Attribute (.Name "self" q1) g q2)) q4.line env = pure false) (hsw2 : ∀ env, swapsWith (.Name g2 r3) (some (.Attribute (.Name "self" r1) g2 r2)) r4.line env = pure false) :
    FnOk P w K mg base (L2.CX P w) 1 f fd ["self", g, g2] (spXI C [g, g2]) := by
  refine init_super F S hmg hb0 hself (ps' := [g, g2]) (by rw [har]) hline (fun vs H Q E h => ?_) fun cda cc A outer s H vs Q E h => ?_
  · obtain ⟨a, ys, rfl, hl, _⟩ := h
    simp [hl]
  · obtain ⟨a, ys, rfl, hl, ha, hq⟩ := h
    obtain ⟨y, z, rfl⟩ : ∃ y z, ys = [y, z] := by
      rcases ys with _ | ⟨y, _ | ⟨z, _ | ⟨u, t⟩⟩⟩
      · cases hl
      · cases hl
      · exact ⟨y, z, rfl⟩
      · simp at hl
    refine ⟨a, [y, z], rfl, ha, _, pss_cons (ps_ost (pe_var (i := 0) rfl (.inl (S.par _ (by simp))) (by decide) (by decide)) (pe_var (i := 1) rfl (.inl (S.par _ (by simp))) (dbg1 hd1) (dbg2 hd1)) (hsw _))
      (pss_one (ps_ost (pe_var (i := 0) rfl (.inl (S.par _ (by simp))) (by decide) (by decide)) (pe_var (i := 2) rfl (.inl (S.par _ (by simp))) (dbg1 hd2) (dbg2 hd2)) (hsw2 _))), ?_⟩
    refine ⟨y, rfl, .ref a, rfl, a, C, rfl, F.oex, hno, .inl ⟨ha, fun d hd ne => ?_⟩⟩
    refine ⟨z, rfl, .ref a, rfl, a, C, rfl, F.oex, hno2, .inr ⟨d, [(g, y)], upd_same, by rw [upd_ne ne, upd_same], by simp, ?_⟩⟩
    refine hq d _ hd ne ?_ upd_same fun b h1 h2 => ?_
    · rw [upd_ne (Ne.symm ne), upd_same]
    · rw [upd_ne h2, upd_ne h1, upd_ne h2]
end
/-- a class of exceptions whose __init__ keeps such a promise -/
structure ExiAt (P : Program) (w : World) (K : PySem.W.Frag) (mg : Str → Option Value) (base : Heap) (k : Nat) (x : Str) (gs : List Str) : Prop where
  F : ∃ (fd : FuncData) (ps : List Str), FnOk P w K mg base (L2.CX P w) k (He.ma K (He.ga K x) "__init__") fd ps (spXI (He.ga K x) gs) ∧ Binds K fd ps []
  T : OexC K (He.ga K x)
  iC : PySem.W.findIn K (.ref (He.ga K x)) "__init__" = some (some (.ref (He.ma K (He.ga K x) "__init__")))
  tI : PySem.W.typeIn K (.ref (He.ma K (He.ga K x) "__init__")) = some (.type "function")
  glo : mg x = some (.ref (He.ga K x))
section
variable {T : List (Addr × Str)} {X : Cx} {σ : St} {L : List SA} {D : EndsL} {N : List Str} {ks : List (Str × NameKind)} {x : Str} {e : Expr} {es : List Expr} {p pos pos2 : Pos} {kx : KX} {k : Nat} {gs : List Str}
theorem gs_raiseI (n : Nm X N ks) (h : Kd ks x .globalImplicit) (hc : X.calm = true) (ex : ExiAt X.prog X.w X.K X.mg X.base k x gs) (hr : Room (k + 1) X.A) (hx : Xok T X kx) (hd : dbg x = false) (he : starEach (e :: es) X.env = (false, eval e X.env) :: starEach es X.env) (hpl : (backTo pos (starEach es X.env)).any (·.1) = false)
    (g : GA T X (e :: es) σ L fun vs L1 => vs.length = gs.length ∧ vs.length ≤ 1000 ∧ ∀ d, kx (.ref (He.ga X.K x)) (some d) (pt d (.xd (gs.zip vs).reverse) :: L1)) :
    GS T X (.Raise (some (.Call (.Name x p) (e :: es) [] pos)) none pos2) D σ L := by
  obtain ⟨W, tk, hW⟩ := hx
  obtain ⟨fd, ps, F1, hb⟩ := ex.F
  refine GS.of (ps_raise hc tk (pmk_oex ex.T ex.iC ex.tI F1 hr hb .nil (passes_call takes0 fun _ _ _ _ h => h) (n.gl h) ex.glo paW (dbg1 hd) he hpl)) fun H hs D0 l => ?_
  refine g H hs _ fun vs L1 H1 ⟨hl, hz, k1⟩ h1 => ⟨hz, fun a ha => ?_⟩
  rw [List.append_nil]
  refine ⟨a, vs, rfl, hl, upd_same, fun d H' hd ne e1 e2 e3 => ⟨rfl, d, _, e1, e2, ?_, ?_⟩⟩
  · rw [← upd_ne (H := H1) (o := exo a (He.ga X.K x) none) ne]; exact hd
  · have hd1 : H1 d = none := by rw [← upd_ne (H := H1) (o := exo a (He.ga X.K x) none) ne]; exact hd
    have eq : upd (del H' a) d (.xd (gs.zip vs).reverse) = upd H1 d (.xd (gs.zip vs).reverse) := by
      funext b
      by_cases hb1 : b = d
      · subst hb1; rw [upd_same, upd_same]
      · rw [upd_ne hb1, upd_ne hb1]
        by_cases hb2 : b = a
        · subst hb2; rw [del_same, ha]
        · rw [del_ne hb2, e3 b hb2 hb1, upd_ne hb2]
    rw [eq]
    exact hW _ _ _ _ _ (k1 d) (h1.new hd1 fun _ => nofun)
end
end SW
set_option Elab.async false
set_option linter.all false
set_option maxRecDepth 100000
set_option maxHeartbeats 2000000
/-! Sx3: such classes in the head: looked at by Bools; a Hook that sees the statics too. -/
namespace SW
open PySem PySem.Spec L2
open PyProof.Rows hiding St
def oexB (K : PySem.W.Frag) (C : Addr) : Bool := match K.lookup C with
  | some ⟨.type "type", _, .cls cd, sl⟩ => (match cd.mro, sl.toList with
    | .ref C' :: bm, [_, _, _, _, some (.builtin n), _] => C' == C && (n == "ValueError.__new__" && (!cd.hasDel && (cd.hasDict && PySem.HandSPX.refsVE bm)))
    | _, _ => false)
  | _ => false
theorem oexB_ok {K : PySem.W.Frag} {C : Addr} (q : oexB K C = true) : ∃ nm q N bs bm sn sub ab col dd k0 k1 k2 k3 k5, K.lookup C = some (excClassObj nm q C N bs bm true sn sub ab col dd k0 k1 k2 k3 k5 "ValueError.__new__") ∧ PySem.HandSPX.refsVE bm = true := by
  unfold oexB at q
  split at q
  · rename_i dd cd sl ho
    split at q
    · rename_i C' bm k0 k1 k2 k3 n k5 hm hs
      simp only [Bool.and_eq_true, beq_iff_eq, Bool.not_eq_true'] at q
      obtain ⟨rfl, rfl, hdel, hdict, ht⟩ := q
      obtain ⟨nm, bs, mro, ns, qn, hd, sn, sub, ab, col, del⟩ := cd
      dsimp only at hm hdel hdict
      subst hm hdel hdict
      have hsl : sl = #[k0, k1, k2, k3, some (.builtin "ValueError.__new__"), k5] := by
        obtain ⟨l⟩ := sl
        simp only at hs
        rw [hs]
      subst hsl
      exact ⟨nm, qn, ns, bs, bm, sn, sub, ab, col, dd, k0, k1, k2, k3, k5, ho, ht⟩
    · cases q
  · cases q
/-- the closure and the code of such an __init__ -/
def cloB (P : Program) (K : PySem.W.Frag) (C : Addr) (fd : FuncData) : Bool := match fd.closure, fd.code with
  | [(nm, cc)], .ref cda => nm == ("__class__" : Str) && (PySem.W.codeIn K (.ref cda) fd.qualname && ((match K.lookup cc with
    | some ⟨_, _, .cell (some (.ref D)), _⟩ => D == C
    | _ => false) && (match K.lookup cda with
    | some ⟨_, _, .fields vs, _⟩ => (match (vs[2]? : Option Value) with
      | some (.str file _) => (P.main.file : Str) == file
      | _ => false)
    | _ => false)))
  | _, _ => false
abbrev FnS : Type := Option (Str × Str × Arguments × FuncBody × Scope × Addr × Addr)
abbrev XiD : Type := Str × Arguments × List Stmt × Scope
def fiA (K : PySem.W.Frag) (x : Str) : Addr := He.ma K (He.ga K x) "__init__"
def fnS (K : PySem.W.Frag) (x : Str) : FnS := match K.lookup (fiA K x) with
  | some ⟨_, _, .func fd, _⟩ => some (fd.name, fd.qualname, fd.params, fd.body, fd.scope, fd.globals, fd.builtins)
  | _ => none
def XiD.val (d : XiD) : FnS := some ("__init__", d.1 ++ ".__init__", d.2.1, .stmts d.2.2.1, d.2.2.2, mainGlobals, builtinsNs)
def supB (P : Program) (K : PySem.W.Frag) (x : Str) : Bool :=
  oexB K (He.ga K x) && (He.eqO (PySem.W.findIn K (.ref (He.ga K x)) "__setattr__") (some (some (.builtin "object.__setattr__"))) && (decide (PySem.W.subIn K (.ref (He.ga K x)) (.type "BaseException") = some true) && (decide (PySem.W.typeIn K (.ref (He.ga K x)) = some (.type "type")) && (PySem.W.keepIn K (.ref (He.ga K x)) &&
  (He.eqO (PySem.W.nsIn K mainGlobals "super") (some none) && (He.eqO (PySem.W.nsIn K cStatics "thirdparty.any") (some none) && ((match PySem.W.clsIn K (He.ga K x) with
    | some cd => He.eqO (PySem.W.alongIn K "__init__" ((cd.mro.dropWhile (· != .ref (He.ga K x))).drop 1)) (some (some (.builtin "ValueError.__init__")))
    | none => false) && (decide (PySem.W.mroIn K (He.ga K x) (.type "ValueError") = some true) && (decide (PySem.W.mroIn K (He.ga K x) (.ref (He.ga K x)) = some true) && (!(P.main.scope.names.lookup ("super" : Str)).isSome && (PySem.W.keepIn K (.ref (fiA K x)) &&
  (He.eqO (PySem.W.findIn K (.ref (He.ga K x)) "__init__") (some (some (.ref (fiA K x)))) && (decide (PySem.W.typeIn K (.ref (fiA K x)) = some (.type "function")) && (match K.lookup (fiA K x) with
    | some ⟨_, _, .func fd, _⟩ => (match fd.defaults with
      | .none => cloB P K (He.ga K x) fd
      | _ => false)
    | _ => false))))))))))))))
theorem supB_ok {P : Program} {K : PySem.W.Frag} {d : XiD} (h : supB P K d.1 = true) (hf : fnS K d.1 = d.val) : ∃ fd, SupF K P (fiA K d.1) (He.ga K d.1) (d.1 ++ ".__init__") d.2.1 d.2.2.1 d.2.2.2 fd ∧
    PySem.W.findIn K (.ref (He.ga K d.1)) "__init__" = some (some (.ref (fiA K d.1))) ∧ PySem.W.typeIn K (.ref (fiA K d.1)) = some (.type "function") ∧
    ∀ ps : List Str, (∀ (cl : List (Str × Addr)) (kV doc pm : Value) (an : Option Addr) (cdv ct : Value) (us : List Value), us.length = ps.length → bindArgs (PySem.W.fnX "__init__" (d.1 ++ ".__init__") d.2.1 d.2.2.1 d.2.2.2 cl .none kV doc pm an cdv ct) ⟨us, []⟩ = pure (ps.zip us)) → Binds K fd ps [] := by
  unfold supB at h
  obtain ⟨h1, h⟩ := He.ba h
  obtain ⟨h2, h⟩ := He.ba h
  obtain ⟨h3, h⟩ := He.ba h
  obtain ⟨h4, h⟩ := He.ba h
  obtain ⟨h5, h⟩ := He.ba h
  obtain ⟨h6, h⟩ := He.ba h
  obtain ⟨h7, h⟩ := He.ba h
  obtain ⟨h8, h⟩ := He.ba h
  obtain ⟨h9, h⟩ := He.ba h
  obtain ⟨h10, h⟩ := He.ba h
  obtain ⟨h11, h⟩ := He.ba h
  obtain ⟨h12, h⟩ := He.ba h
  obtain ⟨h13, h⟩ := He.ba h
  obtain ⟨h14, h15⟩ := He.ba h
  cases hl : K.lookup (fiA K d.1) with
  | none => rw [hl] at h15; cases h15
  | some o =>
    obtain ⟨oc, od, dt, osl⟩ := o
    rw [hl] at h15
    cases dt with
    | func fd =>
      unfold fnS at hf
      rw [hl] at hf
      obtain ⟨f1, f2, f3, f4, f5, f6, f7, f8, f9, f10, f11, f12, f13, f14, f15⟩ := fd
      have e := Option.some.inj hf
      simp only [Prod.mk.injEq] at e
      obtain ⟨rfl, rfl, rfl, rfl, rfl, rfl, rfl⟩ := e
      cases f8 with
      | none =>
        have h15 : cloB P K (He.ga K d.1) _ = true := h15
        unfold cloB at h15
        split at h15
        · rename_i nm cc cda hc hcode
          obtain ⟨g1, g⟩ := He.ba h15
          obtain ⟨g2, g⟩ := He.ba g
          obtain ⟨g3, g4⟩ := He.ba g
          have g1 := beq_iff_eq.mp g1
          subst g1
          dsimp only at hc hcode g2
          subst hc hcode
          split at g3
          · rename_i c1 c2 D0 c4 hcc
            have g3 := beq_iff_eq.mp g3
            subst g3
            split at g4
            · rename_i v1 v2 vs v4 hcda
              split at g4
              · rename_i file tf hvs
                obtain ⟨cd, hcd, hal⟩ : ∃ cd, PySem.W.clsIn K (He.ga K d.1) = some cd ∧ PySem.W.alongIn K "__init__" ((cd.mro.dropWhile (· != .ref (He.ga K d.1))).drop 1) = some (some (.builtin "ValueError.__init__")) := by
                  split at h8
                  · rename_i cd hcd
                    exact ⟨cd, hcd, He.eqO_ok h8⟩
                  · cases h8
                refine ⟨_, ⟨⟨oc, od, osl, cda, cc, .none, f9, f10, f11, f12, f14, c1, c2, c4, v1, v2, vs, v4, file, tf, rfl, hl, g2, hcc, hcda, hvs, g4⟩, ⟨oexB_ok h1, He.eqO_ok h2, of_decide_eq_true h3, of_decide_eq_true h4, h5⟩, He.eqO_ok h6, He.eqO_ok h7, ⟨cd, hcd, hal⟩, of_decide_eq_true h9, of_decide_eq_true h10, by simpa using h11, h12⟩,
                  He.eqO_ok h13, of_decide_eq_true h14, fun ps hb => ?_⟩
                exact .all (hb [("__class__", cc)] f9 f10 f11 f12 (.ref cda) f14)
              · cases g4
            · cases g4
          · cases g3
        · cases h15
      | _ => cases h15
    | _ => cases h15
/-! ### the Hook that sees the statics -/
def asY (g : Addr → Option Obj) (n : Nat) : List Addr := He.asD g n ++ [cStatics]
/-- what is told: HeadHook4's facts, and such classes' inits -/
structure SaysY (fa : List He.Fa) (fn : List He.DefD) (tf : List He.Defn) (sf : List XiD) (ex : PySem.W.Frag → Bool) (h : Heap) (K : PySem.W.Frag) : Prop where
  d : He.SaysD fa fn K
  more : ex K = true
  xi : sf.map (fun d => fnS K d.1) = sf.map XiD.val
  hd : ∀ p ∈ tf, PySem.W.codeHdIn K (He.cT K p).1 (He.cT K p).2 = true
  out : ∀ p ∈ tf, K.lookup (He.cT K p).2 = none
  empty : ∀ p ∈ tf, h.get? (He.cT K p).2 = some { cls := .none, data := .fields #[] }
abbrev AlY : Type := (He.AlD × Bool) × List FnS
def obsY (n : Nat) (fa : List He.Fa) (fn : List He.DefD) (tf : List He.Defn) (sf : List XiD) (ex : PySem.W.Frag → Bool) (g : Addr → Option Obj) : AlY :=
  ((He.obsD fa fn (He.frT g (asY g n)), ex (He.frT g (asY g n)) && He.tabsB g tf (He.frT g (asY g n))), sf.map fun d => fnS (He.frT g (asY g n)) d.1)
def valY (fn : List He.DefD) (sf : List XiD) : AlY := ((He.valD fn, true), sf.map XiD.val)
theorem saysY_of {n : Nat} {fa : List He.Fa} {fn : List He.DefD} {tf : List He.Defn} {sf : List XiD} {ex : PySem.W.Frag → Bool} {h : Heap} (e : obsY n fa fn tf sf ex h.get? = valY fn sf) : SaysY fa fn tf sf ex h (He.frT h.get? (asY h.get? n)) := by
  have e1 : He.obsD fa fn (He.frT h.get? (asY h.get? n)) = He.valD fn := congrArg (fun z : AlY => z.1.1) e
  have e2 : (ex (He.frT h.get? (asY h.get? n)) && He.tabsB h.get? tf (He.frT h.get? (asY h.get? n))) = true := congrArg (fun z : AlY => z.1.2) e
  have e3 : (sf.map fun d => fnS (He.frT h.get? (asY h.get? n)) d.1) = sf.map XiD.val := congrArg (fun z : AlY => z.2) e
  obtain ⟨h1, h2⟩ := He.ba e2
  have key : ∀ p ∈ tf, PySem.W.codeHdIn (He.frT h.get? (asY h.get? n)) (He.cT (He.frT h.get? (asY h.get? n)) p).1 (He.cT (He.frT h.get? (asY h.get? n)) p).2 = true ∧ ∃ o, h.get? (He.cT (He.frT h.get? (asY h.get? n)) p).2 = some o ∧ He.emptyTab o = true := fun p hp => by
    obtain ⟨h3, h4⟩ := He.ba (List.all_eq_true.mp h2 p hp)
    refine ⟨h3, ?_⟩
    cases q : h.get? (He.cT (He.frT h.get? (asY h.get? n)) p).2 with
    | none => rw [q] at h4; cases h4
    | some o => rw [q] at h4; exact ⟨o, rfl, h4⟩
  exact ⟨e1, h1, e3, fun p hp => (key p hp).1, fun p hp => by
    obtain ⟨_, o, q, z⟩ := key p hp
    exact He.frT_none q z, fun p hp => by
    obtain ⟨_, o, q, z⟩ := key p hp
    rw [q, He.emptyTab_eq z]⟩
def hookY (n : Nat) (fa : List He.Fa) (fn : List He.DefD) (tf : List He.Defn) (sf : List XiD) (ex : PySem.W.Frag → Bool) : PySem.W.Hook where
  α := AlY
  obs := fun s => obsY n fa fn tf sf ex s.heap.get?
  val := fun _ => valY fn sf
  says := fun _ h => ∃ K : PySem.W.Frag, K.In h ∧ SaysY fa fn tf sf ex h K
  of := fun _ _ e => ⟨_, He.frT_in, saysY_of e⟩
  keeps := fun _ _ _ ⟨K, hK, c⟩ k => ⟨K, PySem.W.Frag.In.keeps hK k, ⟨c.d, c.more, c.xi, c.hd, c.out, fun p hp => k _ _ (c.empty p hp)⟩⟩
theorem obsY_eq {n : Nat} {fa : List He.Fa} {fn : List He.DefD} {tf : List He.Defn} {sf : List XiD} {ex : PySem.W.Frag → Bool} {g : Addr → Option Obj} {s : Shared} (h : ∀ a, g a = s.heap.get? a) : obsY n fa fn tf sf ex g = (hookY n fa fn tf sf ex).obs s := by
  have e : g = s.heap.get? := funext h
  rw [e] <;> rfl
theorem SaysY.xi_at {fa : List He.Fa} {fn : List He.DefD} {tf : List He.Defn} {sf : List XiD} {ex : PySem.W.Frag → Bool} {h : Heap} {K : PySem.W.Frag} (c : SaysY fa fn tf sf ex h K) (i : Nat) {d : XiD} (hd : sf[i]? = some d := by rfl) : fnS K d.1 = d.val := by
  have e : (sf.map fun d => fnS K d.1)[i]? = (sf.map XiD.val)[i]? := by rw [c.xi]
  rw [List.getElem?_map, List.getElem?_map, hd] at e
  exact Option.some.inj e
end SW
set_option Elab.async false
set_option linter.all false
set_option maxRecDepth 100000
set_option maxHeartbeats 2000000
/-! Sw14: operators in place; items of tuples of any length. -/
namespace SW
open PySem PySem.Spec L2
open PyProof.Rows hiding St
section
variable {T : List (Addr × Str)} {X : Cx} {σ : St} {L R' R2' : List SA} {K : GK} {α β : Type} {R : PRep α} {S : PRep β} {v : V}
theorem gip_mul {i j : Int} (c : (-(2 ^ 64) < i ∧ i < 2 ^ 64) ∨ (-(2 ^ 64) < j ∧ j < 2 ^ 64)) (k : K (.int (i * j)) L) : GIp T X .Mult (.int i) (.int j) L K := GIp.of iop_mul (wr_I c k)
theorem gip_div {i j : Int} (c : 0 < j ∧ j < 1073741824) (k : K (.int (i / j)) L) : GIp T X .FloorDiv (.int i) (.int j) L K := GIp.of iop_fdiv (wr_I c k)
theorem gip_mod {i j : Int} (c : 0 < j) (k : K (.int (i % j)) L) : GIp T X .Mod (.int i) (.int j) L K := GIp.of iop_mod (wr_I c k)
/-- an item of a tuple -/
theorem gi_tl {ds : List α} {n : Nat} {d : α} (r : Rv T L v (rTl R) ds) (e : ds[n]? = some d) (k : ∀ x, K x (Val R x d :: L)) : GIx T X v (.int (n : Int)) L K := by
  intro H hs Q q
  obtain ⟨a, xs, rfl, ex, ax⟩ := r H hs
  obtain ⟨x, e1, rx⟩ := ax.get e
  intro value slice pins s' σ v u I rx' ry z
  exact ix_tup value slice pins s' σ H (.ref a) (.int n) v u Q I rx' ry ⟨a, xs, (n : Int), x, rfl, rfl, SqT.of ex, atI_nat e1, q _ _ _ (k x) (hs.addP Val.pers rx)⟩ z
theorem gi_tlS {f : α → V} {g : α → Prop} (c : Scal R f g) {ds : List α} {n : Nat} {d : α} (r : Rv T L v (rTl R) ds) (e : ds[n]? = some d) (k : K (f d) L) : GIx T X v (.int (n : Int)) L K := by
  intro H hs Q q
  obtain ⟨a, xs, rfl, ex, ax⟩ := r H hs
  obtain ⟨x, e1, rx⟩ := ax.get e
  obtain ⟨rfl, _⟩ := c.to rx
  intro value slice pins s' σ v u I rx' ry z
  exact ix_tup value slice pins s' σ H (.ref a) (.int n) v u Q I rx' ry ⟨a, xs, (n : Int), f d, rfl, rfl, SqT.of ex, atI_nat e1, q _ _ _ k hs⟩ z
theorem gi_pair0 {d : α × β} (r : Rv T L v (rPair R S) d) (k : ∀ x, K x (Val R x d.1 :: L)) : GIx T X v (.int 0) L K := by
  intro H hs Q q
  obtain ⟨a, x, y, rfl, ex, r1, r2⟩ := r H hs
  intro value slice pins s' σ v u I rx' ry z
  exact ix_tup value slice pins s' σ H (.ref a) (.int 0) v u Q I rx' ry ⟨a, [x, y], 0, x, rfl, rfl, SqT.of ex, rfl, q _ _ _ (k x) (hs.addP Val.pers r1)⟩ z
theorem gi_pair1 {d : α × β} (r : Rv T L v (rPair R S) d) (k : ∀ x, K x (Val S x d.2 :: L)) : GIx T X v (.int 1) L K := by
  intro H hs Q q
  obtain ⟨a, x, y, rfl, ex, r1, r2⟩ := r H hs
  intro value slice pins s' σ v u I rx' ry z
  exact ix_tup value slice pins s' σ H (.ref a) (.int 1) v u Q I rx' ry ⟨a, [x, y], 1, y, rfl, rfl, SqT.of ex, rfl, q _ _ _ (k y) (hs.addP Val.pers r2)⟩ z
theorem rv_tl1 {a : Addr} {x : V} {d : α} (s : Sel L (pt a (.tup [x])) R') (h : Rv T L x R d) : Rv T L (.ref a) (rTl R) [d] := fun H hs => ⟨a, [x], rfl, hs.at s, .cons (h H hs) .nil⟩
theorem rv_tl2 {a : Addr} {x y : V} {d e : α} (s : Sel L (pt a (.tup [x, y])) R') (h : Rv T L x R d) (h2 : Rv T L y R e) : Rv T L (.ref a) (rTl R) [d, e] := fun H hs => ⟨a, [x, y], rfl, hs.at s, .cons (h H hs) (.cons (h2 H hs) .nil)⟩
end
section
variable {T : List (Addr × Str)} {X : Cx} {σ : St} {L : List SA} {α : Type} {R : PRep α}
theorem gg_val {f : α → V} {g : α → Prop} (c : Scal R f g) {e : Expr} {v : V} {d : α} {K : St → List SA → Prop} (r : Rv T L v R d) (h : g d → GG T X e (f d) σ L K) : GG T X e v σ L K := fun H hs Q q => by
  obtain ⟨rfl, k⟩ := c.to (r H hs)
  exact h k H hs Q q
end
section
variable {T : List (Addr × Str)} {X : Cx} {σ : St} {L : List SA} {α β : Type} {R : PRep α} {S : PRep β} {v : V}
theorem pers_tup {a : Addr} {xs : List V} : Pers (fun h => h a = some (.tup xs)) := fun _ _ t e => t _ _ e
/-- a pair unpacked, its first of any kind -/
theorem gg_pairL {g : β → V} {cg : β → Prop} {es : List Expr} {k : Nat} {p : Pos} {K : St → List SA → Prop} (c2 : Scal S g cg) {d : α × β} (r : Rv T L v (rPair R S) d) (hc : X.calm = true) (hn : (assignEach es X.env).length = 2) (hst : (assignEach es X.env).findIdx? (·.1) = none)
    (h : ∀ x, cg d.2 → GGs T X es [x, g d.2] σ (Val R x d.1 :: L) K) : GG T X (.Tuple es k p) v σ L K := fun H hs Q q => by
  obtain ⟨a, x, y, rfl, e, h1, h2⟩ := r H hs
  obtain ⟨rfl, k2⟩ := c2.to h2
  exact gg_tupF (L := (fun h => h a = some (.tup [x, g d.2])) :: Val R x d.1 :: L) hc (xs := [x, g d.2]) hn hst (fun H' hs' => hs'.getP pers_tup .here) (fun H' hs' => h x k2 H' hs'.tail) H ((hs.addP Val.pers h1).addP pers_tup e) Q q
theorem ent_val {d : α} (r : Rv T L v R d) : Ent T L (Val R v d :: L) := fun H h => h.addP Val.pers (r H h)
end
theorem ite_nT {z : Str} {A B : Prop} (h : B) : if decide (V.str z = V.non) = true then A else B := by rw [decide_eq_false (by nofun)]; exact iteF h
theorem ite_nnT {z : Str} {A B : Prop} (h : A) : if (!decide (V.str z = V.non)) = true then A else B := by rw [decide_eq_false (by nofun)]; exact iteT h
/-- two values, in order -/
def K2 (P : V → V → List SA → Prop) : List V → List SA → Prop := fun vs L => ∃ v w, vs = [v, w] ∧ P v w L
theorem K2.mk {P : V → V → List SA → Prop} {v w : V} {L : List SA} (h : P v w L) : K2 P [v, w] L := ⟨v, w, rfl, h⟩
theorem gs_par2 {X : Cx} {σ : St} {L : List SA} {D : EndsL} {N : List Str} {ks : List (Str × NameKind)} {x y : Str} {f1 : V → St} {f2 : V → V → St} {a b : Expr} {px py p3 pos : Pos} {kt k2 p4} (n : Nm X N ks) (s1 : Slot N σ x f1) (s2 : ∀ v, Slot N (f1 v) y (f2 v)) (h1 : Kd ks x .local) (h2 : Kd ks y .local) (hne : decide (x = y) = false) (hc : X.calm = true)
    (hw : swappedStores [.Tuple [.Name x px, .Name y py] kt p3] (.Tuple [a, b] k2 p4) X.env = pure (some [x, y])) (hs : swapsWithSole [.Tuple [.Name x px, .Name y py] kt p3] (.Tuple [a, b] k2 p4) pos.line X.env = pure false)
    (h : GA T X [a, b] σ L (K2 fun v w => D.nx (f2 v w))) : GS T X (.Assign [.Tuple [.Name x px, .Name y py] kt p3] (.Tuple [a, b] k2 p4) pos) D σ L := by
  obtain ⟨i, hi, ei⟩ := s1.ix
  have hj : ∃ j : Nat, N[j]? = some y ∧ ∀ v w, f2 v w = (f1 v).set j (some w) := by
    obtain ⟨j, hj, ej⟩ := (s2 .non).ix
    refine ⟨j, hj, fun v w => ?_⟩
    obtain ⟨j', hj', ej'⟩ := (s2 v).ix
    have hlt : j < N.length := by
      by_cases c : j < N.length
      · exact c
      · rw [List.getElem?_eq_none (by omega)] at hj; cases hj
    have : j = j' := (List.getElem?_inj hlt n.nd).mp (by rw [hj, hj'])
    subst this
    exact ej' w
  obtain ⟨j, hj, ej⟩ := hj
  have hij : i ≠ j := fun z => by
    subst z
    rw [hi] at hj
    cases hj
    exact of_decide_eq_false hne rfl
  refine gs_par hc n.ndN (by rw [n.nn]; exact hi) (by rw [n.nn]; exact hj) hij (n.look h1) (n.look h2) hw hs fun H hh Q q => h H hh Q fun vs L1 H1 ⟨v, w, e, k⟩ h1 => q vs L1 H1 ⟨v, w, e, by rw [← ei, ← ej]; exact k⟩ h1
end SW
set_option Elab.async false
set_option linter.all false
set_option maxRecDepth 100000
set_option maxHeartbeats 2000000
/-! Sw15: dicts over rows. -/
namespace SW
open PySem PySem.Spec L2
open PyProof.Rows hiding St
section
variable {X : Cx}
theorem ix_dict (hu : X.A.units + 1 < cLine) : IxR X (fun x y H Q => ∃ a v, x = .ref a ∧ DGet H a y (some v) ∧ Q v H) := by
  intro value slice pins s σ H x y v u Q I rx ry h hs
  obtain ⟨p, r, rfl, g, q⟩ := h
  obtain rfl : v = Value.ref p := rx
  exact tail_any (dict_typeIs I g) PySem.F.slot_dict_getitem.lookup (d_getItem hu I g ry fun w' s3 I3 rw' => ⟨r, H, I3, rw', q⟩) hs
end
section
variable {T : List (Addr × Str)} {X : Cx} {σ : St} {L L' R' R2' : List SA} {K : GK} {D : EndsL} {pos pos' apos cpos : Pos} {o i e f value : Expr} {p q : Addr} {kvs ls : List (Key × V)} {k : Key} {v y : V}
theorem ge_dnew (h : ∀ p, K (.ref p) (pt p (.dK []) :: L)) : GE T X (.Dict [] [] pos) σ L K := GE.of pe_dnewK fun H hs Q q => fun p hp => q _ _ _ (h p) (hs.new hp fun _ => nofun)
theorem ge_dnewT (h : ∀ p, K (.ref p) (pt p (.dT []) :: L)) : GE T X (.Dict [] [] pos) σ L K := GE.of pe_dnewT fun H hs Q q => fun p hp => q _ _ _ (h p) (hs.new hp fun _ => nofun)
theorem units_of {n : Nat} (hr : Room n X.A) : X.A.units + 1 < cLine := by have := hr.units; omega
theorem op_inD (hu : X.A.units + 1 < cLine) : OpR X (compareOp .In) (fun x y H Q => ∃ a r, y = .ref a ∧ DGet H a x r ∧ Q (.bl r.isSome) H) := by
  intro pins s σ H x y v u Q I rx ry h
  obtain ⟨a, r, rfl, g, q⟩ := h
  obtain rfl : u = Value.ref a := ry
  exact d_in hu I g rx fun s3 I3 => ⟨.bl r.isSome, H, I3, rfl, q⟩
theorem op_ninD (hu : X.A.units + 1 < cLine) : OpR X (compareOp .NotIn) (fun x y H Q => ∃ a r, y = .ref a ∧ DGet H a x r ∧ Q (.bl (!r.isSome)) H) := by
  intro pins s σ H x y v u Q I rx ry h
  obtain ⟨a, r, rfl, g, q⟩ := h
  obtain rfl : u = Value.ref a := ry
  exact d_notIn hu I g rx fun s3 I3 => ⟨.bl (!r.isSome), H, I3, rfl, q⟩
variable {n : Nat}
/-- d[y], there -/
theorem gi_dK (hr : Room n X.A) (s : Sel L (pt p (.dK kvs)) R') (ey : y = kV k) (e : valV kvs k = some v) (h : K v L) : GIx T X (.ref p) y L K :=
  GIx.of (ix_dict (units_of hr)) fun H hs Q q => ⟨p, v, rfl, by rw [ey, ← e]; exact DGet.k (hs.at s), q _ _ _ h hs⟩
theorem go_inDK (hr : Room n X.A) (s : Sel L (pt p (.dK kvs)) R') (ey : y = kV k) (h : K (.bl (valV kvs k).isSome) L) : GOp T X (compareOp .In) y (.ref p) L K :=
  GOp.of (op_inD (units_of hr)) fun H hs Q q => ⟨p, _, rfl, by rw [ey]; exact DGet.k (hs.at s), q _ _ _ h hs⟩
theorem go_ninDK (hr : Room n X.A) (s : Sel L (pt p (.dK kvs)) R') (ey : y = kV k) (h : K (.bl (!(valV kvs k).isSome)) L) : GOp T X (compareOp .NotIn) y (.ref p) L K :=
  GOp.of (op_ninD (units_of hr)) fun H hs Q q => ⟨p, _, rfl, by rw [ey]; exact DGet.k (hs.at s), q _ _ _ h hs⟩
/-- d[y] = v -/
def GPutD (T : List (Addr × Str)) (o i v : V) (L : List SA) (N : List SA → Prop) : Prop := ∃ p kvs k L', o = .ref p ∧ i = kV k ∧ Rpl L (pt p (.dK kvs)) (pt p (.dK (putK kvs k v))) L' ∧ kvs.length < sizeLine ∧ N L'
theorem gg_subD {K : St → List SA → Prop} (hr : Room n X.A)
    (ha : ∀ v, assign (.Subscript o i pos) X.env v = (do
      let ov ← holding [v] (eval o X.env)
      let iv ← holding [v, ov] (eval i X.env)
      standAt pos
      holding [v, ov, iv] (setItem ov iv v)
      release [v, ov, iv] []))
    (h : GE T X o σ L fun ov L1 => GE T X i σ L1 fun iv L2 => GPutD T ov iv v L2 (K σ)) : GG T X (.Subscript o i pos) v σ L K :=
  GG.of (pg_sub peW peW (set_dict (units_of hr)) ha) fun H hs Q q => h H hs _ fun ov L1 H1 k1 h1 => k1 H1 h1 _ fun iv L2 H2 ⟨p, kvs, k, L', e1, e2, r, z, k2⟩ h2 => by
    obtain ⟨R, s⟩ := r.sel
    have e3 := h2.at s
    have h3 := h2.rpl r True.intro (fun _ => nofun)
    exact ⟨p, _, e1, by rw [e2]; exact DPut.k e3 z, q _ _ _ k2 h3⟩
/-! ### get, pop -/
def HasD (T : List (Addr × Str)) (L : List SA) (a : Addr) : Prop := ∀ H, Hs T L H → IsD H a
theorem hasD (s : Sel L (pt p (.dK kvs)) R') : HasD T L p := fun H h => .inl ⟨kvs, .inl (h.at s)⟩
def GDGet (p : Addr) (y z : V) (L : List SA) (K : GK) : Prop := ∃ kvs k R, Sel L (pt p (.dK kvs)) R ∧ y = kV k ∧ K ((valV kvs k).getD z) L
theorem ge_dget1 (hr : Room n X.A) (m : M1 X o "get" apos e cpos) (h : GE T X o σ L fun x L1 => ∃ a, x = .ref a ∧ HasD T L1 a ∧ GE T X e σ L1 fun y L2 => GDGet a y .non L2 K) : GE T X (.Call (.Attribute o "get" apos) [e] [] cpos) σ L K :=
  GE.of (pe_dget1 (units_of hr) peW peW m) fun H hs Q q => h H hs _ fun x L1 H1 ⟨a, ex, d, k1⟩ h1 => ⟨a, ex, d H1 h1, k1 H1 h1 _ fun y L2 H2 ⟨kvs, k, R, s, ey, k2⟩ h2 => ⟨_, by rw [ey]; exact DGet.k (h2.at s), q _ _ _ k2 h2⟩⟩
theorem ge_dget2 (hr : Room n X.A) (m : M2 X o "get" apos e f cpos) (h : GE T X o σ L fun x L1 => ∃ a, x = .ref a ∧ HasD T L1 a ∧ GE T X e σ L1 fun y L2 => GE T X f σ L2 fun z L3 => GDGet a y z L3 K) : GE T X (.Call (.Attribute o "get" apos) [e, f] [] cpos) σ L K :=
  GE.of (pe_dget2 (units_of hr) peW peW peW m) fun H hs Q q => h H hs _ fun x L1 H1 ⟨a, ex, d, k1⟩ h1 => ⟨a, ex, d H1 h1, k1 H1 h1 _ fun y L2 H2 k2 h2 => k2 H2 h2 _ fun z L3 H3 ⟨kvs, k, R, s, ey, k3⟩ h3 => ⟨_, by rw [ey]; exact DGet.k (h3.at s), q _ _ _ k3 h3⟩⟩
def GDPop (T : List (Addr × Str)) (p : Addr) (y z : V) (L : List SA) (K : GK) : Prop := ∃ kvs k L', Rpl L (pt p (.dK kvs)) (pt p (.dK (dropK kvs k))) L' ∧ y = kV k ∧ (∀ v, valV kvs k = some v → K v L') ∧ (valV kvs k = none → K z L)
theorem ge_dpop2 (m : M2 X o "pop" apos e f cpos) (h : GE T X o σ L fun x L1 => ∃ a, x = .ref a ∧ HasD T L1 a ∧ GE T X e σ L1 fun y L2 => GE T X f σ L2 fun z L3 => GDPop T a y z L3 K) : GE T X (.Call (.Attribute o "pop" apos) [e, f] [] cpos) σ L K :=
  GE.of (pe_dpop2 peW peW peW m) fun H hs Q q => h H hs _ fun x L1 H1 ⟨a, ex, d, k1⟩ h1 => ⟨a, ex, d H1 h1, k1 H1 h1 _ fun y L2 H2 k2 h2 => k2 H2 h2 _ fun z L3 H3 ⟨kvs, k, L', r, ey, k3, k4⟩ h3 => by
    obtain ⟨R, s⟩ := r.sel
    exact ⟨kvs, k, h3.at s, ey, fun v hv => q _ _ _ (k3 v hv) (h3.rpl r True.intro (fun _ => nofun)), fun hv => q _ _ _ (k4 hv) h3⟩⟩
theorem go_eqDK (hr : Room n X.A) (s : Sel L (pt p (.dK kvs)) R') (s2 : Sel L (pt q (.dK ls)) R2') (hl : kvs.length = ls.length) (he : ∀ x ∈ kvs, valV ls x.1 = some x.2 ∧ flatB x.2 = true) (h : K (.bl true) L) : GOp T X (compareOp .Eq) (.ref p) (.ref q) L K :=
  GOp.of (op_eq_dictA (by have := units_of hr; omega)) fun H hs Q qq => ⟨p, q, kvs, ls, rfl, rfl, hs.at s, hs.at s2, hl, he, qq _ _ _ h hs⟩
theorem go_neDK (hr : Room n X.A) (s : Sel L (pt p (.dK kvs)) R') (s2 : Sel L (pt q (.dK ls)) R2') (hl : kvs.length = ls.length) (he : ∀ x ∈ kvs, valV ls x.1 = some x.2 ∧ flatB x.2 = true) (h : K (.bl false) L) : GOp T X (compareOp .NotEq) (.ref p) (.ref q) L K :=
  GOp.of (op_ne_dictA (by have := units_of hr; omega)) fun H hs Q qq => ⟨p, q, kvs, ls, rfl, rfl, hs.at s, hs.at s2, hl, he, qq _ _ _ h hs⟩
/-! ### locked while a loop runs -/
/-- the thing is let go behind -/
def Thaw (d : Addr) (od : Obj) (u : HO) (N : List SA → Prop) (L : List SA) : Prop := ∃ L1, Rpl L (pt d (.frz od u)) (pt d u) L1 ∧ N L1
theorem Thaw.run {T : List (Addr × Str)} {d : Addr} {od : Obj} {u : HO} {N : List SA → Prop} {L : List SA} {H : Hp} (hu : NoTbl u) (t : Thaw d od u N L) (h : Hs T L H) : H d = some (.frz od u) ∧ ∃ L1, N L1 ∧ Hs T L1 (upd H d u) := by
  obtain ⟨L1, r, k⟩ := t
  obtain ⟨R, s⟩ := r.sel
  exact ⟨h.at s, L1, k, h.rpl r True.intro hu⟩
theorem gs_lock {d : Addr} {u : HO} {st : Stmt} (hu : Wr u) (hm : Mut (some u)) (hn : NoTbl u) (s : Sel L (pt d u) R')
    (h : ∀ od, GS T X st { nx := fun σ' => Thaw d od u (D.nx σ'), rt := fun v => Thaw d od u (D.rt v), bk := fun σ' => Thaw d od u (D.bk σ'), ct := fun σ' => Thaw d od u (D.ct σ') } σ (pt d (.frz od u) :: R')) : GS T X st D σ L :=
  GS.of (ps_lock psW) fun H hs D0 l => by
    have h0 := hs.sel s
    refine ⟨d, u, h0.get, hm, fun od => h od _ (h0.wr hu (fun _ => nofun)) _ ⟨fun σ' L' H' t h' => ?_, fun v L' H' t h' => ?_, fun σ' L' H' t h' => ?_, fun σ' L' H' t h' => ?_⟩⟩
    · obtain ⟨e, L1, k, h1⟩ := t.run hn h'; exact ⟨e, l.nx _ _ _ k h1⟩
    · obtain ⟨e, L1, k, h1⟩ := t.run hn h'; exact ⟨e, l.rt _ _ _ k h1⟩
    · obtain ⟨e, L1, k, h1⟩ := t.run hn h'; exact ⟨e, l.bk _ _ _ k h1⟩
    · obtain ⟨e, L1, k, h1⟩ := t.run hn h'; exact ⟨e, l.ct _ _ _ k h1⟩
theorem ge_lock {d : Addr} {u : HO} {e : Expr} (hu : Wr u) (hm : Mut (some u)) (hn : NoTbl u) (s : Sel L (pt d u) R')
    (h : ∀ od, GE T X e σ (pt d (.frz od u) :: R') fun v => Thaw d od u (K v)) : GE T X e σ L K :=
  GE.of (pe_lock peW) fun H hs Q q => by
    have h0 := hs.sel s
    refine ⟨d, u, h0.get, hm, fun od => h od _ (h0.wr hu (fun _ => nofun)) _ fun v L' H' t h' => ?_⟩
    obtain ⟨e, L1, k, h1⟩ := t.run hn h'
    exact ⟨e, q _ _ _ k h1⟩
end
end SW
set_option Elab.async false
set_option linter.all false
set_option maxRecDepth 100000
set_option maxHeartbeats 2000000
/-! Sw16: loops and comprehensions over a locked dict. -/
namespace SW
open PySem PySem.Spec L2
open PyProof.Rows hiding St
section
variable {T : List (Addr × Str)} {X : Cx} {σ σ0 : St} {L R' : List SA} {K : GK} {D : EndsL} {tg iter elt : Expr} {body : List Stmt} {ifs : List Expr} {scope : Scope} {pos apos cpos : Pos}
/-- for k in d, d locked -/
theorem gs_forK (hp : PassesOwn (model X.prog X.w) X.A X.env X.xe) (hc : X.calm = true) (hf : ∀ x, foldedSetIterable iter X.env x = pure x)
    (h0 : GE T X iter σ L fun v L1 => ∃ (d : Addr) (od : Obj) (kvs : List (Key × V)) (inv : Nat → St → List SA → Prop), v = .ref d ∧ Fits T (inv 0) σ L1 ∧ (∀ i σ' L', inv i σ' L' → ∃ R, Sel L' (pt d (.frz od (.dK kvs))) R) ∧
      (∀ i k y σ' L', kvs[i]? = some (k, y) → inv i σ' L' → GG T X tg (kV k) σ' L' fun σ2 L2 => GSs T X body { D with nx := Fits T (inv (i + 1)), ct := Fits T (inv (i + 1)), bk := D.nx } σ2 L2) ∧
      (∀ σ' L', inv kvs.length σ' L' → D.nx σ' L')) : GS T X (.For tg iter body [] pos) D σ L := by
  refine GS.of (ps_for hp hc (pi_keys peW) pgW pssW hf) fun H hh D0 le => h0 H hh _ fun v L1 H1 ⟨d, od, kvs, inv, ev, iv, hl, hs, hd⟩ h1 => ?_
  obtain ⟨L1, iv, h1⟩ := fits_hs iv h1
  obtain ⟨R1, s1⟩ := hl _ _ _ iv
  refine ⟨d, od, ev, .inl ⟨kvs, h1.at s1, wfor (Itk d od kvs) kvs.length inv (fun σ L H i h => ?_) (fun i σ L H hi iv h => ?_) (fun i σ L H hi iv h x H' y => ?_) hd h1 iv le⟩⟩
  · obtain ⟨R, s⟩ := hl _ _ _ i
    exact ⟨h.at s, Nat.le_refl _⟩
  · obtain ⟨R, s⟩ := hl _ _ _ iv
    exact ⟨h.at s, hi⟩
  · obtain ⟨e, k, y, hk, rfl⟩ := y
    subst e
    exact ⟨L, h, hs i k y σ L hk iv⟩
/-- [elt for k in d if ..], d locked -/
theorem ge_lcK (own : List (Str × Nat)) (hc : X.calm = true) (hN : X.N.Nodup) (ok : BlkOk X.N X.env.scope scope own) (hw : Wp σ (own.map (·.2)) σ0) (hf : ∀ x, foldedSetIterable iter X.env x = pure x)
    (h0 : GE T X iter σ L fun v L1 => ∃ (d : Addr) (od : Obj) (kvs : List (Key × V)), v = .ref d ∧ (∃ R, Sel L1 (pt d (.frz od (.dK kvs))) R) ∧ LcGo T X scope tg elt ifs (own.map (·.2)) σ σ0 L1 kvs.length (fun i x Lx => (∃ k y, kvs[i]? = some (k, y) ∧ x = kV k) ∧ Lx = []) K) : GE T X (.ListComp elt [⟨tg, iter, ifs, 0⟩] scope pos) σ L K :=
  GE.of (pe_lcW hc hN (pi_keys peW) ok hf) <| by
  refine fun H hh Q q => h0 H hh _ fun v L1 H1 ⟨d, od, kvs, ev, ⟨R1, s1⟩, γ, acc, φ, g0, p0, a0, hs, hd⟩ h1 => ⟨d, od, ev, .inl ⟨kvs, h1.at s1, fun D hD => ?_⟩⟩
  have sel : ∀ {g}, Sel (acc D g :: L1) (pt d (.frz od (.dK kvs))) (acc D g :: R1) := fun {g} => .there s1
  refine wlc (Itk d od kvs) kvs.length D (fun i L' => ∃ g, φ i g ∧ L' = acc D g :: L1) hw.eq (fun L H i h => ?_) (fun i L H hi iv h => ?_) (fun i L H hi iv h x H' y => ?_) ⟨_, ⟨g0, p0, rfl⟩, start_acc a0 h1 hD⟩ fun L' H' iv h' => ?_
  · obtain ⟨g, pg, rfl⟩ := i
    exact ⟨h.at sel, Nat.le_refl _⟩
  · obtain ⟨g, pg, rfl⟩ := iv
    exact ⟨h.at sel, hi⟩
  · obtain ⟨g, pg, rfl⟩ := iv
    obtain ⟨e, k, y, hk, rfl⟩ := y
    subst e
    exact ⟨_, h, lct_imp (hs D i (kV k) [] g hi ⟨⟨k, y, hk, rfl⟩, rfl⟩ pg) fun _ => lcn_fit⟩
  · obtain ⟨g, pg, rfl⟩ := iv
    exact q _ _ _ (hd D g pg) h'
end
section
variable {T : List (Addr × Str)} {X : Cx} {L R' : List SA} {K : GK} {α β : Type} {R : PRep α} {S : PRep β}
theorem pairs_at {KK : PySem.W.Frag} {f : α → V} {g : β → V} {cf : α → Prop} {cg : β → Prop} (c1 : Scal R f cf) (c2 : Scal S g cg) {ky : α → Key} (hk : ∀ a, f a = kV (ky a)) {H : Hp} {xs : List V} {ds : List (α × β)} (a : A2r (rPair R S) H xs ds) :
    ∃ ps : List Addr, xs = ps.map V.ref ∧ Paired (fun p kv => SqT KK H p [kV kv.1, kv.2]) ps (ds.map fun d => (ky d.1, g d.2)) := by
  induction a with
  | nil => exact ⟨[], rfl, .nil⟩
  | cons r t ih =>
    obtain ⟨ps, rfl, hp⟩ := ih
    obtain ⟨a, x, y, rfl, e, h1, h2⟩ := r
    obtain ⟨rfl, _⟩ := c1.to h1
    obtain ⟨rfl, _⟩ := c2.to h2
    refine ⟨a :: ps, rfl, .cons ?_ hp⟩
    rw [← hk]
    exact SqT.of e
/-- dict(list of pairs) -/
theorem gc_dictP {f : α → V} {g : β → V} {cf : α → Prop} {cg : β → Prop} (c1 : Scal R f cf) (c2 : Scal S g cg) {ky : α → Key} (hk : ∀ a, f a = kV (ky a)) (hc : X.calm = true) {a : Addr} {ds : List (α × β)} (s : Sel L (LstR (rPair R S) a ds) R')
    (k : ∀ p, K (.ref p) (pt p (.dK (mergeK [] (ds.map fun d => (ky d.1, g d.2)))) :: L)) : GC T X (.type "dict") [.ref a] L K :=
  GC.of (call_dictP hc) fun H hs Q q => by
    obtain ⟨xs, e, r⟩ : ∃ xs, H a = some (.lst xs) ∧ A2r (rPair R S) H xs ds := hs.factP (fun g ⟨xs, e1, r⟩ sub => ⟨xs, (sub a _ e1).1, r.mono sub.tup⟩) s
    obtain ⟨ps, rfl, hp⟩ := pairs_at (KK := X.K) c1 c2 hk r
    exact ⟨a, ps, _, rfl, SqL.of e, hp, fun p hn => q _ _ _ (k p) (hs.new hn fun _ => nofun)⟩
end
end SW
set_option Elab.async false
set_option linter.all false
set_option maxRecDepth 100000
set_option maxHeartbeats 2000000
/-! Sw17: pieces with data. -/
namespace SW
open PySem PySem.Spec L2
open PyProof.Rows hiding St
def ObD {δ : Type} (F : δ → SA) (ps : List δ) : SA := fun h => Pcs (ps.map F) h
section
variable {T : List (Addr × Str)} {δ : Type} {F : δ → SA} {p : δ} {A B : List δ} {L : List SA}
theorem obd_nil : Fit (ObD F [] :: L) L := fun H h => Pcs.unf (L1 := []) h
theorem obd_nil' : Fit L (ObD F [] :: L) := fun H h => Pcs.fold (L1 := []) h
theorem obd_cons : Fit (ObD F (p :: B) :: L) (F p :: ObD F B :: L) := fun H h => Pcs.cons2 Cv.id (fun _ g => Pcs.fold g) (Pcs.unf (L1 := F p :: B.map F) h)
theorem obd_cons' : Fit (F p :: ObD F B :: L) (ObD F (p :: B) :: L) := fun H h => Pcs.fold (L1 := F p :: B.map F) (Pcs.cons2 Cv.id (fun _ g => Pcs.unf g) h)
theorem obd_app : Fit (ObD F (A ++ B) :: L) (ObD F A :: ObD F B :: L) := by
  induction A with
  | nil => exact obd_nil'
  | cons a A ih => exact Fit.trans obd_cons (Fit.trans (Fit.tl ih) obd_cons')
theorem obd_app' : Fit (ObD F A :: ObD F B :: L) (ObD F (A ++ B) :: L) := by
  induction A with
  | nil => exact obd_nil
  | cons a A ih => exact Fit.trans obd_cons (Fit.trans (Fit.tl ih) obd_cons')
theorem obd_one : Fit (F p :: L) (ObD F [p] :: L) := Fit.trans (Fit.tl obd_nil') obd_cons'
/-- one taken out of the midst -/
theorem obd_out : Fit (ObD F (A ++ p :: B) :: L) (F p :: ObD F A :: ObD F B :: L) := Fit.trans obd_app (Fit.trans (Fit.tl obd_cons) (Fit.of (List.Perm.swap _ _ _)))
theorem obd_in : Fit (F p :: ObD F A :: ObD F B :: L) (ObD F (A ++ p :: B) :: L) := Fit.trans (Fit.of (List.Perm.swap _ _ _)) (Fit.trans (Fit.tl obd_cons') obd_app')
end
end SW
set_option Elab.async false
set_option linter.all false
set_option maxRecDepth 100000
set_option maxHeartbeats 2000000
/-! Sw18: comprehensions of two generators; types as values; ord; persistent tuples. -/
namespace SW
open PySem PySem.Spec L2
open PyProof.Rows hiding St
section
variable {T : List (Addr × Str)} {X : Cx} {σ σ0 : St} {L R' : List SA} {K : GK} {elt tg tg1 iter iter1 : Expr} {ifs1 : List Expr} {scope : Scope} {vs1 : List Nat} {pos : Pos} {α : Type}
/-- [elt for tg in xs for tg1 in iter1 if ..]: xs a plain list, the inner ones lists of data -/
theorem ge_lc2 (own : List (Str × Nat)) (vs1 : List Nat) (R : PRep α) (hc : X.calm = true) (hN : X.N.Nodup) (ok : BlkOk X.N X.env.scope scope own) (hv : ∀ i ∈ vs1, i ∈ own.map (·.2)) (hw : Wp σ (own.map (·.2)) σ0) (hf : ∀ x, foldedSetIterable iter X.env x = pure x) (hf1 : ∀ env x, foldedSetIterable iter1 env x = pure x)
    (h0 : GE T X iter σ L fun v L1 => ∃ (l : Addr) (xs : List V) (inv : Nat → Addr → List SA → Prop), v = .ref l ∧ (∃ R0, Sel L1 (pt l (.lst xs)) R0) ∧ (∀ D, FitL T (inv 0 D) (pt D (.lst []) :: L1)) ∧ (∀ i D L', inv i D L' → ∃ R0, Sel L' (pt l (.lst xs)) R0) ∧
      (∀ i x D L', xs[i]? = some x → inv i D L' → ∀ s H C cl fp, GG T (blkX X s H scope C cl fp) tg x σ0 L' fun σ2 L2 => wipe σ2 (own.map (·.2)) = wipe σ (own.map (·.2)) ∧ ∀ s H C cl fp, GE T (blkX X s H scope C cl fp) iter1 σ2 L2 fun v1 L3 =>
        ∃ (l1 : Addr) (ds : List α) (inv1 : Nat → List SA → Prop) (σ20 : St), v1 = .ref l1 ∧ Wp σ2 vs1 σ20 ∧ FitL T (inv1 0) L3 ∧ (∀ j L', inv1 j L' → ∃ R0, Sel L' (LstR R l1 ds) R0) ∧
          (∀ j d x1 L', ds[j]? = some d → inv1 j L' → LcTurn T X scope tg1 elt ifs1 vs1 σ2 σ20 D x1 (Val R x1 d :: L') (FitL T (inv1 (j + 1)))) ∧ ∀ L', inv1 ds.length L' → FitL T (inv (i + 1) D) L') ∧
      ∀ D L', inv xs.length D L' → K (.ref D) L') : GE T X (.ListComp elt [⟨tg, iter, [], 0⟩, ⟨tg1, iter1, ifs1, 0⟩] scope pos) σ L K := by
  refine GE.of (pe_lc2 (wi1 := iList X.K (eB X scope iter1)) (vs1 := vs1) (g := gB X scope tg) (tt := tB_ X scope []) (g1 := gB X scope tg1) (tt1 := tB_ X scope ifs1) (te := eB X scope elt) hc hN (pi_list peW) ok hv (fun s H C cl fp => ⟨fun pins s' σ H' v u Q I r h => h s H C cl fp pins s' u I r⟩) (fun s H C cl fp => ⟨fun pins s' σ H' Q I h => h s H C cl fp pins s' I⟩)
    (fun s H C cl fp => pi_list (X := blkX X s H scope C cl fp) ⟨fun pins s' σ H' Q I h => h s H C cl fp pins s' I⟩) (fun s H C cl fp => ⟨fun pins s' σ H' v u Q I r h => h s H C cl fp pins s' u I r⟩) (fun s H C cl fp => ⟨fun pins s' σ H' Q I h => h s H C cl fp pins s' I⟩) (fun s H C cl fp => ⟨fun pins s' σ H' Q I h => h s H C cl fp pins s' I⟩) hf hf1) ?_
  refine fun H hh Q q => h0 H hh _ fun v L1 H1 ⟨l, xs, inv, ev, ⟨R1, s1⟩, hi0, hl, hs, hd⟩ h1 => ⟨l, ev, ⟨xs, SqL.of (h1.at s1)⟩, fun D hD => ?_⟩
  have hw2 := hw.eq
  have h2 : Hs T (pt D (.lst []) :: L1) (upd H1 D (.lst [])) := h1.new hD fun _ => nofun
  obtain ⟨W0, iv0, h3⟩ := fitL_hs (hi0 D) h2
  refine ⟨fun i m H => m = xs.length - i ∧ i ≤ xs.length ∧ ∃ L, inv i D L ∧ Hs T L H, ⟨xs.length, by simp, Nat.zero_le _, W0, iv0, h3⟩, ?_⟩
  rintro i m H ⟨rfl, hi, L, iv, hs'⟩
  obtain ⟨R2, s2⟩ := hl _ _ _ iv
  by_cases hlt : i < xs.length
  · refine .inr ⟨⟨xs, xs[i], SqL.of (hs'.at s2), by simp [hlt]⟩, fun H' => ∃ L', inv (i + 1) D L' ∧ Hs T L' H', fun H' q => ⟨xs.length - (i + 1), by omega, rfl, hlt, q⟩, fun x H' y => ?_⟩
    obtain ⟨e, y⟩ := y
    subst e
    have hx := y xs (SqL.of (hs'.at s2))
    intro s H0 C cl fp
    have g := hs i x D L hx iv s H0 C cl fp H' hs'
    rw [hw2] at g
    refine g _ fun σ2 L2 H2 ⟨e, k2⟩ h2 => ⟨e, ?_⟩
    intro s H0 C cl fp pins s' I
    refine (pts_nil (X := blkX X s H0 scope C cl fp)).run pins s' σ2 H2 _ I ?_
    simp only [tYes, if_true]
    intro s H0 C cl fp
    refine k2 s H0 C cl fp H2 h2 _ fun v1 L3 H3 ⟨l1, ds, inv1, σ20, ev1, hw1, hj0, hl1, hs1, hd1⟩ h3 => ?_
    obtain ⟨L4, iv4, h4⟩ := fitL_hs hj0 h3
    obtain ⟨R4, s4⟩ := hl1 _ _ iv4
    obtain ⟨ys, e4, r4⟩ := h4.atR s4
    refine ⟨l1, ev1, ⟨ys, SqL.of e4⟩, fun j k H => k = ds.length - j ∧ j ≤ ds.length ∧ ∃ L, inv1 j L ∧ Hs T L H, ⟨ds.length, by simp, Nat.zero_le _, L4, iv4, h4⟩, ?_⟩
    rintro j k H5 ⟨rfl, hj, L5, iv5, h5⟩
    obtain ⟨R5, s5⟩ := hl1 _ _ iv5
    obtain ⟨zs, e5, r5⟩ := h5.atR s5
    by_cases hjl : j < ds.length
    · have hjz : j < zs.length := by rw [r5.length]; exact hjl
      refine .inr ⟨⟨zs, zs[j], SqL.of e5, by simp [hjz]⟩, fun H' => ∃ L', inv1 (j + 1) L' ∧ Hs T L' H', fun H' q => ⟨ds.length - (j + 1), by omega, rfl, hjl, q⟩, fun x1 H' y => ?_⟩
      obtain ⟨e, y⟩ := y
      subst e
      obtain ⟨d, hd', rr⟩ := r5.get' (y zs (SqL.of e5))
      exact turn_ok hw1.eq (hs1 j d x1 L5 hd' iv5) (h5.addP Val.pers rr)
    · have ej : j = ds.length := by omega
      subst ej
      refine .inl ⟨⟨zs, SqL.of e5, Nat.le_of_eq r5.length⟩, ?_⟩
      exact fitL_hs (hd1 _ iv5) h5
  · have e : i = xs.length := by omega
    subst e
    exact .inl ⟨⟨xs, SqL.of (hs'.at s2), Nat.le_refl _⟩, q _ _ _ (hd D L iv) hs'⟩
end
/-! ### types as values -/
section
variable {T : List (Addr × Str)} {X : Cx} {σ : St} {L R' : List SA} {K : GK} {N : List Str} {ks : List (Str × NameKind)} {e : Expr} {es : List Expr} {p pos : Pos} {x : Str} {n : String}
theorem ge_ty (nm : Nm X N ks) (h : Kd ks x .globalImplicit) (hm : X.mg x = none) (hv : bootBuiltins x = some (.type n)) (hn : x ≠ "__name__") (hd : (x == ("__debug__" : Str)) = false) (k : K (.ty n) L) : GE T X (.Name x pos) σ L K :=
  GE.of (pe_bltn (v := .ty n) (nm.gl h) hm hv rfl hn hd) fun H hs Q q => q _ _ _ k hs
theorem gb_isinstance (nm : Nm X N ks) (h : Kd ks "isinstance" .globalImplicit) (hm : X.mg "isinstance" = none) (he : starEach (e :: es) X.env = (false, eval e X.env) :: starEach es X.env) (hpl : (backTo pos (starEach es X.env)).any (·.1) = false)
    (q : GA T X (e :: es) σ L fun vs L1 => GC T X (.builtin "isinstance") vs L1 K) : GE T X (.Call (.Name "isinstance" p) (e :: es) [] pos) σ L K := ge_callB (nm.gl h) hm (by decide +kernel) (by decide) rfl he hpl q
theorem gc_ord {c : Nat} (k : K (.int (c : Nat)) L) : GC T X (.builtin "ord") [.str ⟨#[c]⟩] L K := GC.of call_ord fun H hs Q q => ⟨_, rfl, rfl, q _ _ _ k hs⟩
/-- isinstance(v, n), v no reference -/
inductive VTy : V → String → Prop
  | non : VTy .non "NoneType"
  | bl {b} : VTy (.bl b) "bool"
  | int {i} : VTy (.int i) "int"
  | str {s} : VTy (.str s) "str"
theorem gc_isi {v : V} {m : String} {b : Bool} (h : VTy v m) (hk : kitB m n = some b) (k : K (.bl b) L) : GC T X (.builtin "isinstance") [v, .ty n] L K :=
  GC.of call_isi fun H hs Q q => ⟨v, .ty n, .type m, .type n, b, rfl, .ty n, .base (by cases h <;> constructor), kit_ty hk, q _ _ _ k hs⟩
theorem gc_isiT {a : Addr} {xs : List V} {b : Bool} (s : Sel L (pt a (.tup xs)) R') (hk : kitB "tuple" n = some b) (k : K (.bl b) L) : GC T X (.builtin "isinstance") [.ref a, .ty n] L K :=
  GC.of call_isi fun H hs Q q => ⟨.ref a, .ty n, .type "tuple", .type n, b, rfl, .ty n, .base (.tup (hs.at s)), kit_ty hk, q _ _ _ k hs⟩
end
/-! ### many tuples known -/
def TupsP {δ : Type} (F : δ → Addr × List V) (ps : List δ) : SA := fun h => ∀ p ∈ ps, h (F p).1 = some (.tup (F p).2)
section
variable {T : List (Addr × Str)} {δ : Type} {F : δ → Addr × List V} {ps qs : List δ} {p : δ} {L R : List SA} {H : Hp}
theorem tups_pers : Pers (TupsP F ps) := fun _ _ t h p hp => t _ _ (h p hp)
theorem tups_at (s : Sel L (TupsP F ps) R) (hp : p ∈ ps) (h : Hs T L H) : H (F p).1 = some (.tup (F p).2) := h.getP tups_pers s p hp
/-- what speaks of tuples alone follows -/
theorem Fit.addP {A : SA} (hA : Pers A) (f : ∀ H, Pcs L H → A H) : Fit L (A :: L) := fun H h => h.addP hA (f H h)
theorem Pcs.getP {A : SA} (hA : Pers A) (s : Sel L A R) (h : Pcs L H) : A H := by
  obtain ⟨ps, h1, _, h3⟩ := h.perm s.perm
  cases h1 with
  | cons r t => exact hA _ _ (h3 _ List.mem_cons_self).tup r
theorem tups_sub (e : ∀ q ∈ qs, q ∈ ps) : Cv (TupsP F ps) (TupsP F qs) := fun h k q hq => k q (e q hq)
theorem tups_snoc {a : Addr} {xs : List V} (s : Sel L (TupsP F ps) R) (s2 : Sel L (pt a (.tup xs)) R') (e : F p = (a, xs)) : Fit L (TupsP F (ps ++ [p]) :: L) := Fit.addP tups_pers fun H h q hq => by
  rcases List.mem_append.mp hq with hq | hq
  · exact h.getP tups_pers s q hq
  · have hq : q = p := by simpa using hq
    subst hq
    rw [e]
    exact h.getP pers_tup (A := fun h => h a = some (.tup xs)) s2
theorem tups_nil : Fit L (TupsP F [] :: L) := Fit.addP tups_pers fun H h q hq => by cases hq
end
/-! ### the i-th of pieces with data -/
section
variable {δ : Type} {F : δ → SA} {ps : List δ} {p p' : δ} {L : List SA} {i : Nat}
theorem split_at (h : ps[i]? = some p) : ps = ps.take i ++ p :: ps.drop (i + 1) := by
  have hi : i < ps.length := by
    by_cases c : i < ps.length
    · exact c
    · rw [List.getElem?_eq_none (by omega)] at h; cases h
  have e : ps.drop i = p :: ps.drop (i + 1) := by
    rw [List.drop_eq_getElem_cons hi]
    rw [List.getElem?_eq_getElem hi] at h
    cases h; rfl
  rw [← e, List.take_append_drop]
theorem obd_at (h : ps[i]? = some p) : Fit (ObD F ps :: L) (F p :: ObD F (ps.take i) :: ObD F (ps.drop (i + 1)) :: L) := by
  conv => lhs; rw [split_at h]
  exact obd_out
theorem obd_set (h : ps[i]? = some p) : Fit (F p' :: ObD F (ps.take i) :: ObD F (ps.drop (i + 1)) :: L) (ObD F (ps.set i p') :: L) := by
  have e : ps.set i p' = ps.take i ++ p' :: ps.drop (i + 1) := by
    have hi : i < ps.length := by
      by_cases c : i < ps.length
      · exact c
      · rw [List.getElem?_eq_none (by omega)] at h; cases h
    exact List.set_eq_take_append_cons_drop.trans (by rw [if_pos hi])
  rw [e]
  exact obd_in
theorem obd_back (h : ps[i]? = some p) : Fit (F p :: ObD F (ps.take i) :: ObD F (ps.drop (i + 1)) :: L) (ObD F ps :: L) := by
  conv => rhs; rw [split_at h]
  exact obd_in
end
end SW
set_option Elab.async false
set_option linter.all false
set_option maxRecDepth 100000
set_option maxHeartbeats 2000000
/-! Sw19: tables as functions. -/
namespace SW
open PySem PySem.Spec L2
open PyProof.Rows hiding St
--BEGIN
section
variable {κ : Type} [DecidableEq κ]
def NdK (d : List (κ × V)) : Prop := (d.map (·.1)).Nodup
theorem valV_cons (p : κ × V) (d : List (κ × V)) (k : κ) : valV (p :: d) k = if p.1 = k then some p.2 else valV d k := by
  by_cases h : p.1 = k <;> simp [valV, List.find?_cons, h]
theorem valV_drop (d : List (κ × V)) (k j : κ) : valV (dropK d k) j = if j = k then none else valV d j := by
  induction d with
  | nil => simp [dropK, valV]
  | cons p d ih =>
    unfold dropK at ih ⊢
    rw [List.filter_cons]
    by_cases h : p.1 = k
    · rw [if_neg (by simp [h]), ih, valV_cons]
      by_cases hj : j = k
      · rw [if_pos hj, if_pos hj]
      · rw [if_neg hj, if_neg hj, if_neg (fun z => hj (by rw [← z, h]))]
    · rw [if_pos (by simp [h]), valV_cons, ih, valV_cons]
      by_cases hj : p.1 = j
      · rw [if_pos hj, if_pos hj, if_neg (fun z => h (by rw [hj, z]))]
      · rw [if_neg hj, if_neg hj]
theorem ndk_nil : NdK ([] : List (κ × V)) := List.nodup_nil
theorem keys_put (d : List (κ × V)) (k : κ) (v : V) : (putK d k v).map (·.1) = if (d.any fun kv => decide (kv.1 = k)) = true then d.map (·.1) else d.map (·.1) ++ [k] := by
  unfold putK
  by_cases h : (d.any fun kv => decide (kv.1 = k)) = true
  · rw [if_pos h, if_pos h, List.map_map]
    refine List.map_congr_left fun x _ => ?_
    show (if x.1 = k then (x.1, v) else x).1 = x.1
    by_cases c : x.1 = k
    · rw [if_pos c]
    · rw [if_neg c]
  · rw [if_neg h, if_neg h, List.map_append]; rfl
theorem ndk_put {d : List (κ × V)} {k : κ} {v : V} (h : NdK d) : NdK (putK d k v) := by
  unfold NdK at h ⊢
  rw [keys_put]
  by_cases c : (d.any fun kv => decide (kv.1 = k)) = true
  · rw [if_pos c]; exact h
  · rw [if_neg c]
    refine List.nodup_append.mpr ⟨h, by simp, fun a ha b hb => ?_⟩
    have : b = k := by simpa using hb
    subst this
    intro z
    subst z
    obtain ⟨x, hx, rfl⟩ := List.mem_map.mp ha
    exact c (List.any_eq_true.mpr ⟨x, hx, by simp⟩)
theorem ndk_drop {d : List (κ × V)} {k : κ} (h : NdK d) : NdK (dropK d k) := by
  unfold NdK dropK at *
  exact (List.filter_sublist.map _).nodup h
theorem valV_of_mem {d : List (κ × V)} {x : κ × V} (h : NdK d) (hx : x ∈ d) : valV d x.1 = some x.2 := by
  induction d with
  | nil => cases hx
  | cons p d ih =>
    unfold NdK at h ih
    rw [List.map_cons, List.nodup_cons] at h
    rw [valV_cons]
    rcases List.mem_cons.mp hx with rfl | hx
    · rw [if_pos rfl]
    · rw [if_neg fun z => h.1 (by rw [z]; exact List.mem_map.mpr ⟨x, hx, rfl⟩)]
      exact ih h.2 hx
theorem mem_of_valV {d : List (κ × V)} {k : κ} {v : V} (h : valV d k = some v) : (k, v) ∈ d := by
  induction d with
  | nil => simp [valV] at h
  | cons p d ih =>
    rw [valV_cons] at h
    by_cases c : p.1 = k
    · rw [if_pos c] at h
      cases h
      rw [← c]
      exact List.mem_cons_self
    · rw [if_neg c] at h
      exact List.mem_cons_of_mem _ (ih h)
theorem key_iff {d : List (κ × V)} {k : κ} : k ∈ d.map (·.1) ↔ (valV d k).isSome = true := by
  constructor
  · intro h
    obtain ⟨x, hx, e⟩ := List.mem_map.mp h
    induction d with
    | nil => cases hx
    | cons p d ih =>
      rw [valV_cons]
      by_cases c : p.1 = k
      · rw [if_pos c]; rfl
      · rw [if_neg c]
        rcases List.mem_cons.mp hx with rfl | hx
        · exact absurd e c
        · exact ih (List.mem_map.mpr ⟨x, hx, e⟩) hx
  · intro h
    obtain ⟨v, hv⟩ := Option.isSome_iff_exists.mp h
    exact List.mem_map.mpr ⟨_, mem_of_valV hv, rfl⟩
theorem len_le_of_sub : ∀ {a b : List κ}, a.Nodup → (∀ x ∈ a, x ∈ b) → a.length ≤ b.length
  | [], _, _, _ => Nat.zero_le _
  | x :: a, b, h, s => by
    obtain ⟨h1, h2⟩ := List.nodup_cons.mp h
    have hb : x ∈ b := s x List.mem_cons_self
    have := len_le_of_sub (a := a) (b := b.erase x) h2 fun y hy => (List.mem_erase_of_ne (by intro z; subst z; exact h1 hy)).mpr (s y (List.mem_cons_of_mem _ hy))
    rw [List.length_erase_of_mem hb] at this
    have := List.length_pos_of_mem hb
    simp only [List.length_cons]; omega
/-- two tables that tell the same -/
theorem dict_eq {a b : List (κ × V)} (ha : NdK a) (hb : NdK b) (e : ∀ k, valV a k = valV b k) : a.length = b.length ∧ ∀ x ∈ a, valV b x.1 = some x.2 := by
  have ha' : (a.map fun x => x.1).Nodup := ha
  have hb' : (b.map fun x => x.1).Nodup := hb
  refine ⟨Nat.le_antisymm ?_ ?_, fun x hx => by rw [← e]; exact valV_of_mem ha hx⟩
  · have := len_le_of_sub (a := a.map fun x => x.1) (b := b.map fun x => x.1) ha' fun k hk => by rw [key_iff, ← e, ← key_iff]; exact hk
    simpa using this
  · have := len_le_of_sub (a := b.map fun x => x.1) (b := a.map fun x => x.1) hb' fun k hk => by rw [key_iff, e, ← key_iff]; exact hk
    simpa using this
end
--END
theorem ndk_merge {d m : List (Key × V)} (h : NdK d) : NdK (mergeK d m) := by
  unfold mergeK
  induction m generalizing d with
  | nil => exact h
  | cons p m ih => exact ih (ndk_put h)
theorem valV_merge {d m : List (Key × V)} {k : Key} : valV (mergeK d m) k = m.foldl (fun o p => if k = p.1 then some p.2 else o) (valV d k) := by
  unfold mergeK
  induction m generalizing d with
  | nil => rfl
  | cons p m ih =>
    rw [List.foldl_cons, ih, valV_put, List.foldl_cons]
/-- a table of pairs without a key twice -/
theorem valV_mergeN {m : List (Key × V)} {k : Key} (h : NdK m) : valV (mergeK [] m) k = valV m k := by
  rw [valV_merge]
  have go : ∀ (m : List (Key × V)) (o : Option V), NdK m → m.foldl (fun o p => if k = p.1 then some p.2 else o) o = (valV m k).or o := by
    intro m
    induction m with
    | nil => intro o _; rfl
    | cons p m ih =>
      intro o h
      unfold NdK at h
      rw [List.map_cons, List.nodup_cons] at h
      rw [List.foldl_cons, ih _ h.2, valV_cons]
      by_cases c : p.1 = k
      · have : valV m k = none := by
          cases e : valV m k with
          | none => rfl
          | some v => exact absurd (by rw [c]; exact key_iff.mpr (by rw [e]; rfl)) h.1
        rw [if_pos c, if_pos c.symm, this]; rfl
      · rw [if_neg c, if_neg (fun z => c z.symm)]
  rw [go m _ h]
  cases valV m k <;> rfl
end SW
set_option Elab.async false
set_option linter.all false
set_option maxRecDepth 100000
set_option maxHeartbeats 2000000
/-! Sw20: kinds told; fields by the way; ends of lists. -/
namespace SW
open PySem PySem.Spec L2
open PyProof.Rows hiding St
theorem kb_ii : kitB "int" "int" = some true := by decide +kernel
theorem kb_ib : kitB "int" "bool" = some false := by decide +kernel
theorem kb_is : kitB "int" "str" = some false := by decide +kernel
theorem kb_si : kitB "str" "int" = some false := by decide +kernel
theorem kb_ss : kitB "str" "str" = some true := by decide +kernel
theorem kb_ns : kitB "NoneType" "str" = some false := by decide +kernel
theorem kb_ni : kitB "NoneType" "int" = some false := by decide +kernel
theorem kb_tt : kitB "tuple" "tuple" = some true := by decide +kernel
theorem kb_it : kitB "int" "tuple" = some false := by decide +kernel
theorem atI_last {xs : List V} {x : V} : atI (xs ++ [x]) (-1) = some x := by
  unfold atI
  have e : ixN (xs ++ [x]).length (-1) = some xs.length := by
    unfold ixN
    simp
    constructor <;> omega
  rw [e]
  simp
theorem atI_last2 {xs : List V} {x y : V} : atI (xs ++ [x] ++ [y]) (-1) = some y := atI_last
section
variable {T : List (Addr × Str)} {X : Cx} {σ : St} {L L1 R' : List SA} {K : GK} {D : EndsL}
theorem ge_fldV {e : Expr} {f : Str} {pos : Pos} (hb : attributeBase e f X.env (eval e X.env) = eval e X.env) (h : GE T X e σ L fun x L1 => ∀ H, Hs T L1 H → ∃ L2, Hs T L2 H ∧ GF T X.K x f L2 K) : GE T X (.Attribute e f pos) σ L K :=
  ge_fld hb fun H hs Q q => h H hs Q fun x L1 H1 k1 h1 => by
    obtain ⟨L2, h2, k2⟩ := k1 H1 h1
    exact q x L2 H1 k2 h2
/-- a field of an instance that the rows know somehow -/
def InsV (T : List (Addr × Str)) (C a : Addr) (f : Str) (v : V) (L : List SA) : Prop := ∀ H, Hs T L H → ∃ dx fs, H a = some (.ins C dx fs) ∧ fs.lookup f = some v
theorem ge_fldI {e : Expr} {f : Str} {pos : Pos} (hb : attributeBase e f X.env (eval e X.env) = eval e X.env) (h : GE T X e σ L fun x L1 => ∃ C a v, x = .ref a ∧ InsV T C a f v L1 ∧ Cls X.K C ∧ NoAttr X.K C f ∧ K v L1) : GE T X (.Attribute e f pos) σ L K :=
  GE.of (pe_fld peW hb) fun H hs Q q => h H hs _ fun x L1 H1 ⟨C, a, v, ex, i, c, n, k⟩ h1 => by
    obtain ⟨dx, fs, e1, e2⟩ := i H1 h1
    exact ⟨a, C, dx, fs, v, ex, e1, c, n, e2, q _ L1 H1 k h1⟩
theorem insV_pt {C a dx : Addr} {fs : List (Str × V)} {f : Str} {v : V} (s : Sel L (pt a (.ins C dx fs)) R') (l : LkF fs f v) : InsV T C a f v L := fun H h => ⟨dx, fs, h.at s, l.eq⟩
theorem gs_alt {st : Stmt} (h : GS T X st D σ L1) (t : Ent T L L1) : GS T X st D σ L := GS.ent t h
end
section
variable {T : List (Addr × Str)} {X : Cx} {σ : St} {L R' : List SA} {K : GK} {α : Type} {R : PRep α}
/-- a tuple of scalars, seen whole -/
theorem tl_map {f : α → V} {g : α → Prop} (c : Scal R f g) {v : V} {ds : List α} {H : Hp} (r : (rTl R).rel H v ds) : ∃ a, v = .ref a ∧ H a = some (.tup (ds.map f)) ∧ ∀ d ∈ ds, g d := by
  obtain ⟨a, xs, rfl, e, ar⟩ := r
  obtain ⟨e2, k⟩ := a2_scal c ar
  exact ⟨a, rfl, by rw [← e2]; exact e, k⟩
end
section
variable {prog : Program} {w : World} {A : Around} {E : Value → Shared → Prop} {s : Shared} {l : Addr} {items : Array Value}
theorem sum_tupRaw {Q : Value → Shared → Prop} {val : Nat → Int} (hh : A.handled = none) (hl : s.heap.IsTuple l items) (hv : ∀ (i : Nat) v, items[i]? = some v → NumOf (val i) v)
    (h : ∀ h' tk t', (∀ b o, s.heap.get? b = some o → h'.get? b = some o) → Q (.int (preSum val items.size) t') { s with heap := h', toks := tk }) : wpAny (model prog w) A (call (.builtin "sum") [.ref l]) Q E s := by
  have hlt : l < s.heap.objs.size := by obtain ⟨_, e, _⟩ := hl; exact Heap.lt_size e
  refine call_sum_walkAnyB (wpAny_pyIter_tuple hl ?_)
  refine ⟨_, _, _, _, _, _, _, val, rfl, (Walks.tuple (A := A.in1) hh _ l (Nat.ne_of_lt hlt) items).toS, ⟨⟨_, Heap.get?_push_size _ rfl, rfl, rfl⟩, hl.push _⟩, fun b hb => ?_, fun i v hi => hv i v hi, fun s' t' hm => ?_⟩
  · show b < (s.heap.push _).objs.size
    rw [Heap.size_push]
    rcases List.mem_cons.mp hb with rfl | hb
    · exact Nat.lt_succ_self _
    · rcases List.mem_cons.mp hb with rfl | hb
      · exact Nat.lt_succ_of_lt hlt
      · cases hb
  · have e : s' = { s with heap := s'.heap, toks := s'.toks } := by
      obtain ⟨h1, h2, h3, h4, h5⟩ := hm
      cases s'
      cases h2
      cases h3
      cases h4
      rfl
    rw [e]
    exact h s'.heap s'.toks t' fun b o e => hm.heap b o (fun z => by
      have z : b = s.heap.objs.size := by simpa using z
      have := Heap.lt_size e
      exact absurd z (Nat.ne_of_lt this)) (Heap.get?_push_of_some _ e)
end
theorem vals_ints : ∀ {ns : List Int} {its : List Value}, Vals (ns.map V.int) its → ∀ (i : Nat) v, its[i]? = some v → ∃ n t, ns[i]? = some n ∧ v = Value.int n t
  | [], its, h, i, v, e => by
    have := h.length
    cases its with
    | nil => simp at e
    | cons _ _ => cases this
  | n :: ns, its, h, i, v, e => by
    cases h with
    | cons r t =>
      cases i with
      | zero =>
        obtain ⟨t, rfl⟩ := r
        simp at e
        exact ⟨n, t, rfl, e.symm⟩
      | succ i => obtain ⟨m, t', e1, e2⟩ := vals_ints t i v (by simpa using e); exact ⟨m, t', by simpa using e1, e2⟩
def rSumT (K : PySem.W.Frag) : List V → Hp → VK → Prop := fun vs H Q => ∃ (a : Addr) (ns : List Int), vs = [V.ref a] ∧ SqT K H a (ns.map V.int) ∧ Q (.int ns.sum) H
theorem cr_sumT {X : Cx} (hc : X.calm = true) : CallR X (.builtin "sum") (rSumT X.K) := by
  intro pins s σ H vs us Q I r h
  obtain ⟨a, ns, rfl, hs, q⟩ := h
  obtain ⟨its, rv, hl, _⟩ := I.tuple hs
  rw [Vals.ref1 r]
  refine sum_tupRaw (val := fun j => ns.getD j 0) (I.ok.hd hc) hl (fun i v hi => ?_) fun h' tk t' hk => ?_
  · obtain ⟨n, t, e1, rfl⟩ := vals_ints rv i v (by simpa using hi)
    exact .inl ⟨t, by simp [List.getD_eq_getElem?_getD, e1]⟩
  · have e := preSum_getD ns its.toArray.size
    rw [List.take_of_length_le (by have := rv.length; simp at this ⊢; omega)] at e
    rw [e]
    exact ⟨.int _, H, I.kept hk, ⟨_, rfl⟩, q⟩
theorem gc_sumTl {T : List (Addr × Str)} {X : Cx} {L : List SA} {K : GK} {v : V} {ns : List Int} (hc : X.calm = true) (r : Rv T L v (rTl rInt) ns) (k : K (.int ns.sum) L) : GC T X (.builtin "sum") [v] L K :=
  GC.of (cr_sumT hc) fun H hs Q q => by
    obtain ⟨a, rfl, e, _⟩ := tl_map cInt (r H hs)
    exact ⟨a, ns, rfl, SqT.of e, q _ _ _ k hs⟩
section
variable {T : List (Addr × Str)} {X : Cx} {σ : St} {L L2 : List SA} {D : EndsL}
/-- an if whose test is summed up: b tells φ, the rows are L2 again -/
theorem gs_ifJ {c : Expr} {body orelse : List Stmt} {pos : Pos} (φ : Prop) (L2 : List SA) (hc : GT T X c σ L fun b L1 => (b = true ↔ φ) ∧ Ent T L1 L2) (h1 : φ → GSs T X body D σ L2) (h2 : ¬ φ → GSs T X orelse D σ L2) : GS T X (.If c body orelse pos) D σ L :=
  gs_if fun H hs Q q => hc H hs Q fun b L1 H1 ⟨e, t⟩ h1' => q b L1 H1 (by
    cases b with
    | true => rw [if_pos rfl]; exact GSs.ent t (h1 (e.mp rfl))
    | false => rw [if_neg Bool.false_ne_true]; exact GSs.ent t (h2 fun z => by have := e.mpr z; cases this)) h1'
end
section
variable {δ : Type} {F : δ → SA} {G : δ → Addr × List V} {A ps qs : List δ} {p : δ} {L : List SA}
theorem obd_snoc : Fit (F p :: ObD F A :: L) (ObD F (A ++ [p]) :: L) := Fit.trans (Fit.of (List.Perm.swap _ _ _)) (Fit.trans (Fit.tl obd_one) obd_app')
theorem obd_unsnoc : Fit (ObD F (A ++ [p]) :: L) (F p :: ObD F A :: L) := Fit.trans obd_app (Fit.trans (Fit.of (List.Perm.swap _ _ _)) (Fit.trans obd_cons (Fit.tl obd_nil)))
theorem tups_cv (e : qs.map G = ps.map G) : Cv (TupsP G ps) (TupsP G qs) := fun h k q hq => by
  have : G q ∈ ps.map G := by rw [← e]; exact List.mem_map.mpr ⟨q, hq, rfl⟩
  obtain ⟨p, hp, e2⟩ := List.mem_map.mp this
  rw [← e2]
  exact k p hp
end
/-- a field, by what the rows know somehow -/
def GFI (T : List (Addr × Str)) (KK : PySem.W.Frag) (x : V) (f : Str) (L : List SA) (K : GK) : Prop := ∃ C a v, x = .ref a ∧ InsV T C a f v L ∧ Cls KK C ∧ NoAttr KK C f ∧ K v L
section
variable {T : List (Addr × Str)} {X : Cx} {σ : St} {L : List SA} {K : GK} {KK : PySem.W.Frag} {a C : Addr} {f : Str} {v : V}
theorem ge_fldG {e : Expr} {pos : Pos} (hb : attributeBase e f X.env (eval e X.env) = eval e X.env) (h : GE T X e σ L fun x L1 => GFI T X.K x f L1 K) : GE T X (.Attribute e f pos) σ L K := ge_fldI hb h
theorem gfi (i : InsV T C a f v L) (c : Cls KK C) (n : NoAttr KK C f) (k : K v L) : GFI T KK (.ref a) f L K := ⟨C, a, v, rfl, i, c, n, k⟩
end
section
variable {T : List (Addr × Str)} {X : Cx} {σ : St} {L R' : List SA} {D : EndsL} {tg iter : Expr} {body : List Stmt} {pos : Pos}
theorem gs_forN2x {a b : Expr} {p : Pos} (hp : PassesOwn (model X.prog X.w) X.A X.env X.xe) (hc : X.calm = true) (hg : Gl X "range") (hm : X.mg "range" = none)
    (hst : starEach [a, b] X.env = [(false, eval a X.env), (false, eval b X.env)]) (hst2 : starEach [b] X.env = [(false, eval b X.env)]) (hf : ∀ x, foldedSetIterable (.Call (.Name "range" p) [a, b] [] pos) X.env x = pure x) {pos2 : Pos}
    (h0 : GA T X [a, b] σ L fun vs L1 => ∃ (lo n : Int) (inv : Nat → St → List SA → Prop), vs = [.int lo, .int n] ∧ (-(2 ^ 62) ≤ lo ∧ lo < 2 ^ 62 ∧ -(2 ^ 62) ≤ n ∧ n < 2 ^ 62) ∧ Fits T (inv 0) σ L1 ∧
      (∀ (i : Nat) σ' L', lo + (i : Int) < n → inv i σ' L' → GG T X tg (.int (lo + (i : Int))) σ' L' fun σ2 L2 => GSs T X body { D with nx := Fits T (inv (i + 1)), ct := Fits T (inv (i + 1)), bk := D.nx } σ2 L2) ∧
      (∀ σ' L', inv (n - lo).toNat σ' L' → D.nx σ' L')) : GS T X (.For tg (.Call (.Name "range" p) [a, b] [] pos) body [] pos2) D σ L := by
  refine GS.of (ps_for hp hc (pi_range2 hg hm paW hst hst2) pgW pssW hf) fun H hh D0 le => h0 H hh _ fun vs L1 H1 ⟨lo, n, inv, ev, b1, iv, hs, hd⟩ h1 => ?_
  obtain ⟨L1, iv, h1⟩ := fits_hs iv h1
  refine ⟨lo, n, ev, b1, wfor (Itr lo (n - lo).toNat) (n - lo).toNat inv (fun σ L H i h => Nat.le_refl _) (fun i σ L H hi iv h => hi) (fun i σ L H hi iv h x H' y => ?_) hd h1 iv le⟩
  obtain ⟨e, y⟩ := y
  subst e
  subst y
  exact ⟨L, h, hs i σ L (by omega) iv⟩
end
theorem obd_each {δ : Type} {F : δ → SA} {ps : List δ} {L R : List SA} {H : Hp} (s : Sel L (ObD F ps) R) (h : Pcs L H) {p : δ} (hp : p ∈ ps) : ∃ R0, Pcs (F p :: R0) H := by
  obtain ⟨A, B, rfl⟩ := List.append_of_mem hp
  exact ⟨_, obd_out H (h.perm s.perm)⟩
theorem cut_drop {α : Type} (ds : List α) (i : Nat) : cutD ds (some (i : Int)) none = ds.drop i := by
  unfold cutD
  rw [HT.sIx_nat]
  show (ds.drop (min i ds.length)).take (ds.length - min i ds.length) = ds.drop i
  rw [List.take_of_length_le (by simp)]
  by_cases h : i ≤ ds.length
  · rw [Nat.min_eq_left h]
  · rw [Nat.min_eq_right (by omega), List.drop_length, List.drop_of_length_le (by omega)]
theorem cut_take {α : Type} (ds : List α) (i : Nat) : cutD ds none (some (i : Int)) = ds.take i := by
  unfold cutD
  rw [HT.sIx_nat]
  show (ds.drop 0).take (min i ds.length - 0) = ds.take i
  rw [List.drop_zero, Nat.sub_zero]
  by_cases h : i ≤ ds.length
  · rw [Nat.min_eq_left h]
  · rw [Nat.min_eq_right (by omega), List.take_length, List.take_of_length_le (by omega)]
theorem take_snoc {α : Type} (l : List α) (d : α) (m : Nat) : (l ++ [d]).take m = l.take m ++ if (l.take m).length < m then [d] else [] := by
  rw [List.take_append]
  by_cases h : l.length < m
  · rw [if_pos (by rw [List.length_take]; omega)]
    congr 1
    exact List.take_of_length_le (by simp; omega)
  · rw [if_neg (by rw [List.length_take]; omega)]
    congr 1
    rw [show m - l.length = 0 by omega]; rfl
end SW
set_option Elab.async false
set_option linter.all false
set_option maxRecDepth 100000
set_option maxHeartbeats 2000000
/-! Sw21: items of lists of data from the end; dicts: more. -/
namespace SW
open PySem PySem.Spec L2
open PyProof.Rows hiding St
theorem atI_len {α β : Type} {xs : List α} {ds : List β} {i : Int} {d : β} (hl : xs.length = ds.length) (h : atI ds i = some d) : ∃ n : Nat, ds[n]? = some d ∧ ∀ x, xs[n]? = some x → atI xs i = some x := by
  unfold atI at h
  cases e : ixN ds.length i with
  | none => rw [e] at h; cases h
  | some n =>
    rw [e] at h
    refine ⟨n, h, fun x hx => ?_⟩
    unfold atI
    rw [hl, e]; exact hx
theorem atI_lastG {α : Type} {xs : List α} {x : α} : atI (xs ++ [x]) (-1) = some x := by
  unfold atI
  have e : ixN (xs ++ [x]).length (-1) = some xs.length := by
    unfold ixN
    simp
    constructor <;> omega
  rw [e]
  simp
section
variable {T : List (Addr × Str)} {X : Cx} {σ : St} {L R' : List SA} {K : GK}
theorem gi_lstRi {α : Type} {R0 : PRep α} {l : Addr} {ds : List α} {i : Int} {d : α} (s : Sel L (LstR R0 l ds) R') (e : atI ds i = some d) (k : ∀ v, K v (Val R0 v d :: L)) : GIx T X (.ref l) (.int i) L K := by
  intro H hs Q q
  obtain ⟨xs, h1, ar⟩ := hs.atR s
  obtain ⟨n, h2, h3⟩ := atI_len (xs := xs) ar.length e
  obtain ⟨x, hx, rx⟩ := ar.get h2
  intro value slice pins s' σ v u I rx' ry z
  exact ix_list value slice pins s' σ H (.ref l) (.int i) v u Q I rx' ry ⟨l, xs, i, x, rfl, rfl, SqL.of h1, h3 x hx, q _ _ _ (k x) (hs.addP Val.pers rx)⟩ z
end
/-! ### comprehensions: what is kept, and led -/
theorem filt_succ {α : Type} {p : α → Bool} {rs : List α} {i : Nat} {d : α} (h : rs[i]? = some d) : (rs.take (i + 1)).filter p = (rs.take i).filter p ++ if p d = true then [d] else [] := by
  rw [List.take_succ, h, List.filter_append]
  by_cases c : p d = true <;> simp [c]
section
variable {T : List (Addr × Str)} {X : Cx} {σ σ0 : St} {L L1 L5 R' : List SA} {K : GK} {elt tg : Expr} {ifs : List Expr} {scope : Scope} {vs : List Nat} {α β : Type} {R : PRep α} {S : PRep β} {D : Addr}
def EndM (T : List (Addr × Str)) (S : PRep β) (D : Addr) (ys : List β) (L1 : List SA) (e : β) (y : V) (L : List SA) : Prop := ∃ L5, Ent T L (LstR S D ys :: L5) ∧ Rv T L y S e ∧ Fit L5 L1
theorem endm {ys : List β} {e : β} {y : V} (s : Sel L (LstR S D ys) L5) (r : Rv T L y S e) (f : Fit L5 L1) : EndM T S D ys L1 e y L := ⟨L5, Ent.perm s.perm, r, f⟩
def TstM (T : List (Addr × Str)) (S : PRep β) (D : Addr) (ys : List β) (L1 : List SA) (p : Bool) (k : List SA → Prop) (b : Bool) (L : List SA) : Prop := b = p ∧ (p = true → k L) ∧ (p = false → Ent T L (LstR S D ys :: L1))
/-- [elt for tg in ds if ..] -/
def StepM (T : List (Addr × Str)) (X : Cx) (scope : Scope) (tg elt : Expr) (ifs : List Expr) (vs : List Nat) (σ σ0 : St) (S : PRep β) (L1 : List SA) (D : Addr) (ys : List β) (p : Bool) (e : β) (x : V) (L : List SA) : Prop :=
  ∀ s H C cl fp, GG T (blkX X s H scope C cl fp) tg x σ0 L fun σ2 L2 => wipe σ2 vs = wipe σ vs ∧ ∀ s H C cl fp, GTs T (blkX X s H scope C cl fp) ifs σ2 L2 (TstM T S D ys L1 p fun L3 => ∀ s H C cl fp, GE T (blkX X s H scope C cl fp) elt σ2 L3 (EndM T S D ys L1 e))
theorem stepM_turn {ys : List β} {p : Bool} {e : β} {x : V} {N : List SA → Prop} (hz : ys.length < sizeLine) (h : StepM T X scope tg elt ifs vs σ σ0 S L1 D ys p e x L) (n1 : p = true → ∀ L', Ent T L' (LstR S D (ys ++ [e]) :: L1) → N L') (n2 : p = false → ∀ L', Ent T L' (LstR S D ys :: L1) → N L') : LcTurn T X scope tg elt ifs vs σ σ0 D x L N := by
  intro s H C cl fp H1 h1 Q q
  refine h s H C cl fp H1 h1 Q fun σ2 L2 H2 ⟨e1, k⟩ h2 => q σ2 L2 H2 ⟨e1, fun s H C cl fp H3 h3 Q3 q3 => ?_⟩ h2
  refine k s H C cl fp H3 h3 Q3 fun b L4 H4 ⟨eb, k1, k2⟩ h4 => q3 b L4 H4 ?_ h4
  subst eb
  cases b with
  | true =>
    rw [if_pos rfl]
    intro s H C cl fp
    refine GE.mono (k1 rfl s H C cl fp) fun y L5 ⟨L6, t, r, f⟩ H' h' => ?_
    have h6 := t H' h'
    obtain ⟨xs, e2, a⟩ := h6.atR .here
    refine ⟨xs, e2, by rw [a.length]; exact hz, LstR S D (ys ++ [e]) :: L6, h6.rplR .here (a.snoc (r H' h')), n1 rfl _ (Fit.ent (Fit.tl f))⟩
  | false =>
    rw [if_neg Bool.false_ne_true]
    exact n2 rfl _ (k2 rfl)
theorem lcgo_fm {ds : List α} (P : α → Bool) (g : α → β) (hz : ds.length ≤ sizeLine) (h : ∀ (D : Addr) (i : Nat) (x : V) (d : α) (ys : List β), ds[i]? = some d → StepM T X scope tg elt ifs vs σ σ0 S L1 D ys (P d) (g d) x (Val R x d :: LstR S D ys :: L1)) (hd : ∀ D, K (.ref D) (LstR S D ((ds.filter P).map g) :: L1)) :
    LcGo T X scope tg elt ifs vs σ σ0 L1 ds.length (fun i x Lx => ∃ d, ds[i]? = some d ∧ Lx = [Val R x d]) K := by
  refine lcgo (fun D (ys : List β) => LstR S D ys) (fun i ys => ys = ((ds.take i).filter P).map g) [] rfl (fun D h e => lst0 S h e) ?_ ?_
  · rintro D i x Lx ys hi ⟨d, hd', rfl⟩ e
    have hl : ys.length < sizeLine := by
      rw [e, List.length_map]
      have := List.length_filter_le P (ds.take i)
      have : (ds.take i).length = i := by rw [List.length_take]; omega
      omega
    refine stepM_turn hl (h D i x d ys hd') (fun hp L' t => ?_) (fun hp L' t => ?_)
    · exact ⟨ys ++ [g d], by show _ = _; rw [filt_succ hd', if_pos hp, List.map_append, ← e]; rfl, t⟩
    · exact ⟨ys, by show _ = _; rw [filt_succ hd', if_neg (by rw [hp]; exact Bool.false_ne_true), List.append_nil, ← e], t⟩
  · intro D ys e
    rw [List.take_length] at e
    subst e
    exact hd D
/-- over a plain list, its items told by place -/
theorem lcgo_pl {xs : List V} {as : List α} (hl : xs.length = as.length) (P : α → Bool) (g : α → β) (hz : xs.length ≤ sizeLine) (h : ∀ (D : Addr) (i : Nat) (x : V) (a : α) (ys : List β), xs[i]? = some x → as[i]? = some a → StepM T X scope tg elt ifs vs σ σ0 S L1 D ys (P a) (g a) x (LstR S D ys :: L1)) (hd : ∀ D, K (.ref D) (LstR S D ((as.filter P).map g) :: L1)) :
    LcGo T X scope tg elt ifs vs σ σ0 L1 xs.length (fun i x Lx => xs[i]? = some x ∧ Lx = []) K := by
  refine lcgo (fun D (ys : List β) => LstR S D ys) (fun i ys => ys = ((as.take i).filter P).map g) [] rfl (fun D h e => lst0 S h e) ?_ ?_
  · rintro D i x Lx ys hi ⟨hx, rfl⟩ e
    have hi2 : i < as.length := by omega
    have ha : as[i]? = some as[i] := List.getElem?_eq_getElem hi2
    have hl : ys.length < sizeLine := by
      rw [e, List.length_map]
      have := List.length_filter_le P (as.take i)
      have : (as.take i).length = i := by rw [List.length_take]; omega
      omega
    refine stepM_turn hl (h D i x _ ys hx ha) (fun hp L' t => ?_) (fun hp L' t => ?_)
    · exact ⟨ys ++ [g as[i]], by show _ = _; rw [filt_succ ha, if_pos hp, List.map_append, ← e]; rfl, t⟩
    · exact ⟨ys, by show _ = _; rw [filt_succ ha, if_neg (by rw [hp]; exact Bool.false_ne_true), List.append_nil, ← e], t⟩
  · intro D ys e
    rw [hl, List.take_length] at e
    subst e
    exact hd D
/-- over range(n) -/
theorem lcgo_rg {n : Nat} (P : Nat → Bool) (g : Nat → β) (hz : n ≤ sizeLine) (h : ∀ (D : Addr) (i : Nat) (ys : List β), i < n → StepM T X scope tg elt ifs vs σ σ0 S L1 D ys (P i) (g i) (.int (i : Nat)) (LstR S D ys :: L1)) (hd : ∀ D, K (.ref D) (LstR S D (((List.range n).filter P).map g) :: L1)) :
    LcGo T X scope tg elt ifs vs σ σ0 L1 n (fun i x Lx => x = .int (i : Nat) ∧ Lx = []) K := by
  refine lcgo (fun D (ys : List β) => LstR S D ys) (fun i ys => ys = (((List.range n).take i).filter P).map g) [] rfl (fun D h e => lst0 S h e) ?_ ?_
  · rintro D i x Lx ys hi ⟨rfl, rfl⟩ e
    have ha : (List.range n)[i]? = some i := List.getElem?_range hi
    have hl : ys.length < sizeLine := by
      rw [e, List.length_map]
      have := List.length_filter_le P ((List.range n).take i)
      have : ((List.range n).take i).length = i := by rw [List.length_take, List.length_range]; omega
      omega
    refine stepM_turn hl (h D i ys hi) (fun hp L' t => ?_) (fun hp L' t => ?_)
    · exact ⟨ys ++ [g i], by show _ = _; rw [filt_succ ha, if_pos hp, List.map_append, ← e]; rfl, t⟩
    · exact ⟨ys, by show _ = _; rw [filt_succ ha, if_neg (by rw [hp]; exact Bool.false_ne_true), List.append_nil, ← e], t⟩
  · intro D ys e
    rw [List.take_of_length_le (by simp)] at e
    subst e
    exact hd D
/-- tests end -/
theorem tst_t {ys : List β} {k : List SA → Prop} (h : k L) : TstM T S D ys L1 true k true L := ⟨rfl, fun _ => h, nofun⟩
theorem tst_d {ys : List β} {p : Prop} [Decidable p] {k : List SA → Prop} {q : Bool} (e : q = decide p) (h1 : p → k L) (h2 : ¬ p → Ent T L (LstR S D ys :: L1)) : TstM T S D ys L1 q k (decide p) L := ⟨e.symm, fun z => h1 (of_decide_eq_true (by rw [← e]; exact z)), fun z => h2 (of_decide_eq_false (by rw [← e]; exact z))⟩
theorem tst_b {ys : List β} {k : List SA → Prop} {q b : Bool} (e : b = q) (h1 : q = true → k L) (h2 : q = false → Ent T L (LstR S D ys :: L1)) : TstM T S D ys L1 q k b L := ⟨e, h1, h2⟩
end
theorem Cv.unscal {α : Type} {R : PRep α} {f : α → V} {g : α → Prop} (c : Scal R f g) {a : Addr} {ds : List α} : Cv (LstR R a ds) (SW.pt a (.lst (ds.map f))) := fun h ⟨xs, e, r⟩ => by
  obtain ⟨e2, _⟩ := a2_scal c r
  show h a = _
  rw [← e2]; exact e
theorem tups_cons {δ : Type} {F : δ → Addr × List V} {ps qs : List δ} {p : δ} {L R R' : List SA} {a : Addr} {xs : List V} (s : Sel L (TupsP F ps) R) (s2 : Sel L (pt a (.tup xs)) R') (e : F p = (a, xs)) (hs : ∀ q ∈ qs, q ∈ ps) : Fit L (TupsP F (p :: qs) :: L) := Fit.addP tups_pers fun H h q hq => by
  rcases List.mem_cons.mp hq with rfl | hq
  · rw [e]
    exact h.getP pers_tup (A := fun h => h a = some (.tup xs)) s2
  · exact h.getP tups_pers s q (hs q hq)
/-! ### o[i] = v, whatever o is -/
def setW (X : Cx) : TSet := fun o i v H Q => ∀ (pins : List (Addr × Obj)) (s : Shared) (σ : St) (ov iv u : Value), Inv X pins σ H s → RelV o ov → RelV i iv → RelV v u → wpAny (model X.prog X.w) X.A (setItem ov iv u) (fun _ s' => ∃ H', Inv X pins σ H' s' ∧ Q H') X.xe s
theorem psetW {X : Cx} : PSet X (setW X) := fun pins s σ H o i v ov iv u Q I r1 r2 r3 h => h pins s σ ov iv u I r1 r2 r3
def GPut (T : List (Addr × Str)) (X : Cx) (o i v : V) (L : List SA) (N : List SA → Prop) : Prop := ∀ H, Hs T L H → ∀ Q : Hp → Prop, (∀ L' H', N L' → Hs T L' H' → Q H') → setW X o i v H Q
section
variable {T : List (Addr × Str)} {X : Cx} {σ : St} {L L' R' : List SA} {N : List SA → Prop} {v : V} {pos : Pos} {p q : Addr} {n : Nat}
theorem GPut.of {t : TSet} {o i : V} (h : PSet X t) (w : ∀ H, Hs T L H → ∀ Q : Hp → Prop, (∀ L' H', N L' → Hs T L' H' → Q H') → t o i v H Q) : GPut T X o i v L N := fun H hs Q q pins s σ ov iv u I r1 r2 r3 => h pins s σ H o i v ov iv u Q I r1 r2 r3 (w H hs Q q)
theorem gg_subG {o i : Expr} {K : St → List SA → Prop}
    (ha : ∀ v, assign (.Subscript o i pos) X.env v = (do
      let ov ← holding [v] (eval o X.env)
      let iv ← holding [v, ov] (eval i X.env)
      standAt pos
      holding [v, ov, iv] (setItem ov iv v)
      release [v, ov, iv] []))
    (h : GE T X o σ L fun ov L1 => GE T X i σ L1 fun iv L2 => GPut T X ov iv v L2 (K σ)) : GG T X (.Subscript o i pos) v σ L K :=
  GG.of (pg_sub peW peW psetW ha) fun H hs Q q => h H hs _ fun ov L1 H1 k1 h1 => k1 H1 h1 _ fun iv L2 H2 k2 h2 => k2 H2 h2 _ fun L3 H3 k3 h3 => q _ _ _ k3 h3
theorem gput_l {xs ys : List V} {k : Int} (r : Rpl L (pt p (.lst xs)) (pt p (.lst ys)) L') (e : PutAt xs k v ys) (h : N L') : GPut T X (.ref p) (.int k) v L N :=
  GPut.of set_list fun H hs Q q => by
    obtain ⟨j, e1, e2⟩ := e.ex
    obtain ⟨R, s⟩ := r.sel
    subst e2
    exact ⟨p, xs, k, j, rfl, rfl, hs.at s, e1, q _ _ h (hs.rpl r True.intro fun _ => nofun)⟩
theorem gput_d {kvs : List (Key × V)} {k : Key} {i : V} (hr : Room n X.A) (r : Rpl L (pt p (.dK kvs)) (pt p (.dK (putK kvs k v))) L') (ei : i = kV k) (hz : kvs.length < sizeLine) (h : N L') : GPut T X (.ref p) i v L N :=
  GPut.of (set_dict (units_of hr)) fun H hs Q q' => by
    obtain ⟨R, s⟩ := r.sel
    exact ⟨p, _, rfl, by rw [ei]; exact DPut.k (hs.at s) hz, q' _ _ h (hs.rpl r True.intro fun _ => nofun)⟩
/-- keys that are tuples -/
theorem gput_t {kvs : List (List Key × V)} {k : List Key} (hr : Room n X.A) (r : Rpl L (pt p (.dT kvs)) (pt p (.dT (putK kvs k v))) L') (hk : ∀ H, Hs T L H → H q = some (.tup (k.map kV))) (hz : kvs.length < sizeLine) (h : N L') : GPut T X (.ref p) (.ref q) v L N :=
  GPut.of (set_dict (units_of hr)) fun H hs Q q' => by
    obtain ⟨R, s⟩ := r.sel
    exact ⟨p, _, rfl, DPut.t (hs.at s) (hk H hs) hz, q' _ _ h (hs.rpl r True.intro fun _ => nofun)⟩
end
end SW
set_option Elab.async false
set_option linter.all false
set_option maxRecDepth 100000
set_option maxHeartbeats 2000000
/-! Sw22: dicts by facts: any keys, locked or not. -/
namespace SW
open PySem PySem.Spec L2
open PyProof.Rows hiding St
def DFact (T : List (Addr × Str)) (L : List SA) (a : Addr) (y : V) (r : Option V) : Prop := ∀ H, Hs T L H → DGet H a y r
def HasDD (T : List (Addr × Str)) (L : List SA) (a : Addr) : Prop := ∀ H, Hs T L H → IsD H a
def GGet (T : List (Addr × Str)) (a : Addr) (y z : V) (L : List SA) (K : GK) : Prop := ∃ r, DFact T L a y r ∧ K (r.getD z) L
section
variable {T : List (Addr × Str)} {X : Cx} {σ : St} {L L' R' : List SA} {K : GK} {apos cpos : Pos} {o e f : Expr} {a b : Addr} {kvs : List (Key × V)} {kvt : List (List Key × V)} {k : Key} {kt : List Key} {v y z : V} {od : Obj} {r : Option V} {n : Nat}
theorem dfact_k (s : Sel L (pt a (.dK kvs)) R') (e : y = kV k) : DFact T L a y (valV kvs k) := fun H h => by rw [e]; exact DGet.k (h.at s)
theorem dfact_kf (s : Sel L (pt a (.frz od (.dK kvs))) R') (e : y = kV k) : DFact T L a y (valV kvs k) := fun H h => .inl ⟨kvs, k, .inr ⟨od, h.at s⟩, e, rfl⟩
theorem dfact_t (s : Sel L (pt a (.dT kvt)) R') (hk : ∀ H, Hs T L H → H b = some (.tup (kt.map kV))) : DFact T L a (.ref b) (valV kvt kt) := fun H h => DGet.t (h.at s) (hk H h)
theorem hasDD_k (s : Sel L (pt a (.dK kvs)) R') : HasDD T L a := fun H h => .inl ⟨kvs, .inl (h.at s)⟩
theorem hasDD_kf (s : Sel L (pt a (.frz od (.dK kvs))) R') : HasDD T L a := fun H h => .inl ⟨kvs, .inr ⟨od, h.at s⟩⟩
theorem hasDD_t (s : Sel L (pt a (.dT kvt)) R') : HasDD T L a := fun H h => .inr ⟨kvt, .inl (h.at s)⟩
theorem gi_d (hr : Room n X.A) (f : DFact T L a y (some v)) (h : K v L) : GIx T X (.ref a) y L K := GIx.of (ix_dict (units_of hr)) fun H hs Q q => ⟨a, v, rfl, f H hs, q _ _ _ h hs⟩
theorem go_inDD (hr : Room n X.A) (f : DFact T L a y r) (h : K (.bl r.isSome) L) : GOp T X (compareOp .In) y (.ref a) L K := GOp.of (op_inD (units_of hr)) fun H hs Q q => ⟨a, _, rfl, f H hs, q _ _ _ h hs⟩
theorem go_ninDD (hr : Room n X.A) (f : DFact T L a y r) (h : K (.bl (!r.isSome)) L) : GOp T X (compareOp .NotIn) y (.ref a) L K := GOp.of (op_ninD (units_of hr)) fun H hs Q q => ⟨a, _, rfl, f H hs, q _ _ _ h hs⟩
theorem ge_get1 (hr : Room n X.A) (m : M1 X o "get" apos e cpos) (h : GE T X o σ L fun x L1 => ∃ a, x = .ref a ∧ HasDD T L1 a ∧ GE T X e σ L1 fun y L2 => GGet T a y .non L2 K) : GE T X (.Call (.Attribute o "get" apos) [e] [] cpos) σ L K :=
  GE.of (pe_dget1 (units_of hr) peW peW m) fun H hs Q q => h H hs _ fun x L1 H1 ⟨a, ex, d, k1⟩ h1 => ⟨a, ex, d H1 h1, k1 H1 h1 _ fun y L2 H2 ⟨r, f, k2⟩ h2 => ⟨_, f H2 h2, q _ _ _ k2 h2⟩⟩
theorem ge_get2 (hr : Room n X.A) (m : M2 X o "get" apos e f cpos) (h : GE T X o σ L fun x L1 => ∃ a, x = .ref a ∧ HasDD T L1 a ∧ GE T X e σ L1 fun y L2 => GE T X f σ L2 fun z L3 => GGet T a y z L3 K) : GE T X (.Call (.Attribute o "get" apos) [e, f] [] cpos) σ L K :=
  GE.of (pe_dget2 (units_of hr) peW peW peW m) fun H hs Q q => h H hs _ fun x L1 H1 ⟨a, ex, d, k1⟩ h1 => ⟨a, ex, d H1 h1, k1 H1 h1 _ fun y L2 H2 k2 h2 => k2 H2 h2 _ fun z L3 H3 ⟨r, f, k3⟩ h3 => ⟨_, f H3 h3, q _ _ _ k3 h3⟩⟩
theorem gget (f : DFact T L a y r) (k : K (r.getD z) L) : GGet T a y z L K := ⟨r, f, k⟩
/-- d.pop(k, z) -/
def GDPopG (T : List (Addr × Str)) (a : Addr) (y z : V) (L : List SA) (K : GK) : Prop := ∃ kvs k L', Rpl L (pt a (.dK kvs)) (pt a (.dK (dropK kvs k))) L' ∧ y = kV k ∧ (∀ v, valV kvs k = some v → K v L') ∧ (valV kvs k = none → K z L)
theorem ge_pop2 (m : M2 X o "pop" apos e f cpos) (h : GE T X o σ L fun x L1 => ∃ a, x = .ref a ∧ HasDD T L1 a ∧ GE T X e σ L1 fun y L2 => GE T X f σ L2 fun z L3 => GDPopG T a y z L3 K) : GE T X (.Call (.Attribute o "pop" apos) [e, f] [] cpos) σ L K := ge_dpop2 m h
theorem gpop2 {z : V} {K : GK} (r : Rpl L (pt a (.dK kvs)) (pt a (.dK (dropK kvs k))) L') (e : y = kV k) (h1 : ∀ v, valV kvs k = some v → K v L') (h2 : valV kvs k = none → K z L) : GDPopG T a y z L K := ⟨kvs, k, L', r, e, h1, h2⟩
theorem drop_none {d : List (Key × V)} {k : Key} (h : valV d k = none) : dropK d k = d := by
  unfold dropK
  refine List.filter_eq_self.mpr fun x hx => ?_
  by_cases c : x.1 = k
  · have : k ∈ d.map (·.1) := List.mem_map.mpr ⟨x, hx, c⟩
    rw [key_iff, h] at this; cases this
  · simp [c]
end
/-! ### a list of objects with data -/
def ObDL {δ : Type} (F : δ → SA) (a : δ → Addr) (D : Addr) (ds : List δ) : SA := fun h => Pcs (pt D (.lst (ds.map fun d => .ref (a d))) :: ds.map F) h
section
variable {T : List (Addr × Str)} {δ : Type} {F : δ → SA} {a : δ → Addr} {D : Addr} {ds : List δ} {d : δ} {L : List SA}
theorem obdl_nil {h : Hp} (e : pt D (.lst []) h) : ObDL F a D [] h := pcs_pt1 (fun _ => nofun) e
theorem obdl_out : Fit (ObDL F a D ds :: L) (pt D (.lst (ds.map fun d => .ref (a d))) :: ObD F ds :: L) := Fit.trans (fun _ h => Pcs.unf (L1 := pt D (.lst (ds.map fun d => .ref (a d))) :: ds.map F) h) (Fit.tl fun _ h => Pcs.fold h)
theorem obdl_back : Fit (pt D (.lst (ds.map fun d => .ref (a d))) :: ObD F ds :: L) (ObDL F a D ds :: L) := Fit.trans (Fit.tl fun _ h => Pcs.unf h) fun _ h => Pcs.fold (L1 := pt D (.lst (ds.map fun d => .ref (a d))) :: ds.map F) h
theorem obdl_in : Fit (pt D (.lst (ds.map (fun d => V.ref (a d)) ++ [.ref (a d)])) :: F d :: ObD F ds :: L) (ObDL F a D (ds ++ [d]) :: L) := by
  refine Fit.trans (Fit.tl obd_snoc) (Fit.trans ?_ obdl_back)
  exact Fit.cons .here (Cv.pt (by simp)) Fit.refl
end
def K3 (P : V → V → V → List SA → Prop) : List V → List SA → Prop := fun vs L => ∃ u v w, vs = [u, v, w] ∧ P u v w L
theorem K3.mk {P : V → V → V → List SA → Prop} {u v w : V} {L : List SA} (h : P u v w L) : K3 P [u, v, w] L := ⟨u, v, w, rfl, h⟩
theorem slot_ix {N : List Str} (nd : N.Nodup) {σ : St} {x : Str} {f : V → St} (s : Slot N σ x f) {j : Nat} (hj : N[j]? = some x) : ∀ v, f v = σ.set j (some v) := by
  obtain ⟨i, hi, e⟩ := s.ix
  have hlt : j < N.length := by
    by_cases c : j < N.length
    · exact c
    · rw [List.getElem?_eq_none (by omega)] at hj; cases hj
  have : j = i := (List.getElem?_inj hlt nd).mp (by rw [hj, hi])
  subst this
  exact e
theorem gs_par3 {T : List (Addr × Str)} {X : Cx} {σ : St} {L : List SA} {D : EndsL} {N : List Str} {ks : List (Str × NameKind)} {x y z : Str} {f1 : V → St} {f2 : V → V → St} {f3 : V → V → V → St} {a b c : Expr} {px py pz p3 pos : Pos} {kt k2 p4} (n : Nm X N ks) (s1 : Slot N σ x f1) (s2 : ∀ v, Slot N (f1 v) y (f2 v)) (s3 : ∀ v w, Slot N (f2 v w) z (f3 v w)) (h1 : Kd ks x .local) (h2 : Kd ks y .local) (h3 : Kd ks z .local)
    (ne1 : decide (x = y) = false) (ne2 : decide (x = z) = false) (ne3 : decide (y = z) = false) (hc : X.calm = true)
    (hw : swappedStores [.Tuple [.Name x px, .Name y py, .Name z pz] kt p3] (.Tuple [a, b, c] k2 p4) X.env = pure (some [x, y, z])) (hs : swapsWithSole [.Tuple [.Name x px, .Name y py, .Name z pz] kt p3] (.Tuple [a, b, c] k2 p4) pos.line X.env = pure false)
    (h : GA T X [a, b, c] σ L (K3 fun u v w => D.nx (f3 u v w))) : GS T X (.Assign [.Tuple [.Name x px, .Name y py, .Name z pz] kt p3] (.Tuple [a, b, c] k2 p4) pos) D σ L := by
  obtain ⟨i, hi, ei⟩ := s1.ix
  obtain ⟨j, hj, _⟩ := (s2 .non).ix
  obtain ⟨l, hl, _⟩ := (s3 .non .non).ix
  have ne : ∀ {p q : Str} {i j : Nat}, N[i]? = some p → N[j]? = some q → decide (p = q) = false → i ≠ j := fun {p q i j} a b c z => by
    subst z
    rw [a] at b
    cases b
    exact of_decide_eq_false c rfl
  refine GS.of (ps_par3 (i := i) (j := j) (l := l) hc n.ndN (by rw [n.nn]; exact hi) (by rw [n.nn]; exact hj) (by rw [n.nn]; exact hl) (ne hi hj ne1) (ne hi hl ne2) (ne hj hl ne3) (n.look h1) (n.look h2) (n.look h3) paW hw hs) fun H hh D0 le => h H hh _ fun vs L1 H1 ⟨u, v, w, e, k⟩ h1 => ⟨u, v, w, e, le.nx _ _ _ ?_ h1⟩
  rw [← ei, ← slot_ix n.nd (s2 u) hj, ← slot_ix n.nd (s3 u v) hl]
  exact k
section
variable {T : List (Addr × Str)} {X : Cx} {σ σ0 : St} {L L1 R' : List SA} {K : GK} {elt tg : Expr} {ifs : List Expr} {scope : Scope} {vs : List Nat} {α β : Type} {R : PRep α} {S : PRep β} {v : V} {q : Addr} {d : α}
theorem ent_lst1 (r : Rv T L v R d) : Ent T (pt q (.lst [v]) :: L) (LstR R q [d] :: L) := fun H h => h.packR (.cons (r H h.tail) .nil)
theorem lcgo_k {kvs : List (Key × V)} (P : Key × V → Bool) (g : Key × V → β) (hz : kvs.length ≤ sizeLine) (h : ∀ (D : Addr) (i : Nat) (k : Key) (y : V) (ys : List β), kvs[i]? = some (k, y) → StepM T X scope tg elt ifs vs σ σ0 S L1 D ys (P (k, y)) (g (k, y)) (kV k) (LstR S D ys :: L1)) (hd : ∀ D, K (.ref D) (LstR S D ((kvs.filter P).map g) :: L1)) :
    LcGo T X scope tg elt ifs vs σ σ0 L1 kvs.length (fun i x Lx => (∃ k y, kvs[i]? = some (k, y) ∧ x = kV k) ∧ Lx = []) K := by
  refine lcgo (fun D (ys : List β) => LstR S D ys) (fun i ys => ys = ((kvs.take i).filter P).map g) [] rfl (fun D h e => lst0 S h e) ?_ ?_
  · rintro D i x Lx ys hi ⟨⟨k, y, hk, rfl⟩, rfl⟩ e
    have hl : ys.length < sizeLine := by
      rw [e, List.length_map]
      have := List.length_filter_le P (kvs.take i)
      have : (kvs.take i).length = i := by rw [List.length_take]; omega
      omega
    refine stepM_turn hl (h D i k y ys hk) (fun hp L' t => ?_) (fun hp L' t => ?_)
    · exact ⟨ys ++ [g (k, y)], by show _ = _; rw [filt_succ hk, if_pos hp, List.map_append, ← e]; rfl, t⟩
    · exact ⟨ys, by show _ = _; rw [filt_succ hk, if_neg (by rw [hp]; exact Bool.false_ne_true), List.append_nil, ← e], t⟩
  · intro D ys e
    rw [List.take_length] at e
    subst e
    exact hd D
/-- what a list of data tells of its items -/
theorem lstR_all {p : Addr} {ds : List α} (s : Sel L (LstR R p ds) R') {φ : α → Prop} (f : ∀ h v d, R.rel h v d → φ d) {H : Hp} (h : Hs T L H) : ∀ d ∈ ds, φ d := by
  obtain ⟨xs, _, a⟩ := h.atR s
  intro d hd
  obtain ⟨i, hi⟩ := List.getElem?_of_mem hd
  obtain ⟨x, _, r⟩ := a.get hi
  exact f _ _ _ r
end
theorem mut_k {kvs : List (Key × V)} : Mut (some (.dK kvs)) := by first | exact True.intro | exact ⟨_, rfl⟩ | (unfold Mut; simp) | (unfold Mut; exact .inr (.inl ⟨_, rfl⟩))
end SW
set_option Elab.async false
set_option linter.all false
set_option maxRecDepth 100000
set_option maxHeartbeats 2000000
/-! Sw23: slices with a step of two. -/
namespace SW
open PySem PySem.Spec L2
open PyProof.Rows hiding St
def ev {α : Type} : List α → List α
  | [] => []
  | [x] => [x]
  | x :: _ :: r => x :: ev r
theorem ev_range {α : Type} : ∀ l : List α, ((List.range ((l.length + 1) / 2)).map fun k => 2 * k).filterMap (fun i => l[i]?) = ev l
  | [] => by simp [ev]
  | [x] => by simp [ev]
  | x :: y :: r => by
    have ih := ev_range r
    have e : ((x :: y :: r).length + 1) / 2 = (r.length + 1) / 2 + 1 := by simp only [List.length_cons]; omega
    rw [e, List.range_succ_eq_map, List.map_cons, List.filterMap_cons]
    show x :: _ = x :: ev r
    congr 1
    rw [← ih, List.map_map, List.filterMap_map, List.filterMap_map]
    refine congrArg (fun f => List.filterMap f _) ?_
    funext k
    show (x :: y :: r)[2 * (k + 1)]? = r[2 * k]?
    rw [show 2 * (k + 1) = 2 * k + 1 + 1 by omega, List.getElem?_cons_succ, List.getElem?_cons_succ]
theorem ev_len {α : Type} : ∀ l : List α, (ev l).length = (l.length + 1) / 2
  | [] => by simp [ev]
  | [x] => by simp [ev]
  | x :: y :: r => by simp only [ev, List.length_cons, ev_len r]; omega
theorem ev_vals : ∀ {xs : List V} {us : List Value}, Vals xs us → Vals (ev xs) (ev us)
  | _, _, .nil => .nil
  | _, _, .cons r .nil => .cons r .nil
  | _, _, .cons r (.cons _ t) => .cons r (ev_vals t)
theorem A2r.ev {α : Type} {R : PRep α} {h : Hp} : ∀ {xs : List V} {ds : List α}, A2r R h xs ds → A2r R h (SW.ev xs) (SW.ev ds)
  | _, _, .nil => .nil
  | _, _, .cons r .nil => .cons r .nil
  | _, _, .cons r (.cons _ t) => .cons r (A2r.ev t)
theorem pick_ev {items : Array Value} {a : Nat} (ha : a ≤ items.size) : slicePick items (some (a : Int)) none (some 2) = (ev (items.toList.drop a)).toArray := by
  unfold slicePick
  congr 1
  rw [← ev_range]
  have e : sliceBounds (some (a : Int)) none (some 2) items.size = ((a : Int), (items.size : Int), 2) := by
    have h1 : ¬ ((a : Int) < 0) := by omega
    have h2 : (2 : Int) > 0 := by decide
    simp only [sliceBounds, Option.getD_some, if_neg h1, if_pos h2]
    rw [show max (0 : Int) (min (a : Int) (items.size : Int)) = (a : Int) by omega]
  rw [e]
  unfold sliceRange
  simp only
  rw [if_pos (by decide)]
  by_cases h : (a : Int) < items.size
  · rw [if_pos h, List.length_drop]
    have e2 : (((items.size : Int) - a + 2 - 1) / 2).toNat = (items.toList.length - a + 1) / 2 := by simp only [Array.length_toList]; omega
    rw [e2, List.filterMap_map, List.filterMap_map]
    refine congrArg (fun f => List.filterMap f _) ?_
    funext k
    show items[((a : Int) + 2 * (k : Int)).toNat]? = (items.toList.drop a)[2 * k]?
    rw [List.getElem?_drop, show ((a : Int) + 2 * (k : Int)).toNat = a + 2 * k by omega]
    simp
  · rw [if_neg h]
    have : a = items.size := by omega
    subst this
    simp
section
variable {T : List (Addr × Str)} {X : Cx} {σ : St} {L R' : List SA} {K : GK} {e lo st : Expr} {p2 pos : Pos} {α : Type} {R : PRep α}
/-- xs[a::2] -/
theorem pe_slice2 : PE X (.Subscript e (.Slice (some lo) none (some st) p2) pos) (fun σ H Q => eW X e σ H fun x H1 => oW X (some lo) σ H1 fun l H2 => oW X (some st) σ H2 fun u H3 => ∃ p xs a, x = .ref p ∧ l = some ((a : Nat) : Int) ∧ u = some 2 ∧ SqL X.K H3 p xs ∧ a ≤ xs.length ∧ ∀ q, H3 q = none → Q (.ref q) (upd H3 q (.lst (ev (xs.drop a))))) := by
  refine ⟨fun pins s σ H Q I h => ?_⟩
  refine Subscript_ (thn (peW.run pins s σ H _ I h) fun v s1 ⟨x, H1, I1, r1, q1⟩ => ?_)
  refine wpAny_Slice (thn ((poW (some lo)).run pins s1 σ H1 _ I1 q1) fun vl s2 ⟨l, H2, I2, pl, q2⟩ => ?_)
  rw [evalPart_none]
  refine wpAny_pure (thn ((poW (some st)).run pins s2 σ H2 _ I2 q2) fun vs s3 ⟨u, H3, I3, ps, p, xs, a, ex, el, eu, hl, ha, q⟩ => ?_)
  subst ex el eu
  cases r1
  obtain ⟨its, rv, pl2, hz⟩ := I3.list hl
  have hlen : its.toArray.size = xs.length := by rw [List.size_toArray]; exact rv.length.symm
  show wpAny (model X.prog X.w) X.A (subscriptTail e (.Slice (some lo) none (some st) p2) (.ref p) (.ref s3.heap.objs.size)) (EP X pins σ Q) X.xe { s3 with heap := s3.heap.push { cls := .type "slice", data := .fields #[vl, .none, vs] } }
  have I4 : Inv X pins σ H3 { s3 with heap := s3.heap.push { cls := .type "slice", data := .fields #[vl, .none, vs] } } := I3.kept (t' := s3.toks) fun b ob q => Heap.get?_push_of_some _ q
  have pl4 := pl2.isList.push { cls := .type "slice", data := .fields #[vl, .none, vs] }
  refine tail_any (T := "list") (ops := [.ref p, .ref s3.heap.objs.size]) pl4.typeIs list_getitem_lookup (wpAny_getItem_list_slice pl4 (Heap.IsSliceOf.new ..) pl .none ps (by simp) ?_ (by rw [hlen]; exact hz)) (by with_unfolding_all rfl)
  rw [pick_ev (by rw [hlen]; exact ha)]
  have hx : (ev (xs.drop a)).length ≤ sizeLine := by
    rw [ev_len, List.length_drop]
    have := hz
    have : 1 ≤ sizeLine := by rw [sizeLine_eq]; decide
    omega
  refine ⟨.ref (s3.heap.push { cls := .type "slice", data := .fields #[vl, .none, vs] }).objs.size, _, I4.laid (t' := s3.toks) (o := .lst (ev (xs.drop a))) (fun b o e => Heap.get?_push_of_some _ e) (Nat.le_refl _) ⟨hx, (ev (its.drop a)), 0, ev_vals (rv.drop a), ?_⟩, rfl, q _ (I4.hok.fresh (Nat.le_refl _))⟩
  have := Heap.get?_push_size (s3.heap.push { cls := .type "slice", data := .fields #[vl, .none, vs] }) (o := { cls := .type "list", data := .seq (ev (its.drop a)).toArray }) rfl
  simpa using this
theorem ge_slice2 (h : GE T X e σ L fun x L1 => GO T X (some lo) σ L1 fun l L2 => GO T X (some st) σ L2 fun u L3 => ∃ (α : Type) (R : PRep α) (p : Addr) (ds : List α) (a : Nat) (R' : List SA), x = .ref p ∧ l = some ((a : Nat) : Int) ∧ u = some 2 ∧ Sel L3 (LstR R p ds) R' ∧ a ≤ ds.length ∧ ∀ q, K (.ref q) (LstR R q (ev (ds.drop a)) :: L3)) : GE T X (.Subscript e (.Slice (some lo) none (some st) p2) pos) σ L K :=
  GE.of pe_slice2 fun H hs Q q => h H hs _ fun x L1 H1 k1 h1 => go_run (e := some lo) k1 h1 fun l L2 H2 k2 h2 => go_run (e := some st) k2 h2 fun u L3 H3 ⟨α, R, p, ds, a, R', ex, el, eu, s, ha, k⟩ h3 => by
    obtain ⟨xs, e1, a1⟩ := h3.atR s
    exact ⟨p, xs, a, ex, el, eu, SqL.of e1, by rw [a1.length]; exact ha, fun r hr => q _ _ _ (k r) (h3.newR hr (A2r.ev (a1.drop a)))⟩
end
end SW
set_option Elab.async false
set_option linter.all false
set_option maxRecDepth 100000
set_option maxHeartbeats 2000000
/-! Sw24: iterables of any kind: what they give, loops and comprehensions over them. -/
namespace SW
open PySem PySem.Spec L2
open PyProof.Rows hiding St
/-- an iterator over rows: n items, told by place, while the rows keep -/
structure ItOk (T : List (Addr × Str)) (J : It) (n : Nat) (item : Nat → V → List SA → Prop) (keep : List SA → Prop) : Prop where
  stop : ∀ L H, keep L → Hs T L H → J.stop n H
  go : ∀ i L H, i < n → keep L → Hs T L H → J.go i H
  yld : ∀ i L H x H', i < n → keep L → Hs T L H → J.yld i H x H' → ∃ Lx, item i x Lx ∧ Hs T (Lx ++ L) H'
abbrev KI := Nat → (Nat → V → List SA → Prop) → (List SA → Prop) → List SA → Prop
/-- the iterable of a loop -/
def GIt (T : List (Addr × Str)) (X : Cx) (tg iter : Expr) (σ : St) (L : List SA) (K : KI) : Prop := ∃ wi : TI, PI X tg iter wi ∧ ∀ H, Hs T L H → ∀ R : It → Hp → Prop, (∀ J H1 n item keep L1, ItOk T J n item keep → Hs T L1 H1 → K n item keep L1 → R J H1) → wi σ H R
/-! ### kinds of iterables -/
section
variable {T : List (Addr × Str)} {X : Cx} {σ : St} {L R' : List SA} {K : KI} {tg iter : Expr} {α β : Type} {R : PRep α} {S : PRep β}
theorem git_L (h : GE T X iter σ L fun v L1 => ∃ l xs, v = .ref l ∧ (∃ R, Sel L1 (pt l (.lst xs)) R) ∧ K xs.length (fun i x Lx => xs[i]? = some x ∧ Lx = []) (fun L' => ∃ R, Sel L' (pt l (.lst xs)) R) L1) : GIt T X tg iter σ L K :=
  ⟨_, pi_list peW, fun H hs R r => h H hs _ fun v L1 H1 ⟨l, xs, ev, ⟨R1, s1⟩, k⟩ h1 => ⟨l, ev, ⟨xs, SqL.of (h1.at s1)⟩, r _ _ _ _ _ L1 ⟨fun L H ⟨R, s⟩ h => ⟨xs, SqL.of (h.at s), Nat.le_refl _⟩, fun i L H hi ⟨R, s⟩ h => ⟨xs, xs[i], SqL.of (h.at s), by simp [hi]⟩, fun i L H x H' hi ⟨R, s⟩ h ⟨e, y⟩ => by
    subst e
    exact ⟨[], ⟨y xs (SqL.of (h.at s)), rfl⟩, h⟩⟩ h1 k⟩⟩
theorem git_R (R : PRep α) (h : GE T X iter σ L fun v L1 => ∃ l ds, v = .ref l ∧ (∃ R0, Sel L1 (LstR R l ds) R0) ∧ K ds.length (fun i x Lx => ∃ d, ds[i]? = some d ∧ Lx = [Val R x d]) (fun L' => ∃ R0, Sel L' (LstR R l ds) R0) L1) : GIt T X tg iter σ L K :=
  ⟨_, pi_list peW, fun H hs Q r => h H hs _ fun v L1 H1 ⟨l, ds, ev, ⟨R1, s1⟩, k⟩ h1 => by
    obtain ⟨xs1, e1, _⟩ := h1.atR s1
    refine ⟨l, ev, ⟨xs1, SqL.of e1⟩, r _ _ _ _ _ L1 ⟨fun L H ⟨R0, s⟩ h => ?_, fun i L H hi ⟨R0, s⟩ h => ?_, fun i L H x H' hi ⟨R0, s⟩ h ⟨e, y⟩ => ?_⟩ h1 k⟩
    · obtain ⟨xs, e, a⟩ := h.atR s
      exact ⟨xs, SqL.of e, Nat.le_of_eq a.length⟩
    · obtain ⟨xs, e, a⟩ := h.atR s
      have : i < xs.length := by rw [a.length]; exact hi
      exact ⟨xs, xs[i], SqL.of e, by simp [this]⟩
    · obtain ⟨xs, e2, a⟩ := h.atR s
      subst e
      obtain ⟨d, hd, rr⟩ := a.get' (y xs (SqL.of e2))
      exact ⟨_, ⟨d, hd, rfl⟩, h.addP Val.pers rr⟩⟩
theorem git_T (R : PRep α) (h : GE T X iter σ L fun v L1 => ∃ ds, Rv T L1 v (rTl R) ds ∧ K ds.length (fun i x Lx => ∃ d, ds[i]? = some d ∧ Lx = [Val R x d]) (fun L' => Rv T L' v (rTl R) ds) L1) : GIt T X tg iter σ L K :=
  ⟨_, pi_tup peW, fun H hs Q r => h H hs _ fun v L1 H1 ⟨ds, r1, k⟩ h1 => by
    obtain ⟨l, xs1, rfl, e1, _⟩ := r1 H1 h1
    have get : ∀ {L H}, Rv T L (.ref l) (rTl R) ds → Hs T L H → ∃ xs, H l = some (.tup xs) ∧ A2r R H xs ds := fun {L H} r h => by
      obtain ⟨l', xs, ev, e, a⟩ := r H h
      cases ev
      exact ⟨xs, e, a⟩
    refine ⟨l, rfl, ⟨xs1, SqT.of e1⟩, r _ _ _ _ _ L1 ⟨fun L H s h => ?_, fun i L H hi s h => ?_, fun i L H x H' hi s h ⟨e, y⟩ => ?_⟩ h1 k⟩
    · obtain ⟨xs, e, a⟩ := get s h
      exact ⟨xs, SqT.of e, Nat.le_of_eq a.length⟩
    · obtain ⟨xs, e, a⟩ := get s h
      have : i < xs.length := by rw [a.length]; exact hi
      exact ⟨xs, xs[i], SqT.of e, by simp [this]⟩
    · obtain ⟨xs, e2, a⟩ := get s h
      subst e
      obtain ⟨d, hd, rr⟩ := a.get' (y xs (SqT.of e2))
      exact ⟨_, ⟨d, hd, rfl⟩, h.addP Val.pers rr⟩⟩
theorem git_N {a : Expr} {p pos : Pos} (hg : Gl X "range") (hm : X.mg "range" = none) (hst : starEach [a] X.env = [(false, eval a X.env)])
    (h : GA T X [a] σ L fun vs L1 => ∃ n, vs = [.int n] ∧ -(2 ^ 62) ≤ n ∧ n < 2 ^ 62 ∧ K n.toNat (fun i x Lx => x = .int (i : Nat) ∧ Lx = []) (fun _ => True) L1) : GIt T X tg (.Call (.Name "range" p) [a] [] pos) σ L K :=
  ⟨_, pi_range1 hg hm paW hst, fun H hs Q r => h H hs _ fun vs L1 H1 ⟨n, ev, b1, b2, k⟩ h1 => ⟨n, ev, b1, b2, r _ _ _ _ _ L1 ⟨fun L H _ h => Nat.le_refl _, fun i L H hi _ h => hi, fun i L H x H' hi _ h ⟨e, y⟩ => by
    subst e
    exact ⟨[], ⟨by rw [y, Int.zero_add], rfl⟩, h⟩⟩ h1 k⟩⟩
theorem git_K (h : GE T X iter σ L fun v L1 => ∃ d od kvs, v = .ref d ∧ (∃ R, Sel L1 (pt d (.frz od (.dK kvs))) R) ∧ K kvs.length (fun i x Lx => (∃ k y, kvs[i]? = some (k, y) ∧ x = kV k) ∧ Lx = []) (fun L' => ∃ R, Sel L' (pt d (.frz od (.dK kvs))) R) L1) : GIt T X tg iter σ L K :=
  ⟨_, pi_keys peW, fun H hs R r => h H hs _ fun v L1 H1 ⟨d, od, kvs, ev, ⟨R1, s1⟩, k⟩ h1 => ⟨d, od, ev, .inl ⟨kvs, h1.at s1, r _ _ _ _ _ L1 ⟨fun L H ⟨R, s⟩ h => ⟨h.at s, Nat.le_refl _⟩, fun i L H hi ⟨R, s⟩ h => ⟨h.at s, hi⟩, fun i L H x H' hi ⟨R, s⟩ h ⟨e, k, y, hk, ex⟩ => by
    subst e
    exact ⟨[], ⟨⟨k, y, hk, ex⟩, rfl⟩, h⟩⟩ h1 k⟩⟩⟩
theorem git_N2 {a b : Expr} {p pos : Pos} (hg : Gl X "range") (hm : X.mg "range" = none) (hst : starEach [a, b] X.env = [(false, eval a X.env), (false, eval b X.env)]) (hst2 : starEach [b] X.env = [(false, eval b X.env)])
    (h : GA T X [a, b] σ L fun vs L1 => ∃ lo n, vs = [.int lo, .int n] ∧ (-(2 ^ 62) ≤ lo ∧ lo < 2 ^ 62 ∧ -(2 ^ 62) ≤ n ∧ n < 2 ^ 62) ∧ K (n - lo).toNat (fun i x Lx => x = .int (lo + (i : Nat)) ∧ Lx = []) (fun _ => True) L1) : GIt T X tg (.Call (.Name "range" p) [a, b] [] pos) σ L K :=
  ⟨_, pi_range2 hg hm paW hst hst2, fun H hs Q r => h H hs _ fun vs L1 H1 ⟨lo, n, ev, b1, k⟩ h1 => ⟨lo, n, ev, b1, r _ _ _ _ _ L1 ⟨fun L H _ h => Nat.le_refl _, fun i L H hi _ h => hi, fun i L H x H' hi _ h ⟨e, y⟩ => by
    subst e
    exact ⟨[], ⟨y, rfl⟩, h⟩⟩ h1 k⟩⟩
/-- keys that are tuples: each its own -/
theorem git_Kt (h : GE T X iter σ L fun v L1 => ∃ d od kvs, v = .ref d ∧ (∃ R, Sel L1 (pt d (.frz od (.dT kvs))) R) ∧ K kvs.length (fun i x Lx => ∃ k y q, kvs[i]? = some (k, y) ∧ x = .ref q ∧ Lx = [fun h => h q = some (.tup (k.map kV))]) (fun L' => ∃ R, Sel L' (pt d (.frz od (.dT kvs))) R) L1) : GIt T X tg iter σ L K :=
  ⟨_, pi_keys peW, fun H hs R r => h H hs _ fun v L1 H1 ⟨d, od, kvs, ev, ⟨R1, s1⟩, k⟩ h1 => ⟨d, od, ev, .inr ⟨kvs, h1.at s1, r _ _ _ _ _ L1 ⟨fun L H ⟨R, s⟩ h => ⟨h.at s, Nat.le_refl _⟩, fun i L H hi ⟨R, s⟩ h => ⟨h.at s, hi⟩, fun i L H x H' hi ⟨R, s⟩ h ⟨e, k, y, q, hk, ex, eq⟩ => by
    subst e
    exact ⟨_, ⟨k, y, q, hk, ex, rfl⟩, h.addP pers_tup eq⟩⟩ h1 k⟩⟩⟩
section
variable {e : Expr} {apos cpos tpos pos p : Pos} {elts : List Expr} {kk : Nat}
theorem git_V (hbase : attributeBase e "values" X.env (eval e X.env) = eval e X.env) (hline : (apos.endLine == cpos.line) = true) (h : GE T X e σ L fun v L1 => ∃ d od kvs, v = .ref d ∧ (∃ R, Sel L1 (pt d (.frz od (.dK kvs))) R) ∧ K kvs.length (fun i x Lx => (∃ k, kvs[i]? = some (k, x)) ∧ Lx = []) (fun L' => ∃ R, Sel L' (pt d (.frz od (.dK kvs))) R) L1) : GIt T X tg (.Call (.Attribute e "values" apos) [] [] cpos) σ L K :=
  ⟨_, pi_values peW hbase hline, fun H hs R r => h H hs _ fun v L1 H1 ⟨d, od, kvs, ev, ⟨R1, s1⟩, k⟩ h1 => ⟨d, od, kvs, ev, h1.at s1, r _ _ _ _ _ L1 ⟨fun L H ⟨R, s⟩ h => ⟨h.at s, Nat.le_refl _⟩, fun i L H hi ⟨R, s⟩ h => ⟨h.at s, hi⟩, fun i L H x H' hi ⟨R, s⟩ h ⟨e, k, hk⟩ => by
    subst e
    exact ⟨[], ⟨⟨k, hk⟩, rfl⟩, h⟩⟩ h1 k⟩⟩
theorem git_I (hbase : attributeBase e "items" X.env (eval e X.env) = eval e X.env) (hline : (apos.endLine == cpos.line) = true) (h : GE T X e σ L fun v L1 => ∃ d od kvs, v = .ref d ∧ (∃ R, Sel L1 (pt d (.frz od (.dK kvs))) R) ∧ K kvs.length (fun i x Lx => ∃ k y q, kvs[i]? = some (k, y) ∧ x = .ref q ∧ Lx = [pt q (.tup [kV k, y])]) (fun L' => ∃ R, Sel L' (pt d (.frz od (.dK kvs))) R) L1) : GIt T X (.Tuple elts kk tpos) (.Call (.Attribute e "items" apos) [] [] cpos) σ L K :=
  ⟨_, pi_items peW hbase hline, fun H hs R r => h H hs _ fun v L1 H1 ⟨d, od, kvs, ev, ⟨R1, s1⟩, k⟩ h1 => ⟨d, od, kvs, ev, h1.at s1, r _ _ _ _ _ L1 ⟨fun L H ⟨R, s⟩ h => ⟨h.at s, Nat.le_refl _⟩, fun i L H hi ⟨R, s⟩ h => ⟨h.at s, hi⟩, fun i L H x H' hi ⟨R, s⟩ h ⟨q, k, y, hk, ex, hq, e⟩ => by
    subst e
    exact ⟨_, ⟨k, y, q, hk, ex, rfl⟩, h.new hq fun _ => nofun⟩⟩ h1 k⟩⟩
/-- zip(xs, ys), lists of data -/
theorem git_Z {e2 : Expr} (R : PRep α) (S : PRep β) (hg : Gl X "zip") (hm : X.mg "zip" = none) (hst : starEach [e, e2] X.env = (false, eval e X.env) :: starEach [e2] X.env) (hpl : (backTo pos (starEach [e2] X.env)).any (·.1) = false)
    (h : GA T X [e, e2] σ L fun vs L1 => ∃ a b ds es, vs = [.ref a, .ref b] ∧ (∃ R0, Sel L1 (LstR R a ds) R0) ∧ (∃ R0, Sel L1 (LstR S b es) R0) ∧ K (min ds.length es.length) (fun i x Lx => ∃ d e q y z, ds[i]? = some d ∧ es[i]? = some e ∧ x = .ref q ∧ Lx = [pt q (.tup [y, z]), Val R y d, Val S z e]) (fun L' => (∃ R0, Sel L' (LstR R a ds) R0) ∧ ∃ R0, Sel L' (LstR S b es) R0) L1) : GIt T X (.Tuple elts kk tpos) (.Call (.Name "zip" p) [e, e2] [] pos) σ L K :=
  ⟨_, pi_zip hg hm paW hst hpl, fun H hs Q r => h H hs _ fun vs L1 H1 ⟨a, b, ds, es, ev, ⟨R1, s1⟩, ⟨R2, s2⟩, k⟩ h1 => by
    obtain ⟨xs1, e1, a1⟩ := h1.atR s1
    obtain ⟨ys1, e2, a2⟩ := h1.atR s2
    refine ⟨a, b, xs1, ys1, ev, SqL.of e1, SqL.of e2, r _ _ _ _ _ L1 ⟨fun L H ⟨⟨_, s1⟩, ⟨_, s2⟩⟩ h => ?_, fun i L H hi ⟨⟨_, s1⟩, ⟨_, s2⟩⟩ h => ?_, fun i L H x H' hi ⟨⟨_, s1⟩, ⟨_, s2⟩⟩ h ⟨q, y, z, ex, hq, eh, hy, hz⟩ => ?_⟩ h1 k⟩
    · obtain ⟨xs, e1, a1⟩ := h.atR s1
      obtain ⟨ys, e2, a2⟩ := h.atR s2
      exact ⟨xs, ys, SqL.of e1, SqL.of e2, by rw [a1.length, a2.length]; omega⟩
    · obtain ⟨xs, e1, a1⟩ := h.atR s1
      obtain ⟨ys, e2, a2⟩ := h.atR s2
      have i1 : i < xs.length := by rw [a1.length]; omega
      have i2 : i < ys.length := by rw [a2.length]; omega
      exact ⟨xs, ys, xs[i], ys[i], SqL.of e1, SqL.of e2, by simp [i1], by simp [i2]⟩
    · obtain ⟨xs, e1, a1⟩ := h.atR s1
      obtain ⟨ys, e2, a2⟩ := h.atR s2
      obtain ⟨d, hd, r1⟩ := a1.get' (hy xs (SqL.of e1))
      obtain ⟨e, he, r2⟩ := a2.get' (hz ys (SqL.of e2))
      subst eh
      have t : TupLe H (upd H q (.tup [y, z])) := fun b zs eb => by rw [upd_ne (ne_of_none eb hq)]; exact eb
      refine ⟨_, ⟨d, e, q, y, z, hd, he, ex, rfl⟩, ?_⟩
      have h2 : Hs T (pt q (.tup [y, z]) :: L) (upd H q (.tup [y, z])) := h.new hq fun _ => nofun
      have h3 := (h2.addP (F := Val S z e) Val.pers (S.mono t r2)).addP (F := Val R y d) Val.pers (R.mono t r1)
      exact h3.perm ((List.Perm.swap _ _ _).trans ((List.Perm.swap _ _ _).cons _) |>.trans (by
        first
          | exact List.Perm.refl _
          | exact (List.Perm.swap _ _ _)
          | exact ((List.Perm.swap _ _ _).trans ((List.Perm.swap _ _ _).cons _))))⟩
/-- enumerate(xs), a list of data -/
theorem git_E (R : PRep α) (hg : Gl X "enumerate") (hm : X.mg "enumerate" = none) (hst : starEach [e] X.env = [(false, eval e X.env)])
    (h : GA T X [e] σ L fun vs L1 => ∃ a ds, vs = [.ref a] ∧ (∃ R0, Sel L1 (LstR R a ds) R0) ∧ K ds.length (fun i x Lx => ∃ d q y, ds[i]? = some d ∧ x = .ref q ∧ Lx = [pt q (.tup [.int (i : Nat), y]), Val R y d]) (fun L' => ∃ R0, Sel L' (LstR R a ds) R0) L1) : GIt T X (.Tuple elts kk tpos) (.Call (.Name "enumerate" p) [e] [] pos) σ L K :=
  ⟨_, pi_enum hg hm paW hst, fun H hs Q r => h H hs _ fun vs L1 H1 ⟨a, ds, ev, ⟨R1, s1⟩, k⟩ h1 => by
    obtain ⟨xs1, e1, a1⟩ := h1.atR s1
    refine ⟨a, xs1, ev, SqL.of e1, r _ _ _ _ _ L1 ⟨fun L H ⟨_, s1⟩ h => ?_, fun i L H hi ⟨_, s1⟩ h => ?_, fun i L H x H' hi ⟨_, s1⟩ h ⟨q, y, ex, hq, eh, hy⟩ => ?_⟩ h1 k⟩
    · obtain ⟨xs, e1, a1⟩ := h.atR s1
      exact ⟨xs, SqL.of e1, Nat.le_of_eq a1.length⟩
    · obtain ⟨xs, e1, a1⟩ := h.atR s1
      have i1 : i < xs.length := by rw [a1.length]; omega
      exact ⟨xs, xs[i], SqL.of e1, by simp [i1]⟩
    · obtain ⟨xs, e1, a1⟩ := h.atR s1
      obtain ⟨d, hd, r1⟩ := a1.get' (hy xs (SqL.of e1))
      subst eh
      have t : TupLe H (upd H q (.tup [.int (i : Nat), y])) := fun b zs eb => by rw [upd_ne (ne_of_none eb hq)]; exact eb
      refine ⟨_, ⟨d, q, y, hd, ex, rfl⟩, ?_⟩
      have h2 : Hs T (pt q (.tup [.int (i : Nat), y]) :: L) (upd H q (.tup [.int (i : Nat), y])) := h.new hq fun _ => nofun
      exact (h2.addP (F := Val R y d) Val.pers (R.mono t r1)).perm (List.Perm.swap _ _ _)⟩
end
end
/-! ### loops -/
section
variable {T : List (Addr × Str)} {X : Cx} {σ σ0 : St} {L R' : List SA} {D : EndsL} {K : GK} {tg iter elt kx vx : Expr} {body : List Stmt} {ifs : List Expr} {scope : Scope} {pos : Pos} {α β : Type}
theorem gs_forI (hp : PassesOwn (model X.prog X.w) X.A X.env X.xe) (hc : X.calm = true) (hf : ∀ x, foldedSetIterable iter X.env x = pure x)
    (h : GIt T X tg iter σ L fun n item keep L1 => ∃ inv : Nat → St → List SA → Prop, Fits T (inv 0) σ L1 ∧ (∀ i σ' L', inv i σ' L' → keep L') ∧
      (∀ i x Lx σ' L', i < n → item i x Lx → inv i σ' L' → GG T X tg x σ' (Lx ++ L') fun σ2 L2 => GSs T X body { D with nx := Fits T (inv (i + 1)), ct := Fits T (inv (i + 1)), bk := D.nx } σ2 L2) ∧
      (∀ σ' L', inv n σ' L' → D.nx σ' L')) : GS T X (.For tg iter body [] pos) D σ L := by
  obtain ⟨wi, hi, hw⟩ := h
  refine GS.of (ps_for hp hc hi pgW pssW hf) fun H hh D0 le => hw H hh _ fun J H1 n item keep L1 ok h1 ⟨inv, iv, hl, hs, hd⟩ => ?_
  obtain ⟨L1, iv, h1⟩ := fits_hs iv h1
  refine wfor J n inv (fun σ L H i h => ok.stop L H (hl _ _ _ i) h) (fun i σ L H hi iv h => ok.go i L H hi (hl _ _ _ iv) h) (fun i σ L H hi iv h x H' y => ?_) hd h1 iv le
  obtain ⟨Lx, it, h'⟩ := ok.yld i L H x H' hi (hl _ _ _ iv) h y
  exact ⟨_, h', hs i x Lx σ L hi it iv⟩
theorem lcI_core {own : List (Str × Nat)} {wi : TI} (hw : Wp σ (own.map (·.2)) σ0)
    (h : ∀ H, Hs T L H → ∀ R : It → Hp → Prop, (∀ J H1 n item keep L1, ItOk T J n item keep → Hs T L1 H1 → ((∀ A, keep (A :: L1)) ∧ LcGo T X scope tg elt ifs (own.map (·.2)) σ σ0 L1 n item K) → R J H1) → wi σ H R) : WE T (tLc wi (gB X scope tg) (tB_ X scope ifs) (eB X scope elt) (own.map (·.2))) σ L K := by
  refine fun H hh Q q => h H hh _ fun J H1 n item keep L1 ok h1 ⟨hk, γ, acc, φ, g0, p0, a0, hs, hd⟩ D hD => ?_
  refine wlc J n D (fun i L' => ∃ g, φ i g ∧ L' = acc D g :: L1) hw.eq (fun L H i h => ?_) (fun i L H hi iv h => ?_) (fun i L H hi iv h x H' y => ?_) ⟨_, ⟨g0, p0, rfl⟩, start_acc a0 h1 hD⟩ fun L' H' iv h' => ?_
  · obtain ⟨g, pg, rfl⟩ := i
    exact ok.stop _ _ (hk _) h
  · obtain ⟨g, pg, rfl⟩ := iv
    exact ok.go i _ _ hi (hk _) h
  · obtain ⟨g, pg, rfl⟩ := iv
    obtain ⟨Lx, it, h'⟩ := ok.yld i _ H x H' hi (hk _) h y
    exact ⟨_, h', lct_imp (hs D i x Lx g hi it pg) fun _ => lcn_fit⟩
  · obtain ⟨g, pg, rfl⟩ := iv
    exact q _ _ _ (hd D g pg) h'
theorem ge_lcI (own : List (Str × Nat)) (hc : X.calm = true) (hN : X.N.Nodup) (ok : BlkOk X.N X.env.scope scope own) (hw : Wp σ (own.map (·.2)) σ0) (hf : ∀ x, foldedSetIterable iter X.env x = pure x)
    (h : GIt T X tg iter σ L fun n item keep L1 => (∀ A, keep (A :: L1)) ∧ LcGo T X scope tg elt ifs (own.map (·.2)) σ σ0 L1 n item K) : GE T X (.ListComp elt [⟨tg, iter, ifs, 0⟩] scope pos) σ L K := by
  obtain ⟨wi, hi, h⟩ := h
  exact GE.of (pe_lcW hc hN hi ok hf) (lcI_core hw h)
theorem gs_lcI {N : List Str} {ks : List (Str × NameKind)} {y : Str} {py spos : Pos} {f : V → St} {D : EndsL} (own : List (Str × Nat)) (n : Nm X N ks) (s : Slot N σ y f) (hk : Kd ks y .local) (hc : X.calm = true) (ok : BlkOk X.N X.env.scope scope own) (hw : Wp σ (own.map (·.2)) σ0) (hf : ∀ x, foldedSetIterable iter X.env x = pure x)
    (hsw : swapsWith (.ListComp elt [⟨tg, iter, ifs, 0⟩] scope pos) (some (.Name y py)) spos.line X.env = pure true)
    (h : GIt T X tg iter σ L fun n item keep L1 => (∀ A, keep (A :: L1)) ∧ LcGo T X scope tg elt ifs (own.map (·.2)) σ σ0 L1 n item (fun v L' => D.nx (f v) L')) : GS T X (.Assign [.Name y py] (.ListComp elt [⟨tg, iter, ifs, 0⟩] scope pos) spos) D σ L := by
  obtain ⟨wi, hi, h⟩ := h
  obtain ⟨i, h1, h2⟩ := s.ix
  exact GS.of (ps_setLcW (i := i) n hc (by rw [n.nn]; exact h1) (n.look hk) hsw hi ok hf) fun H hs D0 l => lcI_core hw h H hs _ fun v L' H' k h' => l.nx _ _ _ (by rw [← h2]; exact k) h'
/-! ### comprehensions of dicts -/
/-- the dict at D gets k: z, then N -/
def DcEnd (T : List (Addr × Str)) (D : Addr) (y z : V) (L : List SA) (N : List SA → Prop) : Prop := ∀ H, Hs T L H → ∃ kvs k, y = kV k ∧ H D = some (.dK kvs) ∧ kvs.length < sizeLine ∧ ∃ L', Hs T L' (upd H D (.dK (putK kvs k z))) ∧ N L'
def DcTurn (T : List (Addr × Str)) (X : Cx) (scope : Scope) (tg kx vx : Expr) (ifs : List Expr) (vs : List Nat) (σ σ0 : St) (D : Addr) (x : V) (L : List SA) (N : List SA → Prop) : Prop :=
  ∀ s H C cl fp, GG T (blkX X s H scope C cl fp) tg x σ0 L fun σ2 L2 => wipe σ2 vs = wipe σ vs ∧ ∀ s H C cl fp, GTs T (blkX X s H scope C cl fp) ifs σ2 L2 fun b L3 => if b = true then ∀ s H C cl fp, GE T (blkX X s H scope C cl fp) kx σ2 L3 fun y L4 => ∀ s H C cl fp, GE T (blkX X s H scope C cl fp) vx σ2 L4 fun z L5 => DcEnd T D y z L5 N else N L3
def DcGo (T : List (Addr × Str)) (X : Cx) (scope : Scope) (tg kx vx : Expr) (ifs : List Expr) (vs : List Nat) (σ σ0 : St) (L1 : List SA) (n : Nat) (item : Nat → V → List SA → Prop) (K : GK) : Prop :=
  ∃ (γ : Type) (acc : Addr → γ → SA) (φ : Nat → γ → Prop) (g0 : γ), φ 0 g0 ∧ (∀ D h, pt D (.dK []) h → acc D g0 h) ∧
    (∀ D i x Lx g, i < n → item i x Lx → φ i g → DcTurn T X scope tg kx vx ifs vs σ σ0 D x (Lx ++ acc D g :: L1) (LcN T acc φ L1 D i)) ∧ ∀ D g, φ n g → K (.ref D) (acc D g :: L1)
theorem dcgo {γ : Type} {L1 : List SA} {n : Nat} {vs : List Nat} {item : Nat → V → List SA → Prop} (acc : Addr → γ → SA) (φ : Nat → γ → Prop) (g0 : γ) (p0 : φ 0 g0) (a0 : ∀ D h, pt D (.dK []) h → acc D g0 h)
    (hs : ∀ D i x Lx g, i < n → item i x Lx → φ i g → DcTurn T X scope tg kx vx ifs vs σ σ0 D x (Lx ++ acc D g :: L1) (LcN T acc φ L1 D i)) (hd : ∀ D g, φ n g → K (.ref D) (acc D g :: L1)) : DcGo T X scope tg kx vx ifs vs σ σ0 L1 n item K := ⟨γ, acc, φ, g0, p0, a0, hs, hd⟩
theorem ge_dcI (own : List (Str × Nat)) (hc : X.calm = true) (hN : X.N.Nodup) (ok : BlkOk X.N X.env.scope scope own) (hw : Wp σ (own.map (·.2)) σ0) (hf : ∀ x, foldedSetIterable iter X.env x = pure x)
    (h : GIt T X tg iter σ L fun n item keep L1 => (∀ A, keep (A :: L1)) ∧ DcGo T X scope tg kx vx ifs (own.map (·.2)) σ σ0 L1 n item K) : GE T X (.DictComp kx vx [⟨tg, iter, ifs, 0⟩] scope pos) σ L K := by
  obtain ⟨wi, hi, h⟩ := h
  refine GE.of (pe_dc (g := gB X scope tg) (tt := tB_ X scope ifs) (tk := eB X scope kx) (tv := eB X scope vx) hc hN hi ok (fun s H C cl fp => ⟨fun pins s' σ H' v u Q I r h => h s H C cl fp pins s' u I r⟩) (fun s H C cl fp => ⟨fun pins s' σ H' Q I h => h s H C cl fp pins s' I⟩) (fun s H C cl fp => ⟨fun pins s' σ H' Q I h => h s H C cl fp pins s' I⟩) (fun s H C cl fp => ⟨fun pins s' σ H' Q I h => h s H C cl fp pins s' I⟩) hf) ?_
  refine fun H hh Q q => h H hh _ fun J H1 n item keep L1 ok h1 ⟨hk, γ, acc, φ, g0, p0, a0, hs, hd⟩ D hD => ?_
  have hw2 := hw.eq
  have h2 : Hs T (pt D (.dK []) :: L1) (upd H1 D (.dK [])) := h1.new hD fun _ => nofun
  refine ⟨fun i m H => m = n - i ∧ i ≤ n ∧ ∃ g, φ i g ∧ Hs T (acc D g :: L1) H, ⟨n, by simp, Nat.zero_le _, g0, p0, h2.imp fun h => a0 D h⟩, ?_⟩
  rintro i m H ⟨rfl, hi, g, pg, hs'⟩
  by_cases hlt : i < n
  · refine .inr ⟨ok.go i _ _ hlt (hk _) hs', fun H' => ∃ g', φ (i + 1) g' ∧ Hs T (acc D g' :: L1) H', fun H' q => ⟨n - (i + 1), by omega, rfl, hlt, q⟩, fun x H' y => ?_⟩
    obtain ⟨Lx, it, h'⟩ := ok.yld i _ H x H' hlt (hk _) hs' y
    have tn := hs D i x Lx g hlt it pg
    subst hw2
    intro s H0 C cl fp
    refine tn s H0 C cl fp H' h' _ fun σ2 L2 H2 ⟨e, k2⟩ h2 => ⟨e, fun s H0 C cl fp => k2 s H0 C cl fp H2 h2 _ fun b L3 H3 k3 h3 => ?_⟩
    have fin : ∀ L' H', LcN T acc φ L1 D i L' → Hs T L' H' → ∃ g', φ (i + 1) g' ∧ Hs T (acc D g' :: L1) H' := fun L' H' ⟨g', pg', t⟩ h => ⟨g', pg', t _ h⟩
    cases b with
    | true =>
      rw [if_pos rfl] at k3 ⊢
      intro s H0 C cl fp
      refine k3 s H0 C cl fp H3 h3 _ fun y L4 H4 k4 h4 => ?_
      intro s H0 C cl fp
      refine k4 s H0 C cl fp H4 h4 _ fun z L5 H5 k5 h5 => ?_
      obtain ⟨kvs, k, ey, e1, hz, L', h', nn⟩ := k5 H5 h5
      exact ⟨kvs, k, ey, e1, hz, fin _ _ nn h'⟩
    | false =>
      rw [if_neg Bool.false_ne_true] at k3 ⊢
      exact fin _ _ k3 h3
  · have e : i = n := by omega
    subst e
    exact .inl ⟨ok.stop _ _ (hk _) hs', q _ _ _ (hd D g pg) hs'⟩
end
end SW
set_option Elab.async false
set_option linter.all false
set_option maxRecDepth 100000
set_option maxHeartbeats 2000000
/-! Sw25: comprehensions over data told by place; sorted. -/
namespace SW
open PySem PySem.Spec L2
open PyProof.Rows hiding St
section
variable {T : List (Addr × Str)} {X : Cx} {σ σ0 : St} {L L1 R' : List SA} {K : GK} {elt tg kx vx : Expr} {ifs : List Expr} {scope : Scope} {vs : List Nat} {α β : Type} {S : PRep β} {n : Nat} {item : Nat → V → List SA → Prop}
theorem lcgo_g {as : List α} (hn : as.length = n) (P : α → Bool) (g : α → β) (hz : n ≤ sizeLine) (h : ∀ (D : Addr) (i : Nat) (x : V) (Lx : List SA) (a : α) (ys : List β), as[i]? = some a → item i x Lx → StepM T X scope tg elt ifs vs σ σ0 S L1 D ys (P a) (g a) x (Lx ++ LstR S D ys :: L1)) (hd : ∀ D, K (.ref D) (LstR S D ((as.filter P).map g) :: L1)) :
    LcGo T X scope tg elt ifs vs σ σ0 L1 n item K := by
  refine lcgo (fun D (ys : List β) => LstR S D ys) (fun i ys => ys = ((as.take i).filter P).map g) [] rfl (fun D h e => lst0 S h e) ?_ ?_
  · rintro D i x Lx ys hi it e
    have hi2 : i < as.length := by omega
    have ha : as[i]? = some as[i] := List.getElem?_eq_getElem hi2
    have hl : ys.length < sizeLine := by
      rw [e, List.length_map]
      have := List.length_filter_le P (as.take i)
      have : (as.take i).length = i := by rw [List.length_take]; omega
      omega
    refine stepM_turn hl (h D i x Lx _ ys ha it) (fun hp L' t => ?_) (fun hp L' t => ?_)
    · exact ⟨ys ++ [g as[i]], by show _ = _; rw [filt_succ ha, if_pos hp, List.map_append, ← e]; rfl, t⟩
    · exact ⟨ys, by show _ = _; rw [filt_succ ha, if_neg (by rw [hp]; exact Bool.false_ne_true), List.append_nil, ← e], t⟩
  · intro D ys e
    rw [← hn, List.take_length] at e
    subst e
    exact hd D
/-! dicts -/
def EndD (T : List (Addr × Str)) (D : Addr) (kvs : List (Key × V)) (L1 : List SA) (k : Key) (z : V) (y w : V) (L : List SA) : Prop := ∃ L5, Ent T L (pt D (.dK kvs) :: L5) ∧ y = kV k ∧ w = z ∧ Fit L5 L1
theorem endd {D : Addr} {kvs : List (Key × V)} {k : Key} {z : V} {y w : V} {L5 : List SA} (s : Sel L (pt D (.dK kvs)) L5) (e : y = kV k) (e2 : w = z) (f : Fit L5 L1) : EndD T D kvs L1 k z y w L := ⟨L5, Ent.perm s.perm, e, e2, f⟩
def TstD (T : List (Addr × Str)) (D : Addr) (kvs : List (Key × V)) (L1 : List SA) (p : Bool) (k : List SA → Prop) (b : Bool) (L : List SA) : Prop := b = p ∧ (p = true → k L) ∧ (p = false → Ent T L (pt D (.dK kvs) :: L1))
def StepD (T : List (Addr × Str)) (X : Cx) (scope : Scope) (tg kx vx : Expr) (ifs : List Expr) (vs : List Nat) (σ σ0 : St) (L1 : List SA) (D : Addr) (kvs : List (Key × V)) (p : Bool) (k : Key) (z : V) (x : V) (L : List SA) : Prop :=
  ∀ s H C cl fp, GG T (blkX X s H scope C cl fp) tg x σ0 L fun σ2 L2 => wipe σ2 vs = wipe σ vs ∧ ∀ s H C cl fp, GTs T (blkX X s H scope C cl fp) ifs σ2 L2 (TstD T D kvs L1 p fun L3 => ∀ s H C cl fp, GE T (blkX X s H scope C cl fp) kx σ2 L3 fun y L4 => ∀ s H C cl fp, GE T (blkX X s H scope C cl fp) vx σ2 L4 fun w L5 => EndD T D kvs L1 k z y w L5)
theorem tstd_t {D : Addr} {kvs : List (Key × V)} {k : List SA → Prop} (h : k L) : TstD T D kvs L1 true k true L := ⟨rfl, fun _ => h, nofun⟩
theorem tstd_d {D : Addr} {kvs : List (Key × V)} {p : Prop} [Decidable p] {k : List SA → Prop} {q : Bool} (e : q = decide p) (h1 : p → k L) (h2 : ¬ p → Ent T L (pt D (.dK kvs) :: L1)) : TstD T D kvs L1 q k (decide p) L := ⟨e.symm, fun z => h1 (of_decide_eq_true (by rw [← e]; exact z)), fun z => h2 (of_decide_eq_false (by rw [← e]; exact z))⟩
theorem tstd_b {D : Addr} {kvs : List (Key × V)} {k : List SA → Prop} {q b : Bool} (e : b = q) (h1 : q = true → k L) (h2 : q = false → Ent T L (pt D (.dK kvs) :: L1)) : TstD T D kvs L1 q k b L := ⟨e, h1, h2⟩
theorem stepD_turn {D : Addr} {kvs : List (Key × V)} {p : Bool} {k : Key} {z x : V} {N : List SA → Prop} (hz : kvs.length < sizeLine) (h : StepD T X scope tg kx vx ifs vs σ σ0 L1 D kvs p k z x L) (n1 : p = true → ∀ L', Ent T L' (pt D (.dK (putK kvs k z)) :: L1) → N L') (n2 : p = false → ∀ L', Ent T L' (pt D (.dK kvs) :: L1) → N L') : DcTurn T X scope tg kx vx ifs vs σ σ0 D x L N := by
  intro s H C cl fp H1 h1 Q q
  refine h s H C cl fp H1 h1 Q fun σ2 L2 H2 ⟨e1, kk⟩ h2 => q σ2 L2 H2 ⟨e1, fun s H C cl fp H3 h3 Q3 q3 => ?_⟩ h2
  refine kk s H C cl fp H3 h3 Q3 fun b L4 H4 ⟨eb, k1, k2⟩ h4 => q3 b L4 H4 ?_ h4
  subst eb
  cases b with
  | true =>
    rw [if_pos rfl]
    intro s H C cl fp
    refine GE.mono (k1 rfl s H C cl fp) fun y L5 k5 => ?_
    intro s H C cl fp
    refine GE.mono (k5 s H C cl fp) fun w L6 ⟨L7, t, ey, ew, f⟩ H' h' => ?_
    subst ew
    have h6 := t H' h'
    exact ⟨kvs, k, ey, h6.get, hz, _, h6.wr (by exact True.intro) (fun _ => nofun), n1 rfl _ (Fit.ent (Fit.tl f))⟩
  | false =>
    rw [if_neg Bool.false_ne_true]
    exact n2 rfl _ (k2 rfl)
theorem merge_snoc (a : List (Key × V)) (k : Key) (z : V) : mergeK [] (a ++ [(k, z)]) = putK (mergeK [] a) k z := by simp [mergeK, List.foldl_append]
theorem dcgo_g {as : List α} (hn : as.length = n) (P : α → Bool) (kf : α → Key) (vf : α → V) (hz : n ≤ sizeLine) (h : ∀ (D : Addr) (i : Nat) (x : V) (Lx : List SA) (a : α) (kvs : List (Key × V)), as[i]? = some a → item i x Lx → StepD T X scope tg kx vx ifs vs σ σ0 L1 D kvs (P a) (kf a) (vf a) x (Lx ++ pt D (.dK kvs) :: L1)) (hd : ∀ D, K (.ref D) (pt D (.dK (mergeK [] ((as.filter P).map fun a => (kf a, vf a)))) :: L1)) :
    DcGo T X scope tg kx vx ifs vs σ σ0 L1 n item K := by
  refine dcgo (fun D (kvs : List (Key × V)) => pt D (.dK kvs)) (fun i kvs => kvs = mergeK [] (((as.take i).filter P).map fun a => (kf a, vf a))) [] rfl (fun D h e => e) ?_ ?_
  · rintro D i x Lx kvs hi it e
    have hi2 : i < as.length := by omega
    have ha : as[i]? = some as[i] := List.getElem?_eq_getElem hi2
    have hl : kvs.length < sizeLine := by
      rw [e]
      have h0 := length_mergeK (((as.take i).filter P).map fun a => (kf a, vf a)) []
      rw [List.length_map] at h0
      have := List.length_filter_le P (as.take i)
      have : (as.take i).length = i := by rw [List.length_take]; omega
      simp only [List.length_nil] at h0
      omega
    refine stepD_turn hl (h D i x Lx _ kvs ha it) (fun hp L' t => ?_) (fun hp L' t => ?_)
    · exact ⟨putK kvs (kf as[i]) (vf as[i]), by show _ = _; rw [filt_succ ha, if_pos hp, List.map_append, List.map_cons, List.map_nil, merge_snoc, ← e], t⟩
    · exact ⟨kvs, by show _ = _; rw [filt_succ ha, if_neg (by rw [hp]; exact Bool.false_ne_true), List.append_nil, ← e], t⟩
  · intro D kvs e
    rw [← hn, List.take_length] at e
    subst e
    exact hd D
end
theorem take_succ' {α : Type} {ds : List α} {i : Nat} {d : α} (h : ds[i]? = some d) : ds.take (i + 1) = ds.take i ++ [d] := by
  rw [List.take_succ, h]; rfl
theorem set_self {α : Type} {l : List α} {i : Nat} {a : α} (h : l[i]? = some a) : l.set i a = l := by
  apply List.ext_getElem?
  intro j
  rw [List.getElem?_set]
  by_cases c : i = j
  · subst c
    obtain ⟨hi, _⟩ := List.getElem?_eq_some_iff.mp h
    rw [if_pos rfl, if_pos hi, h]
  · rw [if_neg c]
theorem lt_of_get {α : Type} {l : List α} {i : Nat} {a : α} (h : l[i]? = some a) : i < l.length := (List.getElem?_eq_some_iff.mp h).1
theorem ixN_nat {n i : Nat} (h : i < n) : ixN n (i : Int) = some i := by
  unfold ixN
  rw [if_pos (by omega), if_pos (by omega)]
  congr 1
section
variable {T : List (Addr × Str)} {X : Cx} {σ : St} {L L1 R' : List SA} {K : GK} {KI' : KI} {a : Addr} {n : Nat} {α β : Type} {R : PRep α} {tg iter : Expr}
theorem GIt.ent (t : Ent T L L1) (h : GIt T X tg iter σ L1 KI') : GIt T X tg iter σ L KI' := by
  obtain ⟨wi, hi, hw⟩ := h
  exact ⟨wi, hi, fun H hs => hw H (t H hs)⟩
/-- the length of a list that the rows know somehow -/
theorem gc_lenF (f : ∀ H, Hs T L H → ∃ xs, H a = some (.lst xs) ∧ xs.length = n) (k : K (.int n) L) : GC T X (.builtin "len") [.ref a] L K := GC.of call_len_seq fun H hs Q q => by
  obtain ⟨xs, e, rfl⟩ := f H hs
  exact ⟨a, xs, rfl, .inl (SqL.of e), q _ _ _ k hs⟩
theorem gc_lenD {kvs : List (Key × V)} (s : Sel L (pt a (.dK kvs)) R') (k : K (.int kvs.length) L) : GC T X (.builtin "len") [.ref a] L K := GC.of call_lenD fun H hs Q q => ⟨a, kvs, rfl, hs.at s, q _ _ _ k hs⟩
theorem gc_lenDt {kvs : List (List Key × V)} (s : Sel L (pt a (.dT kvs)) R') (k : K (.int kvs.length) L) : GC T X (.builtin "len") [.ref a] L K := GC.of call_len_dT fun H hs Q q => ⟨a, kvs, rfl, hs.at s, q _ _ _ k hs⟩
end
end SW
set_option Elab.async false
set_option linter.all false
set_option maxRecDepth 100000
set_option maxHeartbeats 2000000
/-! Sw26: zip of plain lists; sorted; typed tables. -/
namespace SW
open PySem PySem.Spec L2
open PyProof.Rows hiding St
section
variable {T : List (Addr × Str)} {X : Cx} {σ : St} {L L1 R' : List SA} {K : KI} {KK : GK} {tg iter e : Expr} {apos cpos tpos pos p : Pos} {elts : List Expr} {kk : Nat}
theorem git_Zp {e2 : Expr} (hg : Gl X "zip") (hm : X.mg "zip" = none) (hst : starEach [e, e2] X.env = (false, eval e X.env) :: starEach [e2] X.env) (hpl : (backTo pos (starEach [e2] X.env)).any (·.1) = false)
    (h : GA T X [e, e2] σ L fun vs L1 => ∃ a b xs ys, vs = [.ref a, .ref b] ∧ (∃ R0, Sel L1 (pt a (.lst xs)) R0) ∧ (∃ R0, Sel L1 (pt b (.lst ys)) R0) ∧ K (min xs.length ys.length) (fun i x Lx => ∃ q y z, xs[i]? = some y ∧ ys[i]? = some z ∧ x = .ref q ∧ Lx = [pt q (.tup [y, z])]) (fun L' => (∃ R0, Sel L' (pt a (.lst xs)) R0) ∧ ∃ R0, Sel L' (pt b (.lst ys)) R0) L1) : GIt T X (.Tuple elts kk tpos) (.Call (.Name "zip" p) [e, e2] [] pos) σ L K :=
  ⟨_, pi_zip hg hm paW hst hpl, fun H hs Q r => h H hs _ fun vs L1 H1 ⟨a, b, xs, ys, ev, ⟨R1, s1⟩, ⟨R2, s2⟩, k⟩ h1 => by
    refine ⟨a, b, xs, ys, ev, SqL.of (h1.at s1), SqL.of (h1.at s2), r _ _ _ _ _ L1 ⟨fun L H ⟨⟨_, s1⟩, ⟨_, s2⟩⟩ h => ?_, fun i L H hi ⟨⟨_, s1⟩, ⟨_, s2⟩⟩ h => ?_, fun i L H x H' hi ⟨⟨_, s1⟩, ⟨_, s2⟩⟩ h ⟨q, y, z, ex, hq, eh, hy, hz⟩ => ?_⟩ h1 k⟩
    · exact ⟨xs, ys, SqL.of (h.at s1), SqL.of (h.at s2), by omega⟩
    · have i1 : i < xs.length := by omega
      have i2 : i < ys.length := by omega
      exact ⟨xs, ys, xs[i], ys[i], SqL.of (h.at s1), SqL.of (h.at s2), by simp [i1], by simp [i2]⟩
    · have e1 := hy xs (SqL.of (h.at s1))
      have e2 := hz ys (SqL.of (h.at s2))
      subst eh
      exact ⟨_, ⟨q, y, z, e1, e2, ex, rfl⟩, h.new hq fun _ => nofun⟩⟩
theorem gc_sortedI {a : Addr} {ns : List Int} (s : Sel L (LstR rInt a ns) R') (k : ∀ ns' p, ns'.Perm ns → ns'.Pairwise (· ≤ ·) → KK (.ref p) (LstR rInt p ns' :: L)) : GC T X (.builtin "sorted") [.ref a] L KK := GC.of cr_sortedI fun H hs Q q => by
  obtain ⟨xs, e1, a1⟩ := hs.atR s
  obtain ⟨e2, _⟩ := a2_scal cInt a1
  subst e2
  exact ⟨a, ns, rfl, SqL.of e1, fun ns' p h1 h2 hp => q _ _ _ (k ns' p h1 h2) (hs.newR hp (a2_map cInt fun _ _ => True.intro))⟩
theorem gc_sortedD {a : Addr} {kvs : List (Key × V)} {ks : List Str} (hc : X.calm = true) (s : Sel L (pt a (.dK kvs)) R') (e : kvs.map (·.1) = ks.map Sum.inr) (hz : ks.length < 64) (hg : ∀ k ∈ ks, strGood k) (k : ∀ ys p, ys.Perm ks → sortedS ys = true → KK (.ref p) (LstR rStr p ys :: L)) : GC T X (.builtin "sorted") [.ref a] L KK := GC.of (call_sortedD hc) fun H hs Q q =>
  ⟨a, kvs, ks, rfl, .inl (hs.at s), e, hz, fun ys p h1 h2 hp => q _ _ _ (k ys p h1 h2) (hs.newR hp (a2_map cStr fun d hd => hg d (h1.mem_iff.mp hd)))⟩
end
/-! ### typed tables -/
section
variable {κ α : Type} [DecidableEq κ]
def sget (d : List (κ × α)) (k : κ) : Option α := (d.find? fun p => decide (p.1 = k)).map (·.2)
def sput (d : List (κ × α)) (k : κ) (v : α) : List (κ × α) := if (d.any fun p => decide (p.1 = k)) = true then d.map (fun p => if p.1 = k then (p.1, v) else p) else d ++ [(k, v)]
def toK (ι : κ → Key) (f : α → V) (d : List (κ × α)) : List (Key × V) := d.map fun p => (ι p.1, f p.2)
def NdS (d : List (κ × α)) : Prop := (d.map (·.1)).Nodup
variable {ι : κ → Key} {f : α → V}
theorem sget_cons (p : κ × α) (d : List (κ × α)) (k : κ) : sget (p :: d) k = if p.1 = k then some p.2 else sget d k := by
  by_cases h : p.1 = k <;> simp [sget, List.find?_cons, h]
theorem toK_get (hi : ∀ a b, ι a = ι b → a = b) (d : List (κ × α)) (k : κ) : valV (toK ι f d) (ι k) = (sget d k).map f := by
  induction d with
  | nil => rfl
  | cons p d ih =>
    rw [sget_cons]
    show valV ((ι p.1, f p.2) :: toK ι f d) (ι k) = _
    rw [valV_cons]
    by_cases h : p.1 = k
    · rw [if_pos h, if_pos (by rw [h])]; rfl
    · rw [if_neg h, if_neg (fun z => h (hi _ _ z)), ih]
theorem toK_put (hi : ∀ a b, ι a = ι b → a = b) (d : List (κ × α)) (k : κ) (v : α) : putK (toK ι f d) (ι k) (f v) = toK ι f (sput d k v) := by
  have e : ((toK ι f d).any fun kv => decide (kv.1 = ι k)) = d.any fun p => decide (p.1 = k) := by
    unfold toK
    rw [List.any_map]
    congr 1
    funext p
    show decide (ι p.1 = ι k) = decide (p.1 = k)
    by_cases h : p.1 = k
    · rw [h]; simp
    · rw [decide_eq_false h, decide_eq_false fun z => h (hi _ _ z)]
  unfold putK sput
  rw [e]
  by_cases h : (d.any fun p => decide (p.1 = k)) = true
  · rw [if_pos h, if_pos h]
    unfold toK
    rw [List.map_map, List.map_map]
    refine List.map_congr_left fun p _ => ?_
    show (if ι p.1 = ι k then (ι p.1, f v) else (ι p.1, f p.2)) = (ι (if p.1 = k then (p.1, v) else p).1, f (if p.1 = k then (p.1, v) else p).2)
    by_cases h : p.1 = k
    · rw [if_pos h, if_pos (by rw [h])]
    · rw [if_neg h, if_neg fun z => h (hi _ _ z)]
  · rw [if_neg h, if_neg h]
    simp [toK]
theorem sget_put (d : List (κ × α)) (k j : κ) (v : α) : sget (sput d k v) j = if j = k then some v else sget d j := by
  unfold sput
  by_cases h : (d.any fun p => decide (p.1 = k)) = true
  · rw [if_pos h]
    induction d with
    | nil => simp at h
    | cons p d ih =>
      rw [List.map_cons, sget_cons, sget_cons]
      by_cases c : p.1 = k
      · by_cases cj : j = k
        · subst cj
          rw [if_pos c, if_pos rfl]
          rw [if_pos c]
        · rw [if_neg cj]
          have : ¬ p.1 = j := fun z => cj (by rw [← z, c])
          rw [if_neg (by rw [if_pos c]; exact this), if_neg this]
          by_cases h2 : (d.any fun p => decide (p.1 = k)) = true
          · rw [ih h2, if_neg cj]
          · have e : d.map (fun p => if p.1 = k then (p.1, v) else p) = d := by
              refine Eq.trans (List.map_congr_left (g := id) fun x hx => ?_) (List.map_id _)
              rw [if_neg fun z => h2 (List.any_eq_true.mpr ⟨x, hx, by simp [z]⟩)]; rfl
            rw [e]
      · rw [if_neg (c := p.1 = k) c]
        rw [List.any_cons, decide_eq_false c, Bool.false_or] at h
        rw [ih h]
        by_cases cj : p.1 = j
        · rw [if_pos cj, if_neg (fun z => c (by rw [cj, z])), if_pos cj]
        · rw [if_neg cj, if_neg cj]
  · rw [if_neg h]
    induction d with
    | nil =>
      simp only [List.nil_append, sget_cons]
      by_cases cj : j = k
      · rw [if_pos cj, if_pos cj.symm]
      · rw [if_neg cj, if_neg fun z => cj z.symm]
    | cons p d ih =>
      rw [List.any_cons, Bool.or_eq_true, not_or] at h
      rw [List.cons_append, sget_cons, sget_cons, ih h.2]
      have c : ¬ p.1 = k := by simpa using h.1
      by_cases cj : p.1 = j
      · rw [if_pos cj, if_pos cj, if_neg fun z => c (by rw [cj, z])]
      · rw [if_neg cj, if_neg cj]
theorem keys_sput (d : List (κ × α)) (k : κ) (v : α) : (sput d k v).map (·.1) = if (d.any fun p => decide (p.1 = k)) = true then d.map (·.1) else d.map (·.1) ++ [k] := by
  unfold sput
  by_cases h : (d.any fun kv => decide (kv.1 = k)) = true
  · rw [if_pos h, if_pos h, List.map_map]
    refine List.map_congr_left fun x _ => ?_
    show (if x.1 = k then (x.1, v) else x).1 = x.1
    by_cases c : x.1 = k
    · rw [if_pos c]
    · rw [if_neg c]
  · rw [if_neg h, if_neg h, List.map_append]; rfl
theorem nds_put {d : List (κ × α)} {k : κ} {v : α} (h : NdS d) : NdS (sput d k v) := by
  unfold NdS at h ⊢
  rw [keys_sput]
  by_cases c : (d.any fun kv => decide (kv.1 = k)) = true
  · rw [if_pos c]; exact h
  · rw [if_neg c]
    refine List.nodup_append.mpr ⟨h, by simp, fun a ha b hb => ?_⟩
    have : b = k := by simpa using hb
    subst this
    intro z
    subst z
    obtain ⟨x, hx, rfl⟩ := List.mem_map.mp ha
    exact c (List.any_eq_true.mpr ⟨x, hx, by simp⟩)
theorem len_sput (d : List (κ × α)) (k : κ) (v : α) : (sput d k v).length ≤ d.length + 1 := by
  unfold sput
  split <;> simp
theorem sget_of_mem {d : List (κ × α)} {x : κ × α} (h : NdS d) (hx : x ∈ d) : sget d x.1 = some x.2 := by
  induction d with
  | nil => cases hx
  | cons p d ih =>
    unfold NdS at h ih
    rw [List.map_cons, List.nodup_cons] at h
    rw [sget_cons]
    rcases List.mem_cons.mp hx with rfl | hx
    · rw [if_pos rfl]
    · rw [if_neg fun z => h.1 (by rw [z]; exact List.mem_map.mpr ⟨x, hx, rfl⟩)]
      exact ih h.2 hx
theorem mem_of_sget {d : List (κ × α)} {k : κ} {v : α} (h : sget d k = some v) : (k, v) ∈ d := by
  induction d with
  | nil => simp [sget] at h
  | cons p d ih =>
    rw [sget_cons] at h
    by_cases c : p.1 = k
    · rw [if_pos c] at h
      cases h
      rw [← c]
      exact List.mem_cons_self
    · rw [if_neg c] at h
      exact List.mem_cons_of_mem _ (ih h)
theorem toK_merge (hi : ∀ a b, ι a = ι b → a = b) {d : List (κ × α)} (h : NdS d) : mergeK [] (toK ι f d) = toK ι f d := by
  have go : ∀ (d e : List (κ × α)), NdS (e ++ d) → mergeK (toK ι f e) (toK ι f d) = toK ι f (e ++ d) := by
    intro d
    induction d with
    | nil => intro e _; rw [List.append_nil]; rfl
    | cons p d ih =>
      intro e h
      show mergeK (putK (toK ι f e) (ι p.1) (f p.2)) (toK ι f d) = _
      have hn : (e.any fun kv => decide (kv.1 = p.1)) = false := by
        cases c : (e.any fun kv => decide (kv.1 = p.1)) with
        | false => rfl
        | true =>
          obtain ⟨x, hx, hp⟩ := List.any_eq_true.mp c
          unfold NdS at h
          rw [List.map_append] at h
          exact absurd rfl ((List.nodup_append.mp h).2.2 x.1 (List.mem_map.mpr ⟨x, hx, rfl⟩) p.1 (by simp) |> fun z => by rw [of_decide_eq_true hp] at z; exact z)
      have e1 : sput e p.1 p.2 = e ++ [p] := by unfold sput; rw [hn, if_neg Bool.false_ne_true]
      rw [toK_put hi, e1, ih (e ++ [p]) (by simpa using h)]
      simp
  exact go d [] (by simpa using h)
end
theorem inr_inj : ∀ a b : Str, (Sum.inr a : Key) = Sum.inr b → a = b := fun a b h => by cases h; rfl
theorem inl_inj : ∀ a b : Int, (Sum.inl a : Key) = Sum.inl b → a = b := fun a b h => by cases h; rfl
end SW
set_option Elab.async false
set_option linter.all false
set_option maxRecDepth 100000
set_option maxHeartbeats 2000000
/-! Sw27: comprehensions that build a list of objects with data. -/
namespace SW
open PySem PySem.Spec L2
open PyProof.Rows hiding St
section
variable {T : List (Addr × Str)} {X : Cx} {σ σ0 : St} {L L1 L5 R' : List SA} {K : GK} {elt tg : Expr} {ifs : List Expr} {scope : Scope} {vs : List Nat} {δ : Type} {F : δ → SA} {a : δ → Addr} {D : Addr} {n : Nat} {item : Nat → V → List SA → Prop}
def EndO (T : List (Addr × Str)) (F : δ → SA) (a : δ → Addr) (D : Addr) (ds : List δ) (L1 : List SA) (φ : List δ → Prop) (y : V) (L : List SA) : Prop := ∃ d, y = .ref (a d) ∧ φ (ds ++ [d]) ∧ Ent T L (F d :: ObDL F a D ds :: L1)
def TstO (T : List (Addr × Str)) (F : δ → SA) (a : δ → Addr) (D : Addr) (ds : List δ) (L1 : List SA) (φ : List δ → Prop) (k : List SA → Prop) (b : Bool) (L : List SA) : Prop := (b = true → k L) ∧ (b = false → φ ds ∧ Ent T L (ObDL F a D ds :: L1))
def StepO (T : List (Addr × Str)) (X : Cx) (scope : Scope) (tg elt : Expr) (ifs : List Expr) (vs : List Nat) (σ σ0 : St) (F : δ → SA) (a : δ → Addr) (L1 : List SA) (D : Addr) (ds : List δ) (φ : List δ → Prop) (x : V) (L : List SA) : Prop :=
  ∀ s H C cl fp, GG T (blkX X s H scope C cl fp) tg x σ0 L fun σ2 L2 => wipe σ2 vs = wipe σ vs ∧ ∀ s H C cl fp, GTs T (blkX X s H scope C cl fp) ifs σ2 L2 (TstO T F a D ds L1 φ fun L3 => ∀ s H C cl fp, GE T (blkX X s H scope C cl fp) elt σ2 L3 (EndO T F a D ds L1 φ))
theorem tsto_t {ds : List δ} {φ : List δ → Prop} {k : List SA → Prop} (h : k L) : TstO T F a D ds L1 φ k true L := ⟨fun _ => h, nofun⟩
theorem endo {ds : List δ} {φ : List δ → Prop} {y : V} (d : δ) (e : y = .ref (a d)) (p : φ (ds ++ [d])) (t : Ent T L (F d :: ObDL F a D ds :: L1)) : EndO T F a D ds L1 φ y L := ⟨d, e, p, t⟩
theorem lcgo_ob (φ : Nat → List δ → Prop) (p0 : φ 0 []) (hz : n ≤ sizeLine) (hl : ∀ i ds, φ i ds → ds.length ≤ i)
    (h : ∀ D i x Lx ds, i < n → item i x Lx → φ i ds → StepO T X scope tg elt ifs vs σ σ0 F a L1 D ds (φ (i + 1)) x (Lx ++ ObDL F a D ds :: L1)) (hd : ∀ D ds, φ n ds → K (.ref D) (ObDL F a D ds :: L1)) : LcGo T X scope tg elt ifs vs σ σ0 L1 n item K := by
  refine lcgo (fun D (ds : List δ) => ObDL F a D ds) φ [] p0 (fun D h e => obdl_nil e) ?_ hd
  intro D i x Lx ds hi it hp
  intro s H C cl fp H1 h1 Q q
  have hlen : ds.length < sizeLine := by have := hl i ds hp; omega
  refine h D i x Lx ds hi it hp s H C cl fp H1 h1 Q fun σ2 L2 H2 ⟨e1, k⟩ h2 => q σ2 L2 H2 ⟨e1, fun s H C cl fp H3 h3 Q3 q3 => ?_⟩ h2
  refine k s H C cl fp H3 h3 Q3 fun b L4 H4 ⟨k1, k2⟩ h4 => q3 b L4 H4 ?_ h4
  cases b with
  | true =>
    rw [if_pos rfl]
    intro s H C cl fp
    refine GE.mono (k1 rfl s H C cl fp) fun y L5 ⟨d, ey, pd, t⟩ => ?_
    subst ey
    refine lcend_ent (L' := pt D (.lst (ds.map fun d => .ref (a d))) :: F d :: ObD F ds :: L1) (Ent.trans t (Fit.ent (Fit.trans (Fit.of (List.Perm.swap _ _ _)) (Fit.trans (obdl_out (F := F) (a := a)) (Fit.tl (Fit.of (List.Perm.swap _ _ _))))))) (lcend_pt .here (by simpa using hlen) ⟨ds ++ [d], pd, Fit.ent obdl_in⟩)
  | false =>
    rw [if_neg Bool.false_ne_true]
    exact ⟨ds, (k2 rfl).1, (k2 rfl).2⟩
end
end SW
set_option Elab.async false
set_option linter.all false
set_option maxRecDepth 100000
set_option maxHeartbeats 2000000
/-! generator expressions under any, all, sum -/
namespace SW
open PySem PySem.Spec L2 GenW
open PyProof.Rows hiding St
abbrev gexEnv (X : Cx) (s : Shared) (scope : Scope) (cl : List (Str × Addr)) (code : Value) : Env := genEnv scope cl s.heap.objs.size code builtinsNs X.env
/-- the context of a generator expression's body -/
abbrev gexX (X : Cx) (s : Shared) (H : Hp) (scope : Scope) (cl : List (Str × Addr)) (code : Value) (A : Around) (fp : List Addr) (pn : List (Addr × Obj)) : Cx :=
  { X with A := A.deeper (gexEnv X s scope cl code), s_0 := s, H_0 := H, env := gexEnv X s scope cl code, outer := X.stack, stack := gexEnv X s scope cl code :: X.stack, ex := fp, fn := fun _ => false, calm := true, pn := pn, xe := fun _ _ => False }
theorem over_gex {A : Around} {elt tg iter : Expr} {ifs : List Expr} {scope : Scope} {pos : Pos} {it : Value} {env : Env} : A.over (.compLoop (.GeneratorExp elt [⟨tg, iter, ifs, 0⟩] scope pos) 0 it .none env) [] = A.deeper env := by
  first
    | rfl
    | (obtain ⟨hd, d, fr, gs, u⟩ := A; simp [Around.over, Around.deeper, marksOver, frameCount, unitsOf, envsOf, guardsOf, pushEnvs, pushGuards, Code.envs, Code.env?, Code.isFrame, Code.guards, Code.isGuard, Code.weight, Code.frames, Code.isCreation, Code.isCaller, Code.cUnits])
theorem over_gex0 {A : Around} {elt tg iter : Expr} {ifs : List Expr} {scope : Scope} {pos : Pos} {it : Value} {env : Env} : A.over (.compStart (.GeneratorExp elt [⟨tg, iter, ifs, 0⟩] scope pos) 0 it .none env) [] = A.deeper env := by
  first
    | rfl
    | (obtain ⟨hd, d, fr, gs, u⟩ := A; simp [Around.over, Around.deeper, marksOver, frameCount, unitsOf, envsOf, guardsOf, pushEnvs, pushGuards, Code.envs, Code.env?, Code.isFrame, Code.guards, Code.isGuard, Code.weight, Code.frames, Code.isCreation, Code.isCaller, Code.cUnits])
section
variable {X : Cx} {pins : List (Addr × Obj)} {σ : St} {H : Hp} {s : Shared}
theorem nofr_of (I : Inv X pins σ H s) {f : Addr} (hf : s.heap.objs.size ≤ f) : f ∉ frs X.stack := fun z => by
  rcases List.mem_cons.mp (I.stkSub _ z) with e | e
  · have h1 := I.lt
    rw [← e] at h1
    exact Nat.lt_irrefl _ (Nat.lt_of_lt_of_le h1 hf)
  · exact I.nofs hf e
theorem gex_start {scope : Scope} {own : List (Str × Nat)} {fp : List Addr} {A : Around} {code : Value} {s2 : Shared} {m : Str → Option Value} {pn : List (Addr × Obj)} (I : Inv X pins σ H s) (ok : BlkOk X.N X.env.scope scope own) (hN : X.N.Nodup) (hnc : ∀ y ∈ scope.names, y.2 ≠ .cell) (hfp : ∀ b ∈ fp, FpOk X pins H b ∧ b < s.heap.objs.size)
    (hA : A.frames = some X.stack) (hh : A.handled = none) (kp : ∀ b o, s.heap.get? b = some o → s2.heap.get? b = some o) (hns : s2.heap.Ns s.heap.objs.size m) (hos : s2.os = s.os) (hba : AllBare s2.gens) (hpn : ∀ p ∈ pn, s.heap.objs.size < p.1 ∧ s2.heap.get? p.1 = some p.2 ∧ ∀ v, p.2.data ≠ .cell v) :
    Inv (gexX X s H scope (cloFrom X.env.cells scope.names []) code A fp pn) [] (wipe σ (own.map (·.2))) H s2 := by
  have hfree : ∀ y ∈ scope.names, y.2 = .free → ∃ c, X.env.cells.lookup y.1 = some c := fun y hy e => by
    rcases ok.free y hy e with k | k
    · exact I.ok.has _ (.inl k)
    · exact I.ok.has _ (.inr k)
  have cm : ∀ {y c}, (y, c) ∈ cloFrom X.env.cells scope.names [] → X.env.cells.lookup y = some c ∧ c < s.heap.objs.size := fun {y c} hm => by
    rcases cloFrom_mem hm with hm | ⟨h1, rfl⟩
    · cases hm
    · obtain ⟨c, hc⟩ := hfree _ h1 rfl
      rw [hc]
      obtain ⟨w, z⟩ := I.cell _ _ hc
      exact ⟨rfl, z.lt⟩
  have mem : ∀ {y c}, (cloFrom X.env.cells scope.names []).lookup y = some c → X.env.cells.lookup y = some c ∧ c < s.heap.objs.size := fun {y c} e => cm (PySem.mem_of_lookup e)
  have look : ∀ {y}, scope.names.lookup y = some .free → ∃ c, (cloFrom X.env.cells scope.names []).lookup y = some c ∧ X.env.cells.lookup y = some c := fun {y} hl => by
    have hy : (y, NameKind.free) ∈ scope.names := PySem.mem_of_lookup hl
    obtain ⟨c', e'⟩ := mem_lookup (cloFrom_has (cells := X.env.cells) (acc := []) hy)
    exact ⟨c', e', (mem e').1⟩
  have okB : (gexX X s H scope (cloFrom X.env.cells scope.names []) code A fp pn).Ok := by
    refine ⟨I.ok.mod, ok.kind, I.ok.glob, rfl, Nat.le_refl _, fun y z c e1 e2 => I.ok.inj y z c (mem e1).1 (mem e2).1, fun y hy => ?_, fun y c z e => (nomatch z), fun _ => hh, Around.frames_deeper hA, .inr ⟨rfl, rfl⟩, fun b hb => ⟨?_, fun y c e z => ?_⟩, I.bs, Nat.le_trans I.ok.bsz I.sz, fun b o e hb => ?_, fun b hb z => ?_, I.stack, I.stkFree⟩
    · rcases hy with hy | hy
      · exact absurd rfl (hnc _ (PySem.mem_of_lookup (show scope.names.lookup y = some .cell from hy)))
      · obtain ⟨c, h1, _⟩ := look (show scope.names.lookup y = some .free from hy)
        exact ⟨c, h1⟩
    · exact Nat.ne_of_lt (hfp b hb).2
    · exact (hfp b hb).1.2.2.2.2.1 y c (mem e).1 z
    · rcases (hfp b hb).1.2.2.2.1 with z | z
      · exact I.ok.noex b o e z
      · exact absurd (Nat.lt_of_lt_of_le (Heap.lt_size e) (Nat.le_trans I.ok.bsz z)) (Nat.lt_irrefl _)
    · rcases List.mem_cons.mp (I.stkSub b z) with z | z
      · exact (hfp b hb).1.2.1 z
      · exact (hfp b hb).1.2.2.1 z
  refine ⟨okB, hos, hba, Un.kept kp, ⟨m, hns, fun i y av e1 e2 e3 => ?_⟩, fun y c e => ?_, I.hok.fresh (Nat.le_refl _), fun y c e => I.freeC y c (mem e).1, fun p hp => ?_, I.hok.kept kp, by rw [wipe_length]; exact I.len⟩
  · obtain ⟨e2, hne⟩ := wipe_some e2
    have hfr : scope.names.lookup y = some .free := by
      have e3 : Vis scope y := e3
      have no : ∀ k, scope.names.lookup y = some k → ¬ (k = .local ∨ k = .cell) := fun k hk hh => by
        rcases ok.own _ (PySem.mem_of_lookup hk) hh with e' | e'
        · obtain ⟨p, hp, hpy⟩ := List.mem_map.mp e'
          have e3 := ok.ix p hp
          have : p.1 = y := hpy
          rw [this] at e3
          exact hne (List.mem_map.mpr ⟨p, hp, nodup_ix hN e3 e1⟩)
        · exact e' (List.mem_of_getElem? e1)
      rcases e3 with e3 | e3 | e3
      · exact absurd (.inl rfl) (no _ e3)
      · exact absurd (.inr rfl) (no _ e3)
      · exact e3
    obtain ⟨m', hn, hl⟩ := I.loc
    have hvis : Vis X.env.scope y := (ok.free _ (PySem.mem_of_lookup hfr) rfl).elim (fun k => .inr (.inl k)) (fun k => .inr (.inr k))
    obtain ⟨w, r, q⟩ := hl i y av e1 e2 hvis
    refine ⟨w, r, .inr ⟨.inr hfr, ?_⟩⟩
    obtain ⟨c, h1, h2⟩ := look hfr
    rcases q with ⟨k, _⟩ | ⟨_, c', e', z⟩
    · have k : X.env.scope.names.lookup y = some .local := k
      rcases ok.free _ (PySem.mem_of_lookup hfr) rfl with k' | k' <;> rw [show X.env.scope.names.lookup y = _ from k'] at k <;> cases k
    · rw [h2] at e'; cases e'
      exact ⟨c, h1, z.keeps kp⟩
  · obtain ⟨w, z⟩ := I.cell y c (mem e).1
    exact ⟨w, z.keeps kp⟩
  · rcases List.mem_append.mp hp with hp | hp
    · obtain ⟨h1, h2, h3⟩ := hpn p hp
      exact ⟨h2, I.hok.fresh (Nat.le_of_lt h1), Nat.ne_of_gt h1, nofr_of I (Nat.le_of_lt h1), h3⟩
    · cases hp
end
/-! ### the protocol -/
section
variable {γ : Type} (rep : γ → List (Addr × Obj) → Prop) (cS : List Addr)
/-- the consumer goes on: its own objects tell t -/
structure WokeG (t : γ) (s s' : Shared) : Prop where
  os : s'.os = s.os
  bare : AllBare s'.gens
  keep : ∀ b o, b ∉ cS → s.heap.get? b = some o → s'.heap.get? b = some o
  own : ∃ cp, rep t cp ∧ ∀ p ∈ cp, s'.heap.get? p.1 = some p.2 ∧ ∀ v, p.2.data ≠ .cell v
/-- what the consumer may know of the state -/
structure BsG (X : Cx) (s4 : Shared) (H4 : Hp) (fp : List Addr) (a : Addr) (g : Nat) (H : Hp) (s : Shared) : Prop where
  os : s.os = s4.os
  bare : AllBare s.gens
  un : Un (frs X.stack) fp H4 H s4.heap s.heap
  hok : HOk X.prog X.w H s.heap
  lim : s.heap.NoLimit
  gen : s.heap.IsGen a g
def YGx (X : Cx) (s4 : Shared) (H4 : Hp) (fp : List Addr) (a : Addr) (g : Nat) (use : γ → V → Hp → (γ → Prop) → Prop) : Protocol := fun n s₀ v s kap =>
  ∃ t cp y H, rep t cp ∧ (∀ p ∈ cp, s₀.heap.get? p.1 = some p.2 ∧ s.heap.get? p.1 = some p.2 ∧ H p.1 = none) ∧ RelV y v ∧ BsG X s4 H4 fp a g H s ∧ use t y H (fun t' => ∀ s', WokeG rep cS t' s s' → kap (.send .none) s')
def FGx (X : Cx) (s4 : Shared) (H4 : Hp) (fp : List Addr) (a : Addr) (g : Nat) (fin : γ → Hp → Prop) : Nat → Shared → Shared → Prop := fun n s₀ s =>
  ∃ t cp H, rep t cp ∧ (∀ p ∈ cp, s₀.heap.get? p.1 = some p.2 ∧ s.heap.get? p.1 = some p.2 ∧ H p.1 = none) ∧ BsG X s4 H4 fp a g H s ∧ fin t H
def EGx (X : Cx) (s4 : Shared) (H4 : Hp) (fp : List Addr) (a : Addr) (g : Nat) (fin : γ → Hp → Prop) : GenEnd := fun n s₀ r s₁ => ((r = .ok (.ret .none) ∨ r = .ok .next) ∧ FGx rep X s4 H4 fp a g fin n s₀ s₁) ∨ ∃ e, r = .error e ∧ False
end
section
variable {γ : Type} {rep : γ → List (Addr × Obj) → Prop} {cS : List Addr} {X : Cx} {s4 : Shared} {H4 : Hp} {fp : List Addr} {a : Addr} {g : Nat} {use : γ → V → Hp → (γ → Prop) → Prop} {fin : γ → Hp → Prop}
variable {scope : Scope} {cl : List (Str × Addr)} {code : Value} {A : Around} {go : Obj}
/-- the consumer's objects are none of the generator's -/
structure ConsOk (X : Cx) (s4 : Shared) (fp : List Addr) (a : Addr) (cl : List (Str × Addr)) (cS : List Addr) : Prop where
  afp : ∀ b ∈ fp, a ≠ b
  ab : ∀ b ∈ cS, s4.heap.objs.size < b
  ne : ∀ b ∈ cS, b ≠ a
  cl : ∀ b ∈ cS, ∀ x c, cl.lookup x = some c → c ≠ b
  fp : ∀ b ∈ cS, b ∉ fp
theorem woken_g {cp : List (Addr × Obj)} {σ : St} {H : Hp} {s s' : Shared} {t t' : γ} (hrep : ∀ t cp, rep t cp → cp.map (·.1) = cS) (co : ConsOk X s4 fp a cl cS) (r : rep t cp) (I : Inv (gexX X s4 H4 scope cl code A fp [(a, go)]) cp σ H s) (z : WokeG rep cS t' s s') :
    ∃ cp', rep t' cp' ∧ (∀ p ∈ cp', s'.heap.get? p.1 = some p.2) ∧ Inv (gexX X s4 H4 scope cl code A fp [(a, go)]) cp' σ H s' := by
  obtain ⟨z1, z2, z3, cp', r', hcp'⟩ := z
  have mm : ∀ b, b ∈ cS ↔ ∃ p ∈ cp, p.1 = b := fun b => by rw [← hrep t cp r]; exact List.mem_map
  have hc0 : ∀ b ∈ cS, H b = none := fun b hb => by
    obtain ⟨p, hp, e⟩ := (mm b).mp hb
    rw [← e]
    exact (I.pin p (List.mem_append_right _ hp)).2.1
  have hcf : ∀ b ∈ cS, b ≠ (gexX X s4 H4 scope cl code A fp [(a, go)]).env.locals ∧ b ∉ (gexX X s4 H4 scope cl code A fp [(a, go)]).fs := fun b hb => by
    obtain ⟨p, hp, e⟩ := (mm b).mp hb
    rw [← e]
    exact ⟨(I.pin p (List.mem_append_right _ hp)).2.2.1, (I.pin p (List.mem_append_right _ hp)).2.2.2.1⟩
  have nt : ∀ b u, H b = some u → b ∉ cS := fun b u q hb => by rw [hc0 b hb] at q; cases q
  have I0 : Inv (gexX X s4 H4 scope cl code A fp [(a, go)]) [] σ H s := I.pins_of fun p hp => by cases hp
  obtain ⟨hh, gg, d, tk, o⟩ := s'
  have ho : o = s.os := z1
  subst ho
  have J : Inv (gexX X s4 H4 scope cl code A fp [(a, go)]) [] σ H { s with heap := hh, gens := gg, drawn := d, toks := tk } := by
    refine I0.step (g' := gg) (t' := tk) (d' := d) (ch := cS) (fun b hb => ⟨.inr (Nat.le_of_lt (co.ab b hb)), (hcf b hb).1, fun x c e => co.cl b hb x c e, fun p hp => ?_⟩)
      (fun b ob _ _ hc q _ => z3 b ob hc q) (fun b ob _ _ hc q _ => ⟨ob.slots, z3 b ob hc q⟩) (fun _ _ _ _ n => n) (fun b ob hc q => ⟨ob, z3 b ob hc q⟩)
      (fun _ _ q => q) (fun _ _ _ q => q) (fun b ps q => ⟨#[], by rw [q]; simp⟩) (fun m hm => ?_) (fun b u q => ?_) z2
    · rcases List.mem_append.mp hp with hp | hp
      · rw [List.mem_singleton.mp hp]; exact fun z => co.ne b hb z.symm
      · cases hp
    · obtain ⟨ob, es, ep, ho, r⟩ := hm
      exact ⟨ob, es, ep, z3 _ ob (fun hb => (hcf _ hb).1 rfl) ho, r⟩
    · refine (I0.hok b u q).stay (fun c v hc y => z3 c v ?_ y) (fun _ y => y) fun _ _ y => y
      rcases hc with y | y
      · rw [y]; exact nt b u q
      · exact nt c _ y
  refine ⟨cp', r', fun p hp => (hcp' p hp).1, J.pins_of fun p hp => ?_⟩
  have hb : p.1 ∈ cS := by rw [← hrep t' cp' r']; exact List.mem_map_of_mem hp
  exact ⟨(hcp' p hp).1, hc0 _ hb, (hcf _ hb).1, (hcf _ hb).2, (hcp' p hp).2⟩
theorem bs_of {cp : List (Addr × Obj)} {σ : St} {H : Hp} {s : Shared} (hgo : ∀ h : Heap, h.get? a = some go → h.IsGen a g) (I : Inv (gexX X s4 H4 scope cl code A fp [(a, go)]) cp σ H s) : BsG X s4 H4 fp a g H s :=
  ⟨I.os, I.bare, I.base, I.hok, I.nolimit, hgo _ (I.pin (a, go) (List.mem_append_left _ (List.mem_singleton.mpr rfl))).1⟩
variable {tg iter elt : Expr} {ifs : List Expr} {pos : Pos} {it : Addr} {J : It} {tn : Nat → Heap → Prop} {vs : List Nat} {σ : St}
theorem gseg (hrep : ∀ t cp, rep t cp → cp.map (·.1) = cS) (co : ConsOk X s4 fp a cl cS) (hgo : ∀ h : Heap, h.get? a = some go → h.IsGen a g) (hco : scope.isCoroutine = false) (hmono : ∀ t y H p q, (∀ t', p t' → q t') → use t y H p → use t y H q)
    (T : Turn X.prog X.w X.K tg J fp it tn) (W : Nat → Nat → γ → Hp → Prop)
    (turn : ∀ i m t H, W i m t H → (J.stop i H ∧ fin t H) ∨ (J.go i H ∧ 0 < m ∧ ∃ Nx : γ → Hp → Prop, (∀ t' H', Nx t' H' → ∃ m', m' < m ∧ W (i + 1) m' t' H') ∧ ∀ x H', J.yld i H x H' → gW (gexX X s4 H4 scope cl code A fp [(a, go)]) tg x (wipe σ vs) H' fun σ2 H2 => wipe σ2 vs = wipe σ vs ∧ tsW (gexX X s4 H4 scope cl code A fp [(a, go)]) ifs σ2 H2 fun b H3 =>
      if b = true then eW (gexX X s4 H4 scope cl code A fp [(a, go)]) elt σ2 H3 fun y H4 => use t y H4 (fun t' => Nx t' H4) else Nx t H3)) :
    ∀ (m n i : Nat) (t : γ) (s₀ s : Shared) (H : Hp) (cp : List (Addr × Obj)), m ≤ n → W i m t H → rep t cp → Inv (gexX X s4 H4 scope cl code A fp [(a, go)]) cp (wipe σ vs) H s → tn i s.heap → (∀ b ∈ fp, H b = none) → (∀ p ∈ cp, s₀.heap.get? p.1 = some p.2) →
      Seg (model X.prog X.w) A (EGx rep X s4 H4 fp a g fin) (YGx rep cS X s4 H4 fp a g use) n s₀ (.compLoop (.GeneratorExp elt [⟨tg, iter, ifs, 0⟩] scope pos) 0 (.ref it) .none (gexEnv X s4 scope cl code))
        ((model X.prog X.w).den (.compLoop (.GeneratorExp elt [⟨tg, iter, ifs, 0⟩] scope pos) 0 (.ref it) .none (gexEnv X s4 scope cl code))) [] s := by
  have stat : ∀ {cp : List (Addr × Obj)} {t : γ} {σ' : St} {H' : Hp} {s' : Shared}, rep t cp → Inv (gexX X s4 H4 scope cl code A fp [(a, go)]) cp σ' H' s' → (∀ b ∈ fp, H' b = none) → ∀ b ∈ fp, FpOk (gexX X s4 H4 scope cl code A fp [(a, go)]) cp H' b := fun {cp t σ' H' s'} r I' hn b hb =>
    ⟨hn b hb, (I'.ok.exf b hb).1, I'.ok.exfs b hb, .inl hb, fun x c e => (I'.ok.exf b hb).2 x c e, fun p hp z => by
      rcases List.mem_append.mp hp with hp | hp
      · rw [List.mem_singleton.mp hp] at z
        exact co.afp b hb z
      · exact co.fp p.1 (by rw [← hrep t cp r]; exact List.mem_map_of_mem hp) (by rw [z]; exact hb)⟩
  intro m
  induction m using Nat.strongRecOn with
  | ind m ih =>
    intro n i t s₀ s H cp hmn hw r I st hfn hs0
    show Seg _ A _ _ _ s₀ _ ((compTurn (.GeneratorExp elt [⟨tg, iter, ifs, 0⟩] scope pos) 0 (.ref it) .none (gexEnv X s4 scope cl code)).onRaise (leaving (gexEnv X s4 scope cl code))) [] s
    rw [compTurn_gen, Sem.onRaise_eq_wrap]
    refine seg_bind_wrap (wpAny_standAt ?_)
    refine seg_bind_wrap ?_
    rw [over_gex]
    rcases turn i m t H hw with ⟨stop, hf⟩ | ⟨go_, hm0, Nx, hNx, step⟩
    · refine thnF (T.done (gexX X s4 H4 scope cl code A fp [(a, go)]) rfl rfl rfl rfl i cp s _ H (fun _ _ => False) I (stat r I hfn) st stop) fun rr s6 ⟨hr, I6⟩ => ?_
      subst hr
      refine seg_end (.ok .next) (.inl ⟨.inr rfl, t, cp, H, r, fun p hp => ⟨hs0 p hp, (I6.pin p (List.mem_append_right _ hp)).1, (I6.pin p (List.mem_append_right _ hp)).2.1⟩, bs_of hgo I6, hf⟩)
    · refine thnF (T.item (gexX X s4 H4 scope cl code A fp [(a, go)]) rfl rfl rfl rfl i cp s _ H (fun _ _ => False) I (stat r I hfn) st go_) fun rr s6 ⟨u, hr, h6⟩ => ?_
      subst hr
      refine seg_bind_wrap ?_
      rw [over_gex]
      refine thnF h6 fun _ s7 ⟨x, H7, I7, r7, y7, st7, n7⟩ => ?_
      have I7' := I7.pinned (stat r I7 n7) (T.obj _ _ st7)
      refine seg_bind_wrap ?_
      rw [over_gex]
      refine thnF (step x H7 y7 _ s7 u I7' r7) fun _ s8 ⟨σ8, H8, I8, hw8, q8⟩ => ?_
      refine seg_bind_wrap ?_
      rw [over_gex]
      refine thnF (q8 _ s8 I8) fun b s9 ⟨H9, I9, q9⟩ => ?_
      -- the turn's end
      have fin' : ∀ {t' : γ} {cp' : List (Addr × Obj)} {s1 s' : Shared} {H' : Hp} {n' : Nat} {s₀' : Shared}, rep t' cp' → (∀ p ∈ cp', s₀'.heap.get? p.1 = some p.2) → m ≤ n' + 1 → Inv (gexX X s4 H4 scope cl code A fp [(a, go)]) cp' σ8 H' s' → (∀ b ∈ fp, ∀ o, s7.heap.get? b = some o → s'.heap.get? b = some o ∧ H' b = none) → Nx t' H' →
          Seg (model X.prog X.w) A (EGx rep X s4 H4 fp a g fin) (YGx rep cS X s4 H4 fp a g use) n' s₀' (.compLoop (.GeneratorExp elt [⟨tg, iter, ifs, 0⟩] scope pos) 0 (.ref it) .none (gexEnv X s4 scope cl code))
            ((model X.prog X.w).den (.compLoop (.GeneratorExp elt [⟨tg, iter, ifs, 0⟩] scope pos) 0 (.ref it) .none (gexEnv X s4 scope cl code))) [] s' := fun {t' cp' s1 s' H' n' s₀'} r' h0 hm I' pin' nx => by
        obtain ⟨m', hm', w'⟩ := hNx t' H' nx
        have hl : (wipe σ vs).length = σ8.length := by rw [← hw8, wipe_length]
        refine ih m' hm' n' (i + 1) t' s₀' s' H' cp' (by omega) w' r' (I'.weak hl (fun j v e => ?_)) (T.keep _ _ _ st7 fun b hb o e => (pin' b hb o e).1) (fun b hb => ?_) h0
        · rw [← hw8] at e
          exact (wipe_some e).1
        · obtain ⟨o, e, _⟩ := T.obj _ _ st7 b hb
          exact (pin' b hb o e).2
      cases b with
      | false =>
        simp only [Bool.false_eq_true, if_false] at q9 ⊢
        refine seg_again rfl (fin' (s1 := s9) r hs0 (by omega) (I9.unpinned) (fun b hb o e => ?_) q9)
        have z := I9.pin (b, o) (List.mem_append_right _ (List.mem_append_right _ (mem_pinsAt hb e)))
        exact ⟨z.1, z.2.1⟩
      | true =>
        simp only [if_true] at q9 ⊢
        have hy : ∀ v, yieldOut (gexEnv X s4 scope cl code) v = yieldValue v := fun v => by simp only [yieldOut, show (gexEnv X s4 scope cl code).scope.isCoroutine = false from hco, Bool.false_eq_true, if_false]
        simp only [hy]
        rw [Sem.bind_eq_wrap', Sem.bind_eq_wrap', Sem.wrap_wrap, Sem.wrap_wrap]
        refine seg_wrap ?_
        rw [over_gex]
        refine thnF (q9 _ s9 I9) fun z s10 ⟨yv, H10, I10, r10, q10⟩ => ?_
        obtain ⟨n', rfl⟩ : ∃ n', n = n' + 1 := ⟨n - 1, by omega⟩
        refine seg_at (seg_yield rfl rfl rfl ?_)
        have I10' := I10.unpinned
        refine ⟨t, cp, yv, H10, r, fun p hp => ⟨hs0 p hp, (I10'.pin p (List.mem_append_right _ hp)).1, (I10'.pin p (List.mem_append_right _ hp)).2.1⟩, r10, bs_of hgo I10', hmono _ _ _ _ _ (fun t' nx s' wk => ?_) q10⟩
        obtain ⟨cp', r', hc', I11⟩ := woken_g hrep co r I10' wk
        refine seg_again rfl (fin' (s1 := s9) r' hc' (by omega) I11 (fun b hb o e => ?_) nx)
        have z := I10.pin (b, o) (List.mem_append_right _ (List.mem_append_right _ (mem_pinsAt hb e)))
        exact ⟨wk.keep b o (fun hc => co.fp b hc hb) z.1, z.2.1⟩
end
/-! ### the consumer's side -/
section
variable {γ : Type} {rep : γ → List (Addr × Obj) → Prop} {cS : List Addr} {X : Cx} {s4 : Shared} {H4 : Hp} {fp : List Addr} {a : Addr} {g : Nat} {use : γ → V → Hp → (γ → Prop) → Prop} {fin : γ → Hp → Prop} {A : Around}
/-- the generator sleeps, n wakings left -/
def SlpG (rep : γ → List (Addr × Obj) → Prop) (cS : List Addr) (X : Cx) (s4 : Shared) (H4 : Hp) (fp : List Addr) (a : Addr) (g : Nat) (use : γ → V → Hp → (γ → Prop) → Prop) (fin : γ → Hp → Prop) (A : Around) (n : Nat) (s : Shared) : Prop :=
  s.heap.IsGen a g ∧ s.heap.NoLimit ∧ ∃ gs, s.gens[g]? = some gs ∧ gs.Goes (model X.prog X.w) A.in1 (EGx rep X s4 H4 fp a g fin) (YGx rep cS X s4 H4 fp a g use) n (.send .none) (s.setGen g .running)
theorem BsG.set {H : Hp} {s : Shared} {x : GenState} (b : BsG X s4 H4 fp a g H s) (hx : x.bare = true) : BsG X s4 H4 fp a g H (s.setGen g x) := ⟨b.os, allBare_setGen b.bare hx, b.un, b.hok, b.lim, b.gen⟩
theorem BsG.grow {H : Hp} {s : Shared} {h' : Heap} (b : BsG X s4 H4 fp a g H s) (k : ∀ c o, s.heap.get? c = some o → h'.get? c = some o) : BsG X s4 H4 fp a g H { s with heap := h' } := ⟨b.os, b.bare, b.un.trans (Un.kept k), b.hok.kept k, b.lim.keeps k, b.gen.keeps k⟩
theorem gnext {n : Nat} {s : Shared} {Q : Option Value → Shared → Prop} {E : Value → Shared → Prop} (hh : A.handled = none) (hd : A.depth < recursionLimit) (hcs : ∀ b ∈ cS, b ≠ a ∧ b ≠ cStatics) (hmono : ∀ t y H p q, (∀ t', p t' → q t') → use t y H p → use t y H q) (h : SlpG rep cS X s4 H4 fp a g use fin A n s)
    (hY : ∀ t cp y v H s', rep t cp → (∀ p ∈ cp, s.heap.get? p.1 = some p.2 ∧ s'.heap.get? p.1 = some p.2 ∧ H p.1 = none) → RelV y v → BsG X s4 H4 fp a g H s' →
      use t y H (fun t' => ∀ s'', s''.gens = s'.gens → s''.os = s'.os → (∀ b o, b ∉ cS → s'.heap.get? b = some o → s''.heap.get? b = some o) → (∃ cp', rep t' cp' ∧ ∀ p ∈ cp', s''.heap.get? p.1 = some p.2 ∧ ∀ v, p.2.data ≠ .cell v) → ∃ n', n' < n ∧ SlpG rep cS X s4 H4 fp a g use fin A n' s'') → Q (some v) s')
    (hP : ∀ t cp H s', rep t cp → (∀ p ∈ cp, s.heap.get? p.1 = some p.2 ∧ s'.heap.get? p.1 = some p.2 ∧ H p.1 = none) → BsG X s4 H4 fp a g H s' → fin t H → Q none s') : wpAny (model X.prog X.w) A (pyNext (.ref a)) Q E s := by
  obtain ⟨hg, hl, gs, hgs, hgo⟩ := h
  have hgl : g < s.gens.size := (Array.getElem?_eq_some_iff.mp hgs).1
  have goes : gs.Goes (model X.prog X.w) A.in1 (fun n s₀ r s₁ => ((r = .ok (.ret .none) ∨ r = .ok .next) ∧ FGx rep X s4 H4 fp a g fin n s₀ s₁) ∨ ∃ e, r = .error e ∧ (fun _ _ => False) e s₁) (YGx rep cS X s4 H4 fp a g use) n (.send .none) (s.setGen g .running) := hgo
  refine wpAny_gsz (n := g + 1) hgl (next_genG (Er := fun _ _ => False) hh hl hd hg hgs goes (fun v s₁ gs' hbare hv => ?_) (fun s₁ hp h' hk => ?_) fun e s₁ he => he.elim)
  · intro hsz
    have hsz1 : g < s₁.gens.size := by
      have q : (s₁.setGen g gs').gens.size = s₁.gens.size := setGen_size _ _ _
      have hsz' : g + 1 ≤ (s₁.setGen g gs').gens.size := hsz
      omega
    obtain ⟨t, cp, y, H, r, hcp, rv, bs, hu⟩ := hv
    refine hY t cp y v H (s₁.setGen g gs') r hcp rv (bs.set hbare) (hmono _ _ _ _ _ (fun t' kk s'' e1 e2 e3 e4 => ?_) hu)
    have wk : WokeG rep cS t' s₁ (s''.setGen g .running) := ⟨e2, allBare_setGen (by rw [e1]; exact allBare_setGen bs.bare hbare) rfl, e3, e4⟩
    have kk' := kk _ wk
    cases n with
    | zero => exact kk'.elim
    | succ n =>
      refine ⟨n, Nat.lt_succ_self _, ?_, ?_, gs', ?_, kk'⟩
      · obtain ⟨o, nm, qn, ho, r⟩ := bs.gen
        exact ⟨o, nm, qn, e3 a o (fun hb => (hcs a hb).1 rfl) ho, r⟩
      · obtain ⟨mc, hns, hnn⟩ := bs.lim
        exact ⟨mc, hns.at' fun o e => e3 _ o (fun hb => (hcs _ hb).2 rfl) e, hnn⟩
      · rw [e1]; exact setGen_at hsz1
  · intro hsz
    obtain ⟨t, cp, H, r, hcp, bs, hf⟩ := hp
    exact hP t cp H _ r (fun p hp => ⟨(hcp p hp).1, hk _ _ (hcp p hp).2.1, (hcp p hp).2.2⟩) ((bs.set rfl).grow hk) hf
end
/-! ### any, all -/
section
variable {X : Cx} {s4 : Shared} {H4 : Hp} {fp : List Addr} {a : Addr} {g : Nat} {A : Around}
def repU : Unit → List (Addr × Obj) → Prop := fun _ cp => cp = []
def useB (stop : Bool) (Qs : Hp → Prop) : Unit → V → Hp → (Unit → Prop) → Prop := fun _ y H N => ∃ c, y = .bl c ∧ (c = stop → Qs H) ∧ (c ≠ stop → N ())
def finB (Qe : Hp → Prop) : Unit → Hp → Prop := fun _ H => Qe H
theorem useB_mono {stop : Bool} {Qs : Hp → Prop} (t : Unit) (y : V) (H : Hp) (p q : Unit → Prop) (h : ∀ t', p t' → q t') (u : useB stop Qs t y H p) : useB stop Qs t y H q := by
  obtain ⟨c, e, h1, h2⟩ := u
  exact ⟨c, e, h1, fun z => h _ (h2 z)⟩
theorem any_loopG {Qs Qe : Hp → Prop} {R : Result → Shared → Prop} (hh : A.handled = none) (hd : A.depth < recursionLimit) (hs : ∀ s' H, BsG X s4 H4 fp a g H s' → Qs H → R (.ok (.ret (.bool true))) s') (he : ∀ s' H, BsG X s4 H4 fp a g H s' → Qe H → R (.ok (.ret (.bool false))) s') :
    ∀ (n : Nat) (s : Shared), SlpG repU [] X s4 H4 fp a g (useB true Qs) (finB Qe) A.in1 n s → codeAny (model X.prog X.w) A (.builtin "any.loop" ⟨[.ref a], []⟩) R s := by
  intro n
  induction n using Nat.strongRecOn with
  | ind n ih =>
    intro s h
    refine codeAny_builtin F.entry_any_loop ?_
    rw [Around.under_plainId F.plain_any_loop _]
    show wpAny _ A.in1 (pyNext (.ref a) >>= _) _ _ s
    refine wpAny_bind (gnext hh hd (fun b hb => by cases hb) useB_mono h (fun t cp y v H s' _ _ rv bs hu => ?_) fun t cp H s' _ _ bs hf => ?_)
    · obtain ⟨c, rfl, h1, h2⟩ := hu
      obtain rfl : v = Value.bool c := rv
      refine wpAny_bind (wpAny_holding (wpAny_truthy_bool ?_))
      refine wpAny_bind (wpAny_letGo ?_)
      cases c with
      | false =>
        simp only [Bool.false_eq_true, if_false]
        obtain ⟨n', hn, h'⟩ := h2 (by decide) s' rfl rfl (fun _ _ _ e => e) ⟨[], rfl, fun p hp => by cases hp⟩
        exact wpAny_pure ⟨plainId_quiet F.plain_any_loop _, ih n' hn s' h'⟩
      | true =>
        simp only [if_true]
        exact wpAny_bind (wpAny_rule (wpAny_pure (hs s' H bs (h1 rfl))))
    · exact wpAny_bind (wpAny_rule (wpAny_pure (he s' H bs hf)))
theorem all_loopG {Qs Qe : Hp → Prop} {R : Result → Shared → Prop} (hh : A.handled = none) (hd : A.depth < recursionLimit) (hs : ∀ s' H, BsG X s4 H4 fp a g H s' → Qs H → R (.ok (.ret (.bool false))) s') (he : ∀ s' H, BsG X s4 H4 fp a g H s' → Qe H → R (.ok (.ret (.bool true))) s') :
    ∀ (n : Nat) (s : Shared), SlpG repU [] X s4 H4 fp a g (useB false Qs) (finB Qe) A.in1 n s → codeAny (model X.prog X.w) A (.builtin "all.loop" ⟨[.ref a], []⟩) R s := by
  intro n
  induction n using Nat.strongRecOn with
  | ind n ih =>
    intro s h
    refine codeAny_builtin F.entry_all_loop ?_
    rw [Around.under_plainId F.plain_all_loop _]
    show wpAny _ A.in1 (pyNext (.ref a) >>= _) _ _ s
    refine wpAny_bind (gnext hh hd (fun b hb => by cases hb) useB_mono h (fun t cp y v H s' _ _ rv bs hu => ?_) fun t cp H s' _ _ bs hf => ?_)
    · obtain ⟨c, rfl, h1, h2⟩ := hu
      obtain rfl : v = Value.bool c := rv
      refine wpAny_bind (wpAny_holding (wpAny_truthy_bool ?_))
      refine wpAny_bind (wpAny_letGo ?_)
      cases c with
      | true =>
        simp only [if_true]
        obtain ⟨n', hn, h'⟩ := h2 (by decide) s' rfl rfl (fun _ _ _ e => e) ⟨[], rfl, fun p hp => by cases hp⟩
        exact wpAny_pure ⟨plainId_quiet F.plain_all_loop _, ih n' hn s' h'⟩
      | false =>
        simp only [Bool.false_eq_true, if_false]
        exact wpAny_bind (wpAny_rule (wpAny_pure (hs s' H bs (h1 rfl))))
    · exact wpAny_bind (wpAny_rule (wpAny_pure (he s' H bs hf)))
end
/-! ### sum -/
section
variable {X : Cx} {s4 : Shared} {H4 : Hp} {fp : List Addr} {a : Addr} {g : Nat} {A : Around}
def repI (S : Addr) : Int → List (Addr × Obj) → Prop := fun t cp => ∃ tk c, cp = [(S, lstObj #[.int t tk] c)]
def useI : Int → V → Hp → (Int → Prop) → Prop := fun t y H N => ∃ k, y = .int k ∧ (-(2 ^ 62) ≤ k ∧ k < 2 ^ 62 ∧ -(2 ^ 62) ≤ t ∧ t < 2 ^ 62) ∧ N (t + k)
theorem useI_mono (t : Int) (y : V) (H : Hp) (p q : Int → Prop) (h : ∀ t', p t' → q t') (u : useI t y H p) : useI t y H q := by
  obtain ⟨c, e, h1, h2⟩ := u
  exact ⟨c, e, h1, h _ h2⟩
theorem sum_loopG {S : Addr} {Qe : Int → Hp → Prop} {R : Result → Shared → Prop} (hh : A.handled = none) (hd : A.depth < recursionLimit) (hS : S ≠ a ∧ S ≠ cStatics) (he : ∀ s' H t tk, BsG X s4 H4 fp a g H s' → H S = none → Qe t H → R (.ok (.ret (.int t tk))) s') :
    ∀ (n : Nat) (s : Shared) (t0 : Int) (tk0 : Tok) (c0 : Nat), s.heap.get? S = some (lstObj #[.int t0 tk0] c0) → SlpG (repI S) [S] X s4 H4 fp a g useI Qe A.in1 n s → codeAny (model X.prog X.w) A (.builtin "sum.loop" ⟨[.ref a, .ref S, rawInt 0, rawInt 0], []⟩) R s := by
  intro n
  induction n using Nat.strongRecOn with
  | ind n ih =>
    intro s t0 tk0 c0 hs0 h
    refine codeAny_builtin F.entry_sum_loop ?_
    rw [Around.under_plainId F.plain_sum_loop _]
    show wpAny _ A.in1 (seqItems? (.ref S) >>= _) _ _ s
    refine wpAny_bind (wpAny_seqItems hs0 rfl ?_)
    show wpAny _ A.in1 (tryCatch (pyNext (.ref a)) _ >>= _) _ _ s
    refine wpAny_bind (wpAny_tryCatch (gnext hh hd (fun b hb => by rw [List.mem_singleton.mp hb]; exact hS) useI_mono h (fun t cp y v H s' r hcp rv bs hu => ?_) fun t cp H s' r hcp bs hf => ?_))
    · obtain ⟨tk, c, rfl⟩ := r
      obtain ⟨q1, q2, q3⟩ := hcp _ (List.mem_singleton.mpr rfl)
      have q1 : s.heap.get? S = some (lstObj #[.int t tk] c) := q1
      have q2 : s'.heap.get? S = some (lstObj #[.int t tk] c) := q2
      rw [hs0] at q1
      cases q1
      obtain ⟨k, rfl, ⟨f1, f2, f3, f4⟩, hN⟩ := hu
      obtain ⟨tkv, rfl⟩ := _root_.id rv
      have hc : ((decide (-(2 ^ 63) ≤ k) && decide (k < 2 ^ 63)) && (decide (-(2 ^ 63) ≤ t0 + k) && decide (t0 + k < 2 ^ 63))) = true := by
        simp only [Bool.and_eq_true, decide_eq_true_eq]
        omega
      show wpAny _ A.in1 (if (_ : Bool) = true then (mkInt (t0 + k) >>= _) else _) _ _ _
      split
      · refine wpAny_bind (wpAny_mkInt ?_)
        show wpAny _ A.in1 (updateSeq S (fun _ => #[.int (t0 + k) s'.toks]) >>= _) _ _ _
        refine wpAny_bind ?_
        refine wpAny_updateSeq q2 rfl (wpAny_pure ⟨plainId_quiet F.plain_sum_loop _, ?_⟩)
        have hS' := Heap.get?_update_self (Obj.mapSeq fun _ => #[Value.int (t0 + k) s'.toks]) q2 rfl
        obtain ⟨n', hn, h'⟩ := hN { s' with toks := s'.toks + 1, heap := s'.heap.update S (Obj.mapSeq fun _ => #[Value.int (t0 + k) s'.toks]) } rfl rfl (fun b o hb e => (Heap.get?_update_other _ _ (fun z : S = b => hb (List.mem_singleton.mpr z.symm))).trans e) ⟨_, ⟨_, _, rfl⟩, fun p hp => by
          rw [List.mem_singleton.mp hp]
          exact ⟨hS', fun v z => by cases z⟩⟩
        exact ih n' hn _ _ _ _ hS' h'
      · rename_i hneg
        exact absurd hc hneg
    · obtain ⟨tk, c, rfl⟩ := r
      obtain ⟨q1, q2, q3⟩ := hcp _ (List.mem_singleton.mpr rfl)
      have q1 : s.heap.get? S = some (lstObj #[.int t tk] c) := q1
      rw [hs0] at q1
      cases q1
      exact wpAny_pure (he s' H t0 tk0 bs q3 hf)
end
/-! ### the making -/
/-- a generator expression was made at s5; s4: the state ahead of its frame -/
structure MadeG (T : List (Addr × Str)) (X : Cx) (pins : List (Addr × Obj)) (σ : St) (H1 : Hp) (elt tg iter : Expr) (ifs : List Expr) (scope : Scope) (pos : Pos) (s4 : Shared) (H4 : Hp) (code : Value) (it : Addr) (fp : List Addr) (tn : Nat → Heap → Prop) (J : It) (a : Addr) (g : Nat) (go : Obj) (s5 : Shared) : Prop where
  inv : Inv X pins σ H4 s4
  ext : LamX.ExtN H1 H4
  tab : LamX.Tabs T H4
  turns : Turn X.prog X.w X.K tg J fp it tn
  st : tn 0 s4.heap
  hfp : ∀ b ∈ fp, FpOk X pins H4 b ∧ b < s4.heap.objs.size
  at_ : s4.heap.objs.size < a
  top : a < s5.heap.objs.size
  hgo : s5.heap.get? a = some go
  gen : ∀ h : Heap, h.get? a = some go → h.IsGen a g
  cell : ∀ v, go.data ≠ .cell v
  gs : s5.gens[g]? = some (.fresh (.compStart (.GeneratorExp elt [⟨tg, iter, ifs, 0⟩] scope pos) 0 (.ref it) .none (gexEnv X s4 scope (cloFrom X.env.cells scope.names []) code)))
  os : s5.os = s4.os
  bare : AllBare s5.gens
  kp : ∀ b o, s4.heap.get? b = some o → s5.heap.get? b = some o
  ns : ∃ m, s5.heap.Ns s4.heap.objs.size m
section
variable {T : List (Addr × Str)} {X : Cx} {pins : List (Addr × Obj)} {σ : St} {H : Hp} {s : Shared} {elt tg iter : Expr} {ifs : List Expr} {scope : Scope} {pos : Pos} {wi : TI} {c P : Addr} {k : Nat} {own : List (Str × Nat)}
theorem gex_make {Q' : Value → Shared → Prop} {R : It → Hp → Prop} (hr : Room k X.A) (TB : LamX.TabB X.base X.mg c P) (hcode : X.env.code = .ref c) (hm : (P, X.env.qual ++ "<genexpr>") ∈ T) (hu : ∀ p ∈ T, p.1 = P → p.2 = X.env.qual ++ "<genexpr>") (hco : scope.isCoroutine = false) (h0 : scope.names.lookup (".0" : Str) = some NameKind.local)
    (hnc : ∀ y ∈ scope.names, y.2 ≠ .cell) (ok : BlkOk X.N X.env.scope scope own) (hi : PI X tg iter wi) (hs : ∀ v, genFold iter X.env v = pure v) (I : Inv X pins σ H s) (h : wi σ H fun J H1 => LamX.Tabs T H1 ∧ R J H1)
    (hQ : ∀ H1 s4 H4 code it fp tn J a g go s5, MadeG T X pins σ H1 elt tg iter ifs scope pos s4 H4 code it fp tn J a g go s5 → R J H1 → Q' (.ref a) s5) :
    wpAny (model X.prog X.w) X.A (eval (.GeneratorExp elt [⟨tg, iter, ifs, 0⟩] scope pos) X.env) Q' X.xe s := by
  have hfree : ∀ y ∈ scope.names, y.2 = .free → ∃ c, X.env.cells.lookup y.1 = some c := fun y hy e => by
    rcases ok.free y hy e with k | k
    · exact I.ok.has _ (.inl k)
    · exact I.ok.has _ (.inr k)
  refine wpAny_GeneratorExp_make hco (closure_ok hfree) hnc h0 ok.kind (by have := hr.dp; omega) ?_ hs
  refine thn (hi.run pins s σ H _ I h) fun xv s1 hx => thn hx fun itv s2 h2 => ?_
  obtain ⟨it, fp, tn, J, H1, rfl, I2, Tn, st2, f2, hT, hR⟩ := h2
  refine ⟨I2.nolimit, ?_⟩
  obtain ⟨ps, hP, ht, ha⟩ := hT _ hm
  have bP : s2.heap.BuiltinsAt X.mg P := TB.bm.keeps I2.bk
  have hP' : s2.heap.get? P = some { cls := .none, data := .fields ps } := I2.hok P _ hP
  have cd : PySem.W.CodeHd s2.heap c P := TB.code.keeps I2.bk
  have sz : ∀ b ∈ fp, b < s2.heap.objs.size := fun b hb => by
    obtain ⟨o, e, _⟩ := Tn.obj _ _ st2 b hb
    exact Heap.lt_size e
  have cont : ∀ (code : Value) (s3 : Shared) (H3 : Hp), Inv X pins σ H3 s3 → LamX.ExtN H1 H3 → LamX.Tabs T H3 → (∀ b ∈ fp, H3 b = none) → (∀ b o, b ≠ P → s2.heap.get? b = some o → s3.heap.get? b = some o) → s2.heap.objs.size ≤ s3.heap.objs.size →
      wpAny (model X.prog X.w) X.A (builtinsFor X.env.globals X.env.builtins) (fun bi s₄ => ∀ h', h'.Ns s₄.heap.objs.size (fun y => if y = ".0" then some (.ref it) else none) → Heap.SameBut s₄.heap.objs.size (s₄.heap.push { cls := .type "frame", data := .dict #[] }) h' →
          Q' (.ref h'.objs.size) { s₄ with
            gens := s₄.gens.push (.fresh (.compStart (.GeneratorExp elt [⟨tg, iter, ifs, 0⟩] scope pos) 0 (.ref it) .none (genEnv scope (cloFrom X.env.cells scope.names []) s₄.heap.objs.size code bi X.env))),
            toks := s₄.toks + 1 + 1 + 1,
            heap := h'.push { cls := .type "generator", data := .fields #[.int s₄.gens.size 0, .str "<genexpr>" (s₄.toks + 1), .str (X.env.qual ++ "<genexpr>") (s₄.toks + 1 + 1)] } }) X.xe s3 := by
    intro code s3 H3 I3 e3 t3 n3 k3 z3
    obtain ⟨bm, ob, e1, e2, e3', e4, e5, e6, e7, e8⟩ := bP
    refine wpAny_builtinsFor (m := X.mg) (by rw [I3.ok.glob]; exact I3.mod.glob.keeps I3.bk) e1 e2 (k3 _ _ e4 e5) e6 e7 e8 ?_
    intro h' hn' hs'
    have hsz : h'.objs.size = s3.heap.objs.size + 1 := by rw [hs'.1, Heap.size_push]
    have keep' : ∀ b o, s3.heap.get? b = some o → h'.get? b = some o := fun b o e => hs'.extBut b o (Nat.ne_of_lt (Heap.lt_size e)) (Heap.get?_push_of_some _ e)
    refine hQ H1 s3 H3 code it fp tn J _ s3.gens.size _ _ ⟨I3, e3, t3, Tn, Tn.keep _ _ _ st2 fun b hb o e => k3 b o (fun z => ?_) e, fun b hb => ⟨⟨n3 b hb, (f2 b hb).2⟩, Nat.lt_of_lt_of_le (sz b hb) z3⟩, by omega, by rw [Heap.size_push]; exact Nat.lt_succ_self _, Heap.get?_push_size _ rfl, fun h e => ⟨_, _, _, e, rfl, rfl, rfl⟩, fun v z => (by cases z), Array.getElem?_push_size .., rfl, I3.bare.push rfl, fun b o e => Heap.get?_push_of_some _ (keep' b o e), ⟨_, hn'.push _⟩⟩ hR
    rw [z] at hb
    have := (f2 P hb).1
    rw [hP] at this
    cases this
  cases hf : codeAmong pos ps.toList with
  | none =>
    refine wpAny_genexprCodeX hcode (cd.code hP' ht) (cd.tab hP') hf fun c' h' tk hx hge hlt hco' hrec htab' _ => ?_
    obtain ⟨c2, oc, vs, t, e2, hoc, hd, hv⟩ := hrec
    cases e2
    have nC : H1 c' = none := I2.hok.fresh hge
    have I1 := LamX.inv_table (t' := tk) (more := #[rawInt pos.line, rawInt pos.col, .ref c']) (h' := h') I2 hP (fun b o hb e => hx b o hb e) htab'.2 hge ⟨oc, vs, t, hoc, hd, hv⟩
    have hE : LamX.ExtN H1 (upd (upd H1 P (.tbl (ps ++ #[rawInt pos.line, rawInt pos.col, .ref c']))) c' (LamX.CodeO c' (X.env.qual ++ "<genexpr>"))) := fun b o e n => by
      rw [upd_ne (ne_of_none e nC), upd_ne (fun z => n ps (Option.some.inj (e.symm.trans (by rw [z]; exact hP))))]
      exact e
    have eL : (ps ++ #[rawInt pos.line, rawInt pos.col, .ref c']).toList = ps.toList ++ [rawInt pos.line, rawInt pos.col, .ref c'] := by simp
    refine cont _ _ _ I1 hE (fun p hp => ?_) (fun b hb => ?_) (fun b o hb e => hx b o hb e) (Nat.le_trans hge (Nat.le_of_lt hlt))
    · by_cases hb : p.1 = P
      · rw [hu p hp hb, hb]
        refine ⟨_, by rw [upd_ne (ne_of_none hP nC), upd_same], by rw [eL]; exact PySem.TriplesOk_snoc _ _ _ _ ht, fun p' cv hcv => ?_⟩
        rw [eL] at hcv
        rcases LamX.among_app _ ht hcv with z | z
        · obtain ⟨c0, e1, e2⟩ := ha p' cv z
          exact ⟨c0, e1, hE _ _ e2 LamX.codeO_ne⟩
        · exact ⟨c', z, upd_same⟩
      · obtain ⟨ps', a1, a2, a3⟩ := hT p hp
        refine ⟨ps', by rw [upd_ne (ne_of_none a1 nC), upd_ne hb]; exact a1, a2, fun p' cv hcv => ?_⟩
        obtain ⟨c0, e1, e2⟩ := a3 p' cv hcv
        exact ⟨c0, e1, hE _ _ e2 LamX.codeO_ne⟩
    · rw [upd_ne (Nat.ne_of_lt (Nat.lt_of_lt_of_le (sz b hb) hge)), upd_ne (fun z => ?_)]
      · exact (f2 b hb).1
      · have := (f2 b hb).1
        rw [z, hP] at this
        cases this
  | some cv =>
    refine wpAny_genexprCode_hit hcode (cd.code hP' ht) hf ?_
    exact cont cv s2 H1 I2 (LamX.ExtN.refl _) hT (fun b hb => (f2 b hb).1) (fun b o _ e => e) (Nat.le_refl _)
end
/-! ### a made generator may be woken -/
section
variable {γ : Type} {rep : γ → List (Addr × Obj) → Prop} {cS : List Addr} {T : List (Addr × Str)} {X : Cx} {pins : List (Addr × Obj)} {σ : St} {H1 : Hp} {elt tg iter : Expr} {ifs : List Expr} {scope : Scope} {pos : Pos} {s4 : Shared} {H4 : Hp} {code : Value} {it : Addr} {fp : List Addr} {tn : Nat → Heap → Prop} {J : It} {a : Addr} {g : Nat} {go : Obj} {s5 : Shared}
variable {use : γ → V → Hp → (γ → Prop) → Prop} {fin : γ → Hp → Prop} {A : Around} {own : List (Str × Nat)}
theorem made_slp (M : MadeG T X pins σ H1 elt tg iter ifs scope pos s4 H4 code it fp tn J a g go s5) (ok : BlkOk X.N X.env.scope scope own) (hN : X.N.Nodup) (hnc : ∀ y ∈ scope.names, y.2 ≠ .cell) (hco : scope.isCoroutine = false) (hfr : A.frames = some X.stack) (hh : A.handled = none)
    (hrep : ∀ t cp, rep t cp → cp.map (·.1) = cS) (hcS : ∀ b ∈ cS, s5.heap.objs.size ≤ b) (hmono : ∀ t y H p q, (∀ t', p t' → q t') → use t y H p → use t y H q) (W : Nat → Nat → γ → Hp → Prop)
    (turn : ∀ i m t H, W i m t H → (J.stop i H ∧ fin t H) ∨ (J.go i H ∧ 0 < m ∧ ∃ Nx : γ → Hp → Prop, (∀ t' H', Nx t' H' → ∃ m', m' < m ∧ W (i + 1) m' t' H') ∧ ∀ x H', J.yld i H x H' → gW (gexX X s4 H4 scope (cloFrom X.env.cells scope.names []) code A.in1 fp [(a, go)]) tg x (wipe σ (own.map (·.2))) H' fun σ2 H2 => wipe σ2 (own.map (·.2)) = wipe σ (own.map (·.2)) ∧ tsW (gexX X s4 H4 scope (cloFrom X.env.cells scope.names []) code A.in1 fp [(a, go)]) ifs σ2 H2 fun b H3 =>
      if b = true then eW (gexX X s4 H4 scope (cloFrom X.env.cells scope.names []) code A.in1 fp [(a, go)]) elt σ2 H3 fun y H4 => use t y H4 (fun t' => Nx t' H4) else Nx t H3))
    {m : Nat} {t : γ} {cp : List (Addr × Obj)} {s6 : Shared} (hw : W 0 m t H4) (r : rep t cp) (hcp : ∀ p ∈ cp, s6.heap.get? p.1 = some p.2 ∧ ∀ v, p.2.data ≠ .cell v) (hg6 : s6.gens = s5.gens) (hos : s6.os = s5.os) (kp : ∀ b o, s5.heap.get? b = some o → s6.heap.get? b = some o) :
    SlpG rep cS X s4 H4 fp a g use fin A m s6 := by
  have kp4 : ∀ b o, s4.heap.get? b = some o → s6.heap.get? b = some o := fun b o e => kp b o (M.kp b o e)
  obtain ⟨mm, hns⟩ := M.ns
  refine ⟨M.gen _ (kp _ _ M.hgo), M.inv.nolimit.keeps kp4, .fresh (.compStart (.GeneratorExp elt [⟨tg, iter, ifs, 0⟩] scope pos) 0 (.ref it) .none (gexEnv X s4 scope (cloFrom X.env.cells scope.names []) code)), by rw [hg6]; exact M.gs, ?_⟩
  refine ⟨rfl, ?_⟩
  have h45 : s4.heap.objs.size < s5.heap.objs.size := Nat.lt_trans M.at_ M.top
  have mc : ∀ {p : Addr × Obj}, p ∈ cp → p.1 ∈ cS := fun {p} hp => by rw [← hrep t cp r]; exact List.mem_map_of_mem hp
  have cm : ∀ {y c}, (cloFrom X.env.cells scope.names []).lookup y = some c → c < s4.heap.objs.size := fun {y c} e => by
    rcases cloFrom_mem (PySem.mem_of_lookup e) with hm | ⟨h1, rfl⟩
    · cases hm
    · obtain ⟨c, hc⟩ : ∃ c, X.env.cells.lookup y = some c := by
        rcases ok.free _ h1 rfl with k | k
        · exact M.inv.ok.has _ (.inl k)
        · exact M.inv.ok.has _ (.inr k)
      rw [hc]
      obtain ⟨w, z⟩ := M.inv.cell _ _ hc
      exact z.lt
  have co : ConsOk X s4 fp a (cloFrom X.env.cells scope.names []) cS := ⟨fun b hb z => Nat.lt_asymm (M.hfp b hb).2 (by rw [← z]; exact M.at_), fun b hb => Nat.lt_of_lt_of_le h45 (hcS b hb), fun b hb z => Nat.lt_irrefl _ (Nat.lt_of_lt_of_le M.top (by rw [← z]; exact hcS b hb)),
    fun b hb x c e z => Nat.lt_asymm (cm e) (by rw [z]; exact Nat.lt_of_lt_of_le h45 (hcS b hb)), fun b hb z => Nat.lt_asymm (M.hfp b z).2 (Nat.lt_of_lt_of_le h45 (hcS b hb))⟩
  have I6 : Inv (gexX X s4 H4 scope (cloFrom X.env.cells scope.names []) code A.in1 fp [(a, go)]) [] (wipe σ (own.map (·.2))) H4 (s6.setGen g .running) :=
    gex_start M.inv ok hN hnc M.hfp hfr hh kp4 (hns.keeps kp) (hos.trans M.os) (allBare_setGen (by rw [hg6]; exact M.bare) rfl) fun p hp => by
      rw [List.mem_singleton.mp hp]
      exact ⟨M.at_, kp _ _ M.hgo, M.cell⟩
  have I7 : Inv (gexX X s4 H4 scope (cloFrom X.env.cells scope.names []) code A.in1 fp [(a, go)]) cp (wipe σ (own.map (·.2))) H4 (s6.setGen g .running) := I6.pins_of fun p hp => by
    have hb := hcS _ (mc hp)
    exact ⟨(hcp p hp).1, M.inv.hok.fresh (Nat.le_trans (Nat.le_of_lt h45) hb), Nat.ne_of_gt (Nat.lt_of_lt_of_le h45 hb), nofr_of M.inv (Nat.le_trans (Nat.le_of_lt h45) hb), (hcp p hp).2⟩
  have st6 : tn 0 (s6.setGen g .running).heap := M.turns.keep _ _ _ M.st fun b _ o e => kp4 b o e
  have loop := gseg (cl := cloFrom X.env.cells scope.names []) (code := code) (A := A.in1) (go := go) (elt := elt) (iter := iter) (ifs := ifs) (pos := pos) hrep co M.gen hco hmono M.turns W turn m m 0 t (s6.setGen g .running) (s6.setGen g .running) H4 cp (Nat.le_refl _) hw r I7 st6 (fun b hb => (M.hfp b hb).1.1) fun p hp => (hcp p hp).1
  show Seg _ A.in1 _ _ _ _ _ ((compStart (.GeneratorExp elt [⟨tg, iter, ifs, 0⟩] scope pos) 0 (.ref it) .none (gexEnv X s4 scope (cloFrom X.env.cells scope.names []) code)).onRaise (leaving (gexEnv X s4 scope (cloFrom X.env.cells scope.names []) code))) [] _
  unfold compStart
  rw [Sem.onRaise_eq_wrap]
  show Seg _ A.in1 _ _ _ _ _ ((ask >>= _).wrap _ _ _ _) [] _
  refine seg_bind_wrap (wpAny_askSetting ?_)
  split
  · exact seg_again rfl loop
  · first
      | exact seg_bind_wrap (wpAny_rule (seg_bind_wrap (wpAny_standAt (seg_bind_wrap (M.turns.self _ 0 _ _ _ st6 (seg_again rfl loop))))))
      | (refine seg_bind_wrap (wpAny_rule ?_); show Seg _ A.in1 _ _ _ _ _ ((standAt iter.pos >>= _).wrap _ _ _ _) [] _; exact seg_bind_wrap (wpAny_standAt (seg_bind_wrap (M.turns.self _ 0 _ _ _ st6 (seg_again rfl loop)))))
/-- back in the def's context -/
theorem made_back (M : MadeG T X pins σ H1 elt tg iter ifs scope pos s4 H4 code it fp tn J a g go s5) {H : Hp} {s' : Shared} (b : BsG X s4 H4 fp a g H s') : Inv X pins σ H s' :=
  M.inv.call' (ch := fp) b.os b.un b.hok b.bare fun b hb => ⟨(M.hfp b hb).1.2.2.2.1, (M.hfp b hb).1.2.1, (M.hfp b hb).1.2.2.2.2.1, (M.hfp b hb).1.2.2.2.2.2⟩
end
/-! ### the rules -/
/-- where generator expressions of the running def have their code -/
structure GexAt (T : List (Addr × Str)) (X : Cx) : Prop where
  ex : ∃ c P, LamX.TabB X.base X.mg c P ∧ X.env.code = .ref c ∧ (P, X.env.qual ++ "<genexpr>") ∈ T ∧ ∀ p ∈ T, p.1 = P → p.2 = X.env.qual ++ "<genexpr>"
/-- a generator expression's scope -/
structure GexS (N : List Str) (sc scope : Scope) (own : List (Str × Nat)) : Prop where
  blk : BlkOk N sc scope own
  co : scope.isCoroutine = false
  dot : scope.names.lookup (".0" : Str) = some NameKind.local
  nc : ∀ y ∈ scope.names, y.2 ≠ .cell
def gexB (N : List Str) (sc scope : Scope) (own : List (Str × Nat)) : Bool := blkC N sc scope own && (!scope.isCoroutine && (decide (scope.names.lookup (".0" : Str) = some NameKind.local) && scope.names.all fun y => decide (y.2 ≠ .cell)))
theorem gexS_by {N : List Str} {sc scope : Scope} {own : List (Str × Nat)} (h : gexB N sc scope own = true) : GexS N sc scope own := by
  unfold gexB at h
  simp only [Bool.and_eq_true, Bool.not_eq_true', List.all_eq_true, decide_eq_true_eq] at h
  exact ⟨blkOk_by h.1, h.2.1, h.2.2.1, h.2.2.2⟩
section
variable {T : List (Addr × Str)} {X : Cx} {σ σ0 : St} {L R' : List SA} {K : GK} {tg iter elt : Expr} {ifs : List Expr} {scope : Scope} {pos gpos p : Pos} {k : Nat}
/-- one turn of a generator expression: from the item on; what is handed out goes to U, what is passed over to N -/
def GexTurn (T : List (Addr × Str)) (X : Cx) (k : Nat) (scope : Scope) (tg elt : Expr) (ifs : List Expr) (vs : List Nat) (σ σ0 : St) (x : V) (L : List SA) (U : V → List SA → Prop) (N : List SA → Prop) : Prop :=
  ∀ s H cl code A fp pn, Room k (gexX X s H scope cl code A fp pn).A → GG T (gexX X s H scope cl code A fp pn) tg x σ0 L fun σ2 L2 => wipe σ2 vs = wipe σ vs ∧ GTs T (gexX X s H scope cl code A fp pn) ifs σ2 L2 fun b L3 => if b = true then GE T (gexX X s H scope cl code A fp pn) elt σ2 L3 U else N L3
theorem gex_turn {s : Shared} {H : Hp} {cl : List (Str × Addr)} {code : Value} {A : Around} {fp : List Addr} {pn : List (Addr × Obj)} {vs : List Nat} {x : V} {U : V → List SA → Prop} {N : List SA → Prop} {U' : V → Hp → Prop} {N' : Hp → Prop} (hw : σ0 = wipe σ vs) (g : GexTurn T X k scope tg elt ifs vs σ σ0 x L U N) (hr : Room k (gexX X s H scope cl code A fp pn).A) {H0 : Hp} (h : Hs T L H0)
    (hU : ∀ y L' H', U y L' → Hs T L' H' → U' y H') (hN : ∀ L' H', N L' → Hs T L' H' → N' H') :
    gW (gexX X s H scope cl code A fp pn) tg x (wipe σ vs) H0 fun σ2 H2 => wipe σ2 vs = wipe σ vs ∧ tsW (gexX X s H scope cl code A fp pn) ifs σ2 H2 fun b H3 => if b = true then eW (gexX X s H scope cl code A fp pn) elt σ2 H3 U' else N' H3 := by
  subst hw
  refine g s H cl code A fp pn hr H0 h _ fun σ2 L2 H2 ⟨e, k2⟩ h2 => ⟨e, k2 H2 h2 _ fun b L3 H3 k3 h3 => ?_⟩
  cases b with
  | true =>
    simp only [if_true] at k3 ⊢
    exact k3 H3 h3 _ fun y L4 H4 k4 h4 => hU y L4 H4 k4 h4
  | false =>
    simp only [Bool.false_eq_true, if_false] at k3 ⊢
    exact hN L3 H3 k3 h3
theorem git_run {KI' : KI} (h : GIt T X tg iter σ L KI') : ∃ wi : TI, PI X tg iter wi ∧ ∀ H, Hs T L H → wi σ H (fun J H1 => LamX.Tabs T H1 ∧ ∃ nn item keep L1, ItOk T J nn item keep ∧ Hs T L1 H1 ∧ KI' nn item keep L1) := by
  obtain ⟨wi, hi, hrun⟩ := h
  exact ⟨wi, hi, fun H hh => hrun H hh _ fun J H1 nn item keep L1 io h1 kk => ⟨h1.tabs, nn, item, keep, L1, io, h1, kk⟩⟩
theorem room_d {A : Around} {env : Env} (hr : Room (k + 3) A) : Room k (A.in1.in1.deeper env) := (hr.in1.in1).deeper env
/-- any(elt for tg in iter if ..) -/
theorem ge_anyG {N : List Str} {ks : List (Str × NameKind)} (own : List (Str × Nat)) (n : Nm X N ks) (hk : Kd ks "any" .globalImplicit) (hm : X.mg "any" = none) (GX : GexAt T X) (hr : Room (k + 3) X.A) (ok : GexS X.N X.env.scope scope own) (hw : Wp σ (own.map (·.2)) σ0) (hs : ∀ v, genFold iter X.env v = pure v)
    (h : GIt T X tg iter σ L fun nn item keep L1 => ∃ inv : Nat → List SA → Prop, FitL T (inv 0) L1 ∧ (∀ i L', inv i L' → keep L') ∧
      (∀ i x Lx L', i < nn → item i x Lx → inv i L' → GexTurn T X k scope tg elt ifs (own.map (·.2)) σ σ0 x (Lx ++ L') (fun y L4 => ∃ c, y = .bl c ∧ (c = true → K (.bl true) L4) ∧ (c = false → FitL T (inv (i + 1)) L4)) (FitL T (inv (i + 1)))) ∧ ∀ L', inv nn L' → K (.bl false) L')
    (he : starEach [.GeneratorExp elt [⟨tg, iter, ifs, 0⟩] scope gpos] X.env = (false, eval (.GeneratorExp elt [⟨tg, iter, ifs, 0⟩] scope gpos) X.env) :: starEach [] X.env := by rfl) :
    GE T X (.Call (.Name "any" p) [.GeneratorExp elt [⟨tg, iter, ifs, 0⟩] scope gpos] [] pos) σ L K := by
  obtain ⟨wi, hi, hrun⟩ := git_run h
  obtain ⟨c, P, TB, hcode, hmT, hu⟩ := GX.ex
  intro H hh Q q pins s I
  refine wpAny_Call_Name_kw (ld_blt I (n.gl hk) hm boot_any ?_)
  refine PyProof.Rows.callWith_builtin1 ?_ he (by rfl)
  rw [he]
  show wpAny _ _ (spliced ((false, eval (.GeneratorExp elt [⟨tg, iter, ifs, 0⟩] scope gpos) X.env) :: backTo pos (starEach [] X.env))) _ _ s
  refine Calls.spliced_cons (gex_make hr TB hcode hmT hu ok.co ok.dot ok.nc ok.blk hi hs I (hrun H hh) ?_)
  rintro H1 s4 H4 code it fp tn J a g go s5 M ⟨nn, item, keep, L1, io, h1, inv, f0, hkeep, hturn, hend⟩
  refine Calls.spliced_nil ?_
  refine call_function_tree F.kind_any F.plain_any F.entry_any (F.args_any1 _) ?_
  unfold Builtin.«any»
  refine wpAny_bind (m := oneArg "any" _) (wpAny_pure ?_)
  refine wpAny_bind (wpAny_pyIter_gen (M.gen _ M.hgo) ?_)
  obtain ⟨L0, e0, i0⟩ := f0
  have h4 : Hs T L0 H4 := e0 _ (h1.extN M.ext M.tab)
  refine wpAny_pure ⟨plainId_quiet F.plain_any_loop _, any_loopG (X := X) (s4 := s4) (H4 := H4) (fp := fp) (a := a) (g := g) (A := X.A) (Qs := fun H' => Q (.bl true) H') (Qe := fun H' => Q (.bl false) H') hr.hd (by have := hr.dp; omega) (fun s' H' b z => ⟨.bl true, H', made_back M b, rfl, z⟩) (fun s' H' b z => ⟨.bl false, H', made_back M b, rfl, z⟩) nn s5 ?_⟩
  refine made_slp (rep := repU) (cS := []) (A := X.A.in1) (own := own) M ok.blk n.ndN ok.nc ok.co I.ok.frames hr.hd (fun t cp r => by rw [show cp = [] from r]; rfl) (fun b hb => by cases hb) useB_mono (fun i m t H' => ∃ L', inv i L' ∧ Hs T L' H' ∧ i + m = nn) (fun i m t H' w => ?_) (m := nn) (t := ()) (cp := []) ⟨L0, i0, h4, Nat.zero_add _⟩ rfl (fun p hp => by cases hp) rfl rfl fun _ _ e => e
  obtain ⟨L', iv, hl, hm'⟩ := w
  by_cases hi' : i = nn
  · subst hi'
    exact .inl ⟨io.stop L' H' (hkeep _ _ iv) hl, q _ _ _ (hend L' iv) hl⟩
  · have hlt : i < nn := by omega
    refine .inr ⟨io.go i L' H' hlt (hkeep _ _ iv) hl, by omega, fun _ H2 => ∃ L2, inv (i + 1) L2 ∧ Hs T L2 H2, fun t' H2 ⟨L2, a1, a2⟩ => ⟨m - 1, by omega, L2, a1, a2, by omega⟩, fun x H2 hy => ?_⟩
    obtain ⟨Lx, hx, hl2⟩ := io.yld i L' H' x H2 hlt (hkeep _ _ iv) hl hy
    refine gex_turn (Wp.eq hw) (hturn i x Lx L' hlt hx iv) (room_d hr) hl2 (fun y L4 H5 ⟨c, e, u1, u2⟩ h5 => ⟨c, e, fun z => q _ _ _ (z ▸ u1 z) h5, fun z => ?_⟩) fun L4 H5 f h5 => ?_
    · obtain ⟨W, ww, hw2⟩ := fitL_hs (u2 (by cases c <;> simp_all)) h5
      exact ⟨W, ww, hw2⟩
    · obtain ⟨W, ww, hw2⟩ := fitL_hs f h5
      exact ⟨W, ww, hw2⟩
/-- all(elt for tg in iter if ..) -/
theorem ge_allG {N : List Str} {ks : List (Str × NameKind)} (own : List (Str × Nat)) (n : Nm X N ks) (hk : Kd ks "all" .globalImplicit) (hm : X.mg "all" = none) (GX : GexAt T X) (hr : Room (k + 3) X.A) (ok : GexS X.N X.env.scope scope own) (hw : Wp σ (own.map (·.2)) σ0) (hs : ∀ v, genFold iter X.env v = pure v)
    (h : GIt T X tg iter σ L fun nn item keep L1 => ∃ inv : Nat → List SA → Prop, FitL T (inv 0) L1 ∧ (∀ i L', inv i L' → keep L') ∧
      (∀ i x Lx L', i < nn → item i x Lx → inv i L' → GexTurn T X k scope tg elt ifs (own.map (·.2)) σ σ0 x (Lx ++ L') (fun y L4 => ∃ c, y = .bl c ∧ (c = false → K (.bl false) L4) ∧ (c = true → FitL T (inv (i + 1)) L4)) (FitL T (inv (i + 1)))) ∧ ∀ L', inv nn L' → K (.bl true) L')
    (he : starEach [.GeneratorExp elt [⟨tg, iter, ifs, 0⟩] scope gpos] X.env = (false, eval (.GeneratorExp elt [⟨tg, iter, ifs, 0⟩] scope gpos) X.env) :: starEach [] X.env := by rfl) :
    GE T X (.Call (.Name "all" p) [.GeneratorExp elt [⟨tg, iter, ifs, 0⟩] scope gpos] [] pos) σ L K := by
  obtain ⟨wi, hi, hrun⟩ := git_run h
  obtain ⟨c, P, TB, hcode, hmT, hu⟩ := GX.ex
  intro H hh Q q pins s I
  refine wpAny_Call_Name_kw (ld_blt I (n.gl hk) hm (by decide +kernel : bootBuiltins "all" = some (.builtin "all")) ?_)
  refine PyProof.Rows.callWith_builtin1 ?_ he (by rfl)
  rw [he]
  show wpAny _ _ (spliced ((false, eval (.GeneratorExp elt [⟨tg, iter, ifs, 0⟩] scope gpos) X.env) :: backTo pos (starEach [] X.env))) _ _ s
  refine Calls.spliced_cons (gex_make hr TB hcode hmT hu ok.co ok.dot ok.nc ok.blk hi hs I (hrun H hh) ?_)
  rintro H1 s4 H4 code it fp tn J a g go s5 M ⟨nn, item, keep, L1, io, h1, inv, f0, hkeep, hturn, hend⟩
  refine Calls.spliced_nil ?_
  refine call_function_tree F.kind_all F.plain_all F.entry_all (F.args_all1 _) ?_
  unfold Builtin.«all»
  refine wpAny_bind (m := oneArg "all" _) (wpAny_pure ?_)
  refine wpAny_bind (wpAny_pyIter_gen (M.gen _ M.hgo) ?_)
  obtain ⟨L0, e0, i0⟩ := f0
  have h4 : Hs T L0 H4 := e0 _ (h1.extN M.ext M.tab)
  refine wpAny_pure ⟨plainId_quiet F.plain_all_loop _, all_loopG (X := X) (s4 := s4) (H4 := H4) (fp := fp) (a := a) (g := g) (A := X.A) (Qs := fun H' => Q (.bl false) H') (Qe := fun H' => Q (.bl true) H') hr.hd (by have := hr.dp; omega) (fun s' H' b z => ⟨.bl false, H', made_back M b, rfl, z⟩) (fun s' H' b z => ⟨.bl true, H', made_back M b, rfl, z⟩) nn s5 ?_⟩
  refine made_slp (rep := repU) (cS := []) (A := X.A.in1) (own := own) M ok.blk n.ndN ok.nc ok.co I.ok.frames hr.hd (fun t cp r => by rw [show cp = [] from r]; rfl) (fun b hb => by cases hb) useB_mono (fun i m t H' => ∃ L', inv i L' ∧ Hs T L' H' ∧ i + m = nn) (fun i m t H' w => ?_) (m := nn) (t := ()) (cp := []) ⟨L0, i0, h4, Nat.zero_add _⟩ rfl (fun p hp => by cases hp) rfl rfl fun _ _ e => e
  obtain ⟨L', iv, hl, hm'⟩ := w
  by_cases hi' : i = nn
  · subst hi'
    exact .inl ⟨io.stop L' H' (hkeep _ _ iv) hl, q _ _ _ (hend L' iv) hl⟩
  · have hlt : i < nn := by omega
    refine .inr ⟨io.go i L' H' hlt (hkeep _ _ iv) hl, by omega, fun _ H2 => ∃ L2, inv (i + 1) L2 ∧ Hs T L2 H2, fun t' H2 ⟨L2, a1, a2⟩ => ⟨m - 1, by omega, L2, a1, a2, by omega⟩, fun x H2 hy => ?_⟩
    obtain ⟨Lx, hx, hl2⟩ := io.yld i L' H' x H2 hlt (hkeep _ _ iv) hl hy
    refine gex_turn (Wp.eq hw) (hturn i x Lx L' hlt hx iv) (room_d hr) hl2 (fun y L4 H5 ⟨c, e, u1, u2⟩ h5 => ⟨c, e, fun z => q _ _ _ (z ▸ u1 z) h5, fun z => ?_⟩) fun L4 H5 f h5 => ?_
    · obtain ⟨W, ww, hw2⟩ := fitL_hs (u2 (by cases c <;> simp_all)) h5
      exact ⟨W, ww, hw2⟩
    · obtain ⟨W, ww, hw2⟩ := fitL_hs f h5
      exact ⟨W, ww, hw2⟩
/-- sum(elt for tg in iter if ..) of ints -/
theorem ge_sumG {N : List Str} {ks : List (Str × NameKind)} (own : List (Str × Nat)) (n : Nm X N ks) (hk : Kd ks "sum" .globalImplicit) (hm : X.mg "sum" = none) (GX : GexAt T X) (hr : Room (k + 3) X.A) (ok : GexS X.N X.env.scope scope own) (hw : Wp σ (own.map (·.2)) σ0) (hs : ∀ v, genFold iter X.env v = pure v)
    (h : GIt T X tg iter σ L fun nn item keep L1 => ∃ inv : Nat → Int → List SA → Prop, FitL T (inv 0 0) L1 ∧ (∀ i t L', inv i t L' → keep L') ∧
      (∀ i t x Lx L', i < nn → item i x Lx → inv i t L' → GexTurn T X k scope tg elt ifs (own.map (·.2)) σ σ0 x (Lx ++ L') (fun y L4 => ∃ c, y = .int c ∧ (-(2 ^ 62) ≤ c ∧ c < 2 ^ 62 ∧ -(2 ^ 62) ≤ t ∧ t < 2 ^ 62) ∧ FitL T (inv (i + 1) (t + c)) L4) (FitL T (inv (i + 1) t))) ∧ ∀ t L', inv nn t L' → K (.int t) L')
    (he : starEach [.GeneratorExp elt [⟨tg, iter, ifs, 0⟩] scope gpos] X.env = (false, eval (.GeneratorExp elt [⟨tg, iter, ifs, 0⟩] scope gpos) X.env) :: starEach [] X.env := by rfl) :
    GE T X (.Call (.Name "sum" p) [.GeneratorExp elt [⟨tg, iter, ifs, 0⟩] scope gpos] [] pos) σ L K := by
  obtain ⟨wi, hi, hrun⟩ := git_run h
  obtain ⟨c, P, TB, hcode, hmT, hu⟩ := GX.ex
  intro H hh Q q pins s I
  refine wpAny_Call_Name_kw (ld_blt I (n.gl hk) hm (by decide +kernel : bootBuiltins "sum" = some (.builtin "sum")) ?_)
  refine PyProof.Rows.callWith_builtin1 ?_ he (by rfl)
  rw [he]
  show wpAny _ _ (spliced ((false, eval (.GeneratorExp elt [⟨tg, iter, ifs, 0⟩] scope gpos) X.env) :: backTo pos (starEach [] X.env))) _ _ s
  refine Calls.spliced_cons (gex_make hr TB hcode hmT hu ok.co ok.dot ok.nc ok.blk hi hs I (hrun H hh) ?_)
  rintro H1 s4 H4 code it fp tn J a g go s5 M ⟨nn, item, keep, L1, io, h1, inv, f0, hkeep, hturn, hend⟩
  refine Calls.spliced_nil ?_
  refine call_function_tree F.kind_sum F.plain_sum F.entry_sum (F.args_sum1 _) ?_
  unfold Builtin.«sum»
  simp only [List.length_cons, List.length_nil]
  rw [if_neg (by decide)]
  refine wpAny_bind (wpAny_of_eq (show Builtin.Builtins.bindParams "sum" ["start"] 0 { } = pure [none] from rfl) ?_)
  refine wpAny_bind (wpAny_pyIter_gen (M.gen _ M.hgo) ?_)
  refine wpAny_bind (wpAny_mkInt ?_)
  refine wpAny_bind (wpAny_pure ?_)
  simp only [List.forIn_cons, List.forIn_nil]
  refine wpAny_bind (wpAny_bind (wpAny_bind (wpAny_isInstance (T := "int") (b := false) (typeIs_int _ _ _) PySem.sub_int_str ?_)))
  simp only [Bool.false_eq_true, if_false]
  refine wpAny_pure (wpAny_bind (wpAny_bind (wpAny_isInstance (T := "int") (b := false) (typeIs_int _ _ _) PySem.sub_int_bytes ?_)))
  simp only [Bool.false_eq_true, if_false]
  refine wpAny_pure (wpAny_bind (wpAny_bind (wpAny_isInstance (T := "int") (b := false) (typeIs_int _ _ _) PySem.sub_int_bytearray ?_)))
  simp only [Bool.false_eq_true, if_false]
  refine wpAny_pure (wpAny_pure ?_)
  refine wpAny_bind (wpAny_newObj_type ?_)
  obtain ⟨L0, e0, i0⟩ := f0
  have h4 : Hs T L0 H4 := e0 _ (h1.extN M.ext M.tab)
  have hcs : cStatics < s5.heap.objs.size := by
    obtain ⟨_, hns, _⟩ := M.inv.nolimit.keeps M.kp
    exact hns.lt
  have hSp : (s5.heap.push { cls := .type "list", data := .seq #[.int 0 s5.toks] }).get? s5.heap.objs.size = some (lstObj #[.int 0 s5.toks] 0) := Heap.get?_push_size _ rfl
  refine wpAny_pure ⟨plainId_quiet F.plain_sum_loop _, sum_loopG (X := X) (s4 := s4) (H4 := H4) (fp := fp) (a := a) (g := g) (A := X.A) (S := s5.heap.objs.size) (Qe := fun t H' => Q (.int t) H') hr.hd (by have := hr.dp; omega) ⟨Nat.ne_of_gt M.top, Nat.ne_of_gt hcs⟩ (fun s' H' t tk b _ z => ⟨.int t, H', made_back M b, ⟨tk, rfl⟩, z⟩) nn _ 0 s5.toks _ hSp ?_⟩
  refine made_slp (rep := repI s5.heap.objs.size) (cS := [s5.heap.objs.size]) (A := X.A.in1) (own := own) M ok.blk n.ndN ok.nc ok.co I.ok.frames hr.hd (fun t cp r => by obtain ⟨tk, c, rfl⟩ := r; rfl) (fun b hb => by rw [List.mem_singleton.mp hb]; exact Nat.le_refl _) useI_mono (fun i m t H' => ∃ L', inv i t L' ∧ Hs T L' H' ∧ i + m = nn) (fun i m t H' w => ?_) (m := nn) (t := 0) (cp := [(s5.heap.objs.size, lstObj #[.int 0 s5.toks] 0)]) ⟨L0, i0, h4, Nat.zero_add _⟩ ⟨_, _, rfl⟩ (fun p hp => by rw [List.mem_singleton.mp hp]; exact ⟨hSp, fun v z => by cases z⟩) rfl rfl fun _ _ e => Heap.get?_push_of_some _ e
  obtain ⟨L', iv, hl, hm'⟩ := w
  by_cases hi' : i = nn
  · subst hi'
    exact .inl ⟨io.stop L' H' (hkeep _ _ _ iv) hl, q _ _ _ (hend t L' iv) hl⟩
  · have hlt : i < nn := by omega
    refine .inr ⟨io.go i L' H' hlt (hkeep _ _ _ iv) hl, by omega, fun t' H2 => ∃ L2, inv (i + 1) t' L2 ∧ Hs T L2 H2, fun t' H2 ⟨L2, a1, a2⟩ => ⟨m - 1, by omega, L2, a1, a2, by omega⟩, fun x H2 hy => ?_⟩
    obtain ⟨Lx, hx, hl2⟩ := io.yld i L' H' x H2 hlt (hkeep _ _ _ iv) hl hy
    refine gex_turn (Wp.eq hw) (hturn i t x Lx L' hlt hx iv) (room_d hr) hl2 (fun y L4 H5 ⟨c, e, u1, u2⟩ h5 => ⟨c, e, u1, ?_⟩) fun L4 H5 f h5 => ?_
    · obtain ⟨W, ww, hw2⟩ := fitL_hs u2 h5
      exact ⟨W, ww, hw2⟩
    · obtain ⟨W, ww, hw2⟩ := fitL_hs f h5
      exact ⟨W, ww, hw2⟩
end
end SW
set_option Elab.async false
set_option linter.all false
set_option maxRecDepth 100000
set_option maxHeartbeats 1000000
namespace SW
open PySem PySem.Spec L2
open PyProof.Rows hiding St
def rInT2 (K : PySem.W.Frag) : R2 := fun x y H Q => ∃ d ds, Dp K H x d ∧ Dp K H y (.tuple ds) ∧ SeqAt.shaped d = true ∧ SeqAt.shaped (.tuple ds) = true ∧ Q (.bl (ds.any fun z => PyData.eqv z d)) H
def rNotInT2 (K : PySem.W.Frag) : R2 := fun x y H Q => ∃ d ds, Dp K H x d ∧ Dp K H y (.tuple ds) ∧ SeqAt.shaped d = true ∧ SeqAt.shaped (.tuple ds) = true ∧ Q (.bl (!ds.any fun z => PyData.eqv z d)) H
section
variable {X : Cx}
theorem op_inT2 (hu : X.A.units + 65 < cLine) : OpR X (compareOp .In) (rInT2 X.K) := by
  intro pins s σ H x y v u Q I rx ry h
  obtain ⟨d, ds, hd, he, sd, se, q⟩ := h
  obtain ⟨as, r1⟩ := Dp.reads I d x v hd rx
  obtain ⟨bs, r2⟩ := Dp.reads I (.tuple ds) y u he ry
  exact SeqAt.in_tuple_reads r2 r1 (SeqAt.canLay_of_shaped se) (SeqAt.canLay_of_shaped sd) (room_in_shaped sd hu) ⟨.bl _, H, I, rfl, q⟩
theorem op_notInT2 (hu : X.A.units + 65 < cLine) : OpR X (compareOp .NotIn) (rNotInT2 X.K) := by
  intro pins s σ H x y v u Q I rx ry h
  obtain ⟨d, ds, hd, he, sd, se, q⟩ := h
  obtain ⟨as, r1⟩ := Dp.reads I d x v hd rx
  obtain ⟨bs, r2⟩ := Dp.reads I (.tuple ds) y u he ry
  exact SeqAt.notIn_tuple_reads r2 r1 (SeqAt.canLay_of_shaped se) (SeqAt.canLay_of_shaped sd) (room_in_shaped sd hu) ⟨.bl _, H, I, rfl, q⟩
end
section
variable {T : List (Addr × Str)} {X : Cx} {L R' : List SA} {K : GK} {α : Type} {R : PRep α} {x v : V} {p : Addr}
/-- x in a tuple of data -/
theorem go_inTl {d : α} {ds : List α} [DecidableEq α] {k : Nat} (hr : Room k X.A) (r : Rv T L x R d) (s : Rv T L v (rTl R) ds) (n : R.dep ≤ 63) (q : K (.bl (decide (d ∈ ds))) L) : GOp T X (compareOp .In) x v L K :=
  GOp.of (op_inT2 (by have := hr.un; omega)) fun H hs Q q' => by
    have h1 := sees_rv (KK := X.K) r (Nat.le_succ_of_le n) H hs
    have h2 := sees_rv (KK := X.K) s (Nat.succ_le_succ n) H hs
    exact ⟨_, _, h1.1, h2.1, h1.2, h2.2, q' _ _ _ (by rw [any_mem]; exact q) hs⟩
theorem go_ninTl {d : α} {ds : List α} [DecidableEq α] {k : Nat} (hr : Room k X.A) (r : Rv T L x R d) (s : Rv T L v (rTl R) ds) (n : R.dep ≤ 63) (q : K (.bl (!decide (d ∈ ds))) L) : GOp T X (compareOp .NotIn) x v L K :=
  GOp.of (op_notInT2 (by have := hr.un; omega)) fun H hs Q q' => by
    have h1 := sees_rv (KK := X.K) r (Nat.le_succ_of_le n) H hs
    have h2 := sees_rv (KK := X.K) s (Nat.succ_le_succ n) H hs
    exact ⟨_, _, h1.1, h2.1, h1.2, h2.2, q' _ _ _ (by rw [any_mem]; exact q) hs⟩
/-- x in (a, b, ..), flat items -/
theorem go_inF {xs : List V} {b : Bool} (s : Sel L (pt p (.tup xs)) R') (h1 : flatV x = true) (h2 : xs.all flatV = true) (e : inV x xs = b) (q : K (.bl b) L) : GOp T X (compareOp .In) x (.ref p) L K :=
  GOp.of op_in_seq fun H hs Q q' => ⟨p, xs, rfl, .inr (SqT.of (hs.at s)), h1, h2, q' _ _ _ (by simpa [e] using q) hs⟩
theorem go_ninF {xs : List V} {b : Bool} (s : Sel L (pt p (.tup xs)) R') (h1 : flatV x = true) (h2 : xs.all flatV = true) (e : inV x xs = b) (q : K (.bl (!b)) L) : GOp T X (compareOp .NotIn) x (.ref p) L K :=
  GOp.of op_notIn_seq fun H hs Q q' => ⟨p, xs, rfl, .inr (SqT.of (hs.at s)), h1, h2, q' _ _ _ (by simpa [e] using q) hs⟩
end
end SW
set_option Elab.async false
set_option linter.all false
set_option maxRecDepth 100000
set_option maxHeartbeats 1000000
/-! sorted of data -/
namespace SW
open PySem PySem.Spec L2
open PyProof.Rows hiding St
theorem each_of {α : Type} {R : PRep α} {H : Hp} : ∀ {xs : List V} {us : List Value} {ds : List α}, Vals xs us → A2r R H xs ds → PySem.W.EachIs (fun u d => ∃ x : V, RelV x u ∧ R.rel H x d) us ds
  | [], [], [], .nil, .nil => .nil
  | _ :: _, _ :: _, _ :: _, .cons r rs, .cons a as => .cons ⟨_, r, a⟩ (each_of rs as)
theorem of_each {α : Type} {R : PRep α} {H : Hp} : ∀ {us : List Value} {ds : List α}, PySem.W.EachIs (fun u d => ∃ x : V, RelV x u ∧ R.rel H x d) us ds → ∃ xs, Vals xs us ∧ A2r R H xs ds
  | [], [], .nil => ⟨[], .nil, .nil⟩
  | _ :: _, _ :: _, .cons ⟨x, r, a⟩ h => by
    obtain ⟨xs, h1, h2⟩ := of_each h
    exact ⟨x :: xs, .cons r h1, .cons a h2⟩
section
variable {X : Cx} {α : Type}
def rSortedR (K : PySem.W.Frag) (R : PRep α) : List V → Hp → VK → Prop := fun vs H Q => ∃ a xs ds, vs = [V.ref a] ∧ SqL K H a xs ∧ A2r R H xs ds ∧ PySem.W.AllAlike (ds.map R.enc) ∧ PySem.W.Sortable (ds.map R.enc) ∧
  ∀ ys p, A2r R H ys (ds.mergeSort (PySem.W.dataLe false R.enc)) → H p = none → Q (.ref p) (upd H p (.lst ys))
theorem cr_sortedR (R : PRep α) (hd : R.dep ≤ 60) (hu : X.A.units + 100 < cLine) : CallR X (.builtin "sorted") (rSortedR X.K R) := by
  intro pins s σ H vs us Q I r h
  obtain ⟨a, xs, ds, rfl, hs, ha, hal, hk, q⟩ := h
  obtain ⟨its, rv, hl, hz⟩ := I.list hs
  obtain ⟨u, rfl, ru⟩ := vals1 r
  obtain rfl : u = Value.ref a := ru
  have e := each_of rv ha
  refine PySem.W.sorted_data hl.isList e (e.mono fun u d ⟨x, r1, r2⟩ => Dp.reads I _ x u (R.dp r2) r1) hal hk (by rw [← ha.length]; exact hz) (fun b hb => by have := R.hdep b; omega) fun out ho eo => ?_
  obtain ⟨ys, h1, h2⟩ := of_each eo
  obtain ⟨n, hn⟩ := sortedAll_at s.heap its out.toArray
  refine ⟨.ref _, upd H _ (.lst ys), I.laid (t' := s.toks) (fun b o e => sortedAll_old e) (Nat.le_succ _) ⟨?_, out, n, h1, hn⟩, rfl, q ys _ h2 (I.hok.fresh (Nat.le_succ _))⟩
  rw [h1.length, ho, ← ha.length]; exact hz
/-- a dict's keys, by its rows -/
theorem kdl_rawK {prog : Program} {w : World} {d : Addr} {o : Obj} {es : Array DictEntry} {ep : Nat} (lo : (d == sysModules) = false) (hx : o.ExactDict) (hdt : o.data = .dict es ep) :
    PySem.W.KdlSrc prog w "dict" d d es.size (fun i v => ∃ en, es[i]? = some en ∧ v = en.key) (fun h => h.get? d = some o) where
  type := fun _ hm => ⟨o, hm, hx.1⟩
  there := fun _ hm => ⟨Heap.lt_size hm, Heap.lt_size hm⟩
  keep := fun _ _ hm hk => hk d (.inl rfl) o hm
  notList := by decide
  notTuple := by decide
  hint := fun _ _ _ _ hm hq => PySem.W.kdl_hint_dict ⟨o, hm, hx.1⟩ hq
  iter := fun A s hh hm => by
    refine ⟨{ cls := .type "dict_keyiterator", data := .fields #[.ref d, .int 0 0, .int es.size 0, .int ep 0] }, fun i h => h.IsKeyIter s.heap.objs.size d i es.size ep ∧ h.get? d = some o, fun E Q hq => iter_keys lo hm hx hdt hq, ?_, ⟨_, Heap.get?_push_size _ rfl, rfl, rfl⟩, Heap.get?_push_of_some _ hm⟩
    have hne : d ≠ s.heap.objs.size := Nat.ne_of_lt (Heap.lt_size hm)
    refine ⟨fun b hb => by simp at hb ⊢; exact .inl hb, fun i h h' st k => ⟨st.1.at fun oi e => k _ (by simp) oi e, k d (by simp) o st.2⟩, fun i s' Q E hi st hQ => ?_, fun s' Q E st hQ => ?_, fun i s' Q E st hQ => ?_⟩
    · refine next_key_item st.1 st.2 hdt rfl (Array.getElem?_eq_getElem hi) fun h' st' sb => ?_
      exact hQ _ h' s'.toks ⟨_, Array.getElem?_eq_getElem hi, rfl⟩ ⟨st', (sb.2 d hne).trans st.2⟩ fun b o hb e => (sb.2 b (by simpa using hb)).trans e
    · exact next_key_end hh st.1 st.2 hdt rfl (Nat.le_refl _) fun h' eb => hQ h' s'.toks fun b o hb e => eb b o (by simpa using hb) e
    · refine wpAny_pyIter_slot st.1.typeIs PySem.F.slot_dict_keyiterator_iter (wpAny_call_entry PySem.F.slot_dict_keyiterator_iter st.1.typeIs PySem.F.entry_dict_keyiterator_iter ?_ (PySem.F.args_dict_keyiterator_iter_1 _))
      show wpAny _ _ (ret (.ref s.heap.objs.size)) _ _ _
      exact wpAny_pure ⟨_, rfl, "dict_keyiterator", _, st.1.typeIs, PySem.F.slot_dict_keyiterator_next.lookup, hQ⟩
theorem each_get {α : Type} {P : Value → α → Prop} : ∀ {us : List Value} {ds : List α}, us.length = ds.length → (∀ (i : Nat) (u : Value) (d : α), us[i]? = some u → ds[i]? = some d → P u d) → PySem.W.EachIs P us ds
  | [], [], _, _ => .nil
  | u :: us, d :: ds, hl, h => .cons (h 0 u d rfl rfl) (each_get (by simpa using hl) fun i u d h1 h2 => h (i + 1) u d (by simpa using h1) (by simpa using h2))
/-- sorted(d), keys that are tuples -/
def rSortedDT (R : PRep α) (ky : α → List Key) : List V → Hp → VK → Prop := fun vs H Q => ∃ (a : Addr) (kvs : List (List Key × V)) (ds : List α), vs = [V.ref a] ∧ H a = some (.dT kvs) ∧ kvs.map (·.1) = ds.map ky ∧ (∀ q d, d ∈ ds → H q = some (.tup ((ky d).map kV)) → R.rel H (.ref q) d) ∧ PySem.W.AllAlike (ds.map R.enc) ∧ PySem.W.Sortable (ds.map R.enc) ∧
  ∀ ys p, A2r R H ys (ds.mergeSort (PySem.W.dataLe false R.enc)) → H p = none → Q (.ref p) (upd H p (.lst ys))
theorem cr_sortedDT (R : PRep α) (ky : α → List Key) (hd : R.dep ≤ 60) (hu : X.A.units + 100 < cLine) (hc : X.calm = true) : CallR X (.builtin "sorted") (rSortedDT R ky) := by
  intro pins s σ H vs us Q I r h
  obtain ⟨a, kvs, ds, rfl, ha, hky, hrel, hal, hk, q⟩ := h
  obtain ⟨u, rfl, ru⟩ := vals1 r
  obtain rfl : u = Value.ref a := ru
  obtain ⟨z, hs, xs, pr, o, es, ep, ho, hx, hdt, he, _⟩ := I.hok a _ ha
  have hes : es.size = kvs.length := by
    have l1 : es.size = xs.length := size_of_entries he
    have l2 : kvs.length = xs.length := Paired.length pr
    omega
  have hlen : kvs.length = ds.length := by have := congrArg List.length hky; simpa using this
  have ent : ∀ (i : Nat) (k : List Key) (v : V), kvs[i]? = some (k, v) → ∃ (en : DictEntry) (q : Addr), es[i]? = some en ∧ en.key = .ref q ∧ H q = some (.tup (k.map kV)) := fun i k v e => by
    obtain ⟨b, hb, e1, e2, _⟩ := paired_get pr e
    have q := entry_at he i
    rw [hb] at q
    exact ⟨_, b.2.1, q, rfl, e2⟩
  refine Calls.call_function_entry PyProof.Rows.kind_sorted PyProof.Rows.plain_sorted PyProof.Rows.entry_sorted (PyProof.Rows.args_sorted1 _) ?_
  unfold Builtin.«sorted»
  refine wpAny_bind (m := checkCount "sorted" 1 1 _) (wpAny_pure ?_)
  refine wpAny_bind (PySem.W.kdu_collect (A := X.A.in1) (kdl_rawK hs hx hdt) (I.ok.hd hc) ho (by rw [hes]; exact z) fun h' tk acc hk' hacc => ?_)
  have I1 : Inv X pins σ H { s with heap := h', toks := tk } := I.kept hk'
  have hal' : acc.toList.length = ds.length := by rw [Array.length_toList, hacc.1, hes, hlen]
  have e : PySem.W.EachIs (fun u d => ∃ x : V, RelV x u ∧ R.rel H x d) acc.toList ds := each_get hal' fun i u d h1 h2 => by
    obtain ⟨en, hen, rfl⟩ := hacc.2 i u (by rw [← Array.getElem?_toList]; exact h1)
    have hkd : (kvs.map (·.1))[i]? = some (ky d) := by rw [hky, List.getElem?_map, h2]; rfl
    rw [List.getElem?_map] at hkd
    cases e4 : kvs[i]? with
    | none => rw [e4] at hkd; cases hkd
    | some p =>
      rw [e4] at hkd
      obtain ⟨k, v⟩ := p
      obtain rfl : k = ky d := Option.some.inj hkd
      obtain ⟨en', q, g1, g2, g3⟩ := ent i _ v e4
      rw [hen] at g1
      cases g1
      exact ⟨.ref q, g2, hrel q d (List.mem_of_getElem? h2) g3⟩
  refine wpAny_bind (wpAny_newList ?_ (by rw [hal', ← hlen]; exact z))
  have hoL : (h'.push (seqObj "list" acc.toList.toArray 0)).get? h'.objs.size = some (seqObj "list" acc.toList.toArray 0) := Heap.get?_push_size _ rfl
  show wpAny _ _ _ _ _ { s with heap := h'.push (seqObj "list" acc.toList.toArray 0), toks := tk }
  have I2 : Inv X pins σ H { s with heap := h'.push (seqObj "list" acc.toList.toArray 0), toks := tk } := I1.kept (t' := tk) fun b o q => Heap.get?_push_of_some _ q
  refine wpAny_bind (wpAny_holding (PySem.W.list_sort_data (bs := ds) (enc := R.enc) hoL e (e.mono fun u d ⟨x, r1, r2⟩ => by
      obtain ⟨as, hr⟩ := Dp.reads I1 _ x u (R.dp r2) r1
      refine ⟨as, PyProof.Rows.Reads.keeps (fun b o q => Heap.get?_push_of_some _ q) hr, ?_⟩
      intro hm
      obtain ⟨oo, ho⟩ := PyProof.On.reads_mem_get hr _ hm
      exact Nat.lt_irrefl _ (Heap.lt_size ho)) hal hk (by rw [← hlen]; exact z) (fun b hb => by have := R.hdep b; show X.A.units + 1 + 1 + _ < _; omega) fun out ho' eo => ?_))
  obtain ⟨ys, h1, h2⟩ := of_each eo
  obtain ⟨e', he'⟩ := PyProof.Rows.sortedHeap_at (vs := acc.toList) (out := out.toArray) hoL
  refine wpAny_pure ⟨_, rfl, .ref h'.objs.size, upd H h'.objs.size (.lst ys), I1.laid (t' := tk) (fun b u e => ?_) (Nat.le_refl _)
    (show ObjOk X.prog X.w _ _ _ (.lst ys) from ⟨by rw [h1.length, ho', ← hlen]; exact z, out, e', h1, he'⟩), rfl, q ys _ h2 (I1.hok.fresh (Nat.le_refl _))⟩
  have hb : b < h'.objs.size := Heap.lt_size e
  rw [PyProof.Rows.sortedHeap_old (Nat.ne_of_lt hb) (by rw [size_push']; exact Nat.lt_succ_of_lt hb)]
  exact Heap.get?_push_of_some _ e
end
/-- sorted data -/
def srt {α : Type} (R : PRep α) (ds : List α) : List α := ds.mergeSort (PySem.W.dataLe false R.enc)
theorem srt_perm {α : Type} {R : PRep α} {ds : List α} : (srt R ds).Perm ds := List.mergeSort_perm _ _
section
variable {T : List (Addr × Str)} {X : Cx} {L R' : List SA} {K : GK} {α : Type} {R : PRep α} {a : Addr} {ds : List α} {n : Nat}
/-- sorted(xs), a list of data -/
theorem gc_sortedR (hr : Room n X.A) (s : Sel L (LstR R a ds) R') (hd : R.dep ≤ 60) (hal : PySem.W.AllAlike (ds.map R.enc)) (hk : PySem.W.Sortable (ds.map R.enc)) (k : ∀ p, K (.ref p) (LstR R p (srt R ds) :: L)) : GC T X (.builtin "sorted") [.ref a] L K :=
  GC.of (cr_sortedR R hd (by have := hr.un; omega)) fun H hs Q q => by
    obtain ⟨xs, h1, h2⟩ := hs.atR s
    exact ⟨a, xs, ds, rfl, SqL.of h1, h2, hal, hk, fun ys p h3 hp => q _ _ _ (k p) (hs.newR hp h3)⟩
/-- sorted(d), keys that are tuples -/
theorem gc_sortedDT {kvs : List (List Key × V)} (ky : α → List Key) (hr : Room n X.A) (hc : X.calm = true) (s : Sel L (pt a (.dT kvs)) R') (hd : R.dep ≤ 60) (e : kvs.map (·.1) = ds.map ky) (hrel : ∀ H q d, d ∈ ds → H q = some (.tup ((ky d).map kV)) → R.rel H (.ref q) d) (hal : PySem.W.AllAlike (ds.map R.enc)) (hk : PySem.W.Sortable (ds.map R.enc)) (k : ∀ p, K (.ref p) (LstR R p (srt R ds) :: L)) : GC T X (.builtin "sorted") [.ref a] L K :=
  GC.of (cr_sortedDT R ky hd (by have := hr.un; omega) hc) fun H hs Q q => ⟨a, kvs, ds, rfl, hs.at s, e, fun q d => hrel H q d, hal, hk, fun ys p h3 hp => q _ _ _ (k p) (hs.newR hp h3)⟩
end
end SW
set_option Elab.async false
set_option linter.all false
set_option maxRecDepth 100000
set_option maxHeartbeats 400000
/-! Sw31: dicts with tuple keys while locked; the first two of four. -/
namespace SW
/-- the walk stops here -/
def Stop (p : Prop) : Prop := p
theorem Stop.mk {p : Prop} (h : Stop p) : p := h
theorem Stop.of {p : Prop} (h : p) : Stop p := h
open PySem PySem.Spec L2
open PyProof.Rows hiding St
section
variable {T : List (Addr × Str)} {X : Cx} {L R' : List SA} {K : GK} {a b : Addr} {od : Obj} {kvt : List (List Key × V)} {kt : List Key} {α β γ δ : Type} {R : PRep α} {S : PRep β} {U : PRep γ} {W : PRep δ}
theorem dfact_tf (s : Sel L (pt a (.frz od (.dT kvt))) R') (hk : ∀ H, Hs T L H → H b = some (.tup (kt.map kV))) : DFact T L a (.ref b) (valV kvt kt) := fun H h => .inr ⟨kvt, kt, b, .inr ⟨od, h.at s⟩, rfl, hk H h, rfl⟩
theorem hasDD_tf (s : Sel L (pt a (.frz od (.dT kvt))) R') : HasDD T L a := fun H h => .inr ⟨kvt, .inr ⟨od, h.at s⟩⟩
theorem tup_ii {x y : Int} (s : Sel L (pt b (.tup [.int x, .int y])) R') : ∀ H, Hs T L H → H b = some (.tup (([.inl x, .inl y] : List Key).map kV)) := fun H h => h.at s
theorem mut_t {kvs : List (List Key × V)} : Mut (some (.dT kvs)) := by first | exact True.intro | exact ⟨_, rfl⟩ | (unfold Mut; simp) | (unfold Mut; exact .inr (.inl ⟨_, rfl⟩))
/-- the first two of four -/
theorem gsl_quad {x : V} {d : α × β × γ × δ} (r : Rv T L x (rQuad R S U W) d) (k : ∀ v, K v (Val (rPair R S) v (d.1, d.2.1) :: L)) : GSl T X x none (some 2) L K :=
  GSl.of sl_tupA fun H hs Q q => by
    obtain ⟨a, x1, x2, x3, x4, rfl, e, h1, h2, h3, h4⟩ := r H hs
    refine ⟨a, [x1, x2, x3, x4], rfl, SqT.of e, fun hw => ?_, fun _ p hp => ?_⟩
    · exact absurd hw.2 (by simp only [List.length_cons, List.length_nil]; decide)
    · have t : TupLe H (upd H p (.tup [x1, x2])) := fun b zs eb => by rw [upd_ne (ne_of_none eb hp)]; exact eb
      have h2' : Hs T (pt p (.tup [x1, x2]) :: L) (upd H p (.tup [x1, x2])) := hs.new hp fun _ => nofun
      exact q _ _ _ (k (.ref p)) (h2'.tail.addP Val.pers ⟨p, x1, x2, rfl, upd_same, R.mono t h1, S.mono t h2⟩)
end
end SW
set_option Elab.async false
set_option linter.all false
/-! Sw32: names in a generator expression's body. -/
namespace SW
open PySem PySem.Spec SW
open L2 hiding Apart GC GK GS GSs gs_while gss_cons gss_nil
open PyProof.Rows hiding St
theorem gg_gex {T : List (Addr × Str)} {X : Cx} {N : List Str} {ks kc : List (Str × NameKind)} {s : Shared} {H : Hp} {scope : Scope} {cl : List (Str × Addr)} {code : Value} {A : Around} {fp : List Addr} {pn : List (Addr × Obj)} {tg : Expr} {v : V} {σ : St} {L : List SA} {K : St → List SA → Prop} (n : Nm X N ks) (h : scope.names = kc) (nd : (kc.map (·.1)).Nodup) (k : Nm (gexX X s H scope cl code A fp pn) N kc → GG T (gexX X s H scope cl code A fp pn) tg v σ L K) : GG T (gexX X s H scope cl code A fp pn) tg v σ L K := k ⟨n.nn, h, n.nd, nd⟩
theorem gg_pairR {T : List (Addr × Str)} {X : Cx} {L : List SA} {σ : St} {v : V} {α β : Type} {R : PRep α} {S : PRep β} {f : α → V} {cf : α → Prop} {es : List Expr} {k : Nat} {p : Pos} {K : St → List SA → Prop} (c1 : Scal R f cf) {d : α × β} (r : Rv T L v (rPair R S) d) (hc : X.calm = true) (hn : (assignEach es X.env).length = 2) (hst : (assignEach es X.env).findIdx? (·.1) = none)
    (h : ∀ y, cf d.1 → GGs T X es [f d.1, y] σ (Val S y d.2 :: L) K) : GG T X (.Tuple es k p) v σ L K := fun H hs Q q => by
  obtain ⟨a, x, y, rfl, e, h1, h2⟩ := r H hs
  obtain ⟨rfl, k1⟩ := c1.to h1
  exact gg_tupF (L := (fun h => h a = some (.tup [f d.1, y])) :: Val S y d.2 :: L) hc (xs := [f d.1, y]) hn hst (fun H' hs' => hs'.getP pers_tup .here) (fun H' hs' => h y k1 H' hs'.tail) H ((hs.addP Val.pers h2).addP pers_tup e) Q q
end SW
set_option Elab.async false
set_option linter.all false
set_option maxRecDepth 100000
set_option maxHeartbeats 1600000
/-! Sw33: x = {k: v for ..}, x a local name. -/
namespace SW
open PySem PySem.Spec SW
open L2 hiding Apart GC GK GS GSs gs_while gss_cons gss_nil
open PyProof.Rows hiding St
section
variable {T : List (Addr × Str)} {X : Cx} {σ σ0 : St} {L R' : List SA} {D : EndsL} {K : GK} {tg iter elt kx vx : Expr} {body : List Stmt} {ifs : List Expr} {scope : Scope} {pos : Pos} {α β : Type}
theorem dcI_core {own : List (Str × Nat)} {wi : TI} (hw : Wp σ (own.map (·.2)) σ0)
    (h : ∀ H, Hs T L H → ∀ R : It → Hp → Prop, (∀ J H1 n item keep L1, ItOk T J n item keep → Hs T L1 H1 → ((∀ A, keep (A :: L1)) ∧ DcGo T X scope tg kx vx ifs (own.map (·.2)) σ σ0 L1 n item K) → R J H1) → wi σ H R) : WE T (tDc wi (gB X scope tg) (tB_ X scope ifs) (eB X scope kx) (eB X scope vx) (own.map (·.2))) σ L K := by
  refine fun H hh Q q => h H hh _ fun J H1 n item keep L1 ok h1 ⟨hk, γ, acc, φ, g0, p0, a0, hs, hd⟩ D hD => ?_
  have hw2 := hw.eq
  have h2 : Hs T (pt D (.dK []) :: L1) (upd H1 D (.dK [])) := h1.new hD fun _ => nofun
  refine ⟨fun i m H => m = n - i ∧ i ≤ n ∧ ∃ g, φ i g ∧ Hs T (acc D g :: L1) H, ⟨n, by simp, Nat.zero_le _, g0, p0, h2.imp fun h => a0 D h⟩, ?_⟩
  rintro i m H ⟨rfl, hi, g, pg, hs'⟩
  by_cases hlt : i < n
  · refine .inr ⟨ok.go i _ _ hlt (hk _) hs', fun H' => ∃ g', φ (i + 1) g' ∧ Hs T (acc D g' :: L1) H', fun H' q => ⟨n - (i + 1), by omega, rfl, hlt, q⟩, fun x H' y => ?_⟩
    obtain ⟨Lx, it, h'⟩ := ok.yld i _ H x H' hlt (hk _) hs' y
    have tn := hs D i x Lx g hlt it pg
    subst hw2
    intro s H0 C cl fp
    refine tn s H0 C cl fp H' h' _ fun σ2 L2 H2 ⟨e, k2⟩ h2 => ⟨e, fun s H0 C cl fp => k2 s H0 C cl fp H2 h2 _ fun b L3 H3 k3 h3 => ?_⟩
    have fin : ∀ L' H', LcN T acc φ L1 D i L' → Hs T L' H' → ∃ g', φ (i + 1) g' ∧ Hs T (acc D g' :: L1) H' := fun L' H' ⟨g', pg', t⟩ h => ⟨g', pg', t _ h⟩
    cases b with
    | true =>
      rw [if_pos rfl] at k3 ⊢
      intro s H0 C cl fp
      refine k3 s H0 C cl fp H3 h3 _ fun y L4 H4 k4 h4 => ?_
      intro s H0 C cl fp
      refine k4 s H0 C cl fp H4 h4 _ fun z L5 H5 k5 h5 => ?_
      obtain ⟨kvs, k, ey, e1, hz, L', h', nn⟩ := k5 H5 h5
      exact ⟨kvs, k, ey, e1, hz, fin _ _ nn h'⟩
    | false =>
      rw [if_neg Bool.false_ne_true] at k3 ⊢
      exact fin _ _ k3 h3
  · have e : i = n := by omega
    subst e
    exact .inl ⟨ok.stop _ _ (hk _) hs', q _ _ _ (hd D g pg) hs'⟩
theorem ps_setDc {i : Nat} {y : Str} {py spos : Pos} {own : List (Str × Nat)} {wi : TI} {g : TG} {tt : TT} {tk tv : TE} (hc : X.calm = true) (hN : X.N.Nodup) (hy : X.N[i]? = some y) (hyl : X.env.scope.names.lookup y = some .local)
    (hsw : swapsWith (.DictComp kx vx [⟨tg, iter, ifs, 0⟩] scope pos) (some (.Name y py)) spos.line X.env = pure true) (hi : PI X tg iter wi) (ok : BlkOk X.N X.env.scope scope own)
    (hg : ∀ (s : Shared) (H : Hp) (C : Addr) (cl : List (Str × Addr)) (fp : List Addr), PG (X.blk s H scope (compEnvC scope cl C X.env) fp) tg g) (ht : ∀ (s : Shared) (H : Hp) (C : Addr) (cl : List (Str × Addr)) (fp : List Addr), PTs (X.blk s H scope (compEnvC scope cl C X.env) fp) ifs tt)
    (hk : ∀ (s : Shared) (H : Hp) (C : Addr) (cl : List (Str × Addr)) (fp : List Addr), PE (X.blk s H scope (compEnvC scope cl C X.env) fp) kx tk)
    (he : ∀ (s : Shared) (H : Hp) (C : Addr) (cl : List (Str × Addr)) (fp : List Addr), PE (X.blk s H scope (compEnvC scope cl C X.env) fp) vx tv) (hs : ∀ x, foldedSetIterable iter X.env x = pure x) :
    PS X (.Assign [.Name y py] (.DictComp kx vx [⟨tg, iter, ifs, 0⟩] scope pos) spos) (tAsg (tDc wi g tt tk tv (own.map (·.2))) (gName i)) := by
  refine ⟨fun pins s σ H D I h => ?_⟩
  rw [exec_Assign_Name_used _ _ _ _ hsw]
  refine wpAny_bind (wpAny_standAt (wpAny_bind ?_))
  show wpAny _ X.A (do let _ ← comprehension (.DictComp kx vx [⟨tg, iter, ifs, 0⟩] scope pos) scope X.env (firstIterPos [⟨tg, iter, ifs, 0⟩] pos) newDict false (eval iter X.env) (some (assign (.Name y py) X.env))) _ _ s
  have h : tDc wi g tt tk tv (own.map (·.2)) σ H (fun x H1 => gName i x σ H1 D.nx) := h
  refine wpAny_bind (thn (dc_core (Qf := fun _ s' => SP X pins D .next s') hc hN I hi ok hg ht hk he hs h fun L C s' m H' I' q hn f => ?_) fun _ s' hq => wpAny_pure (wpAny_pure hq))
  show wpAny _ _ (assign (.Name y py) X.env (.ref L)) _ _ _
  refine wpAny_assign_Name (store_ok2 (v := V.ref L) I' hN hy (.inl hyl) rfl (fun s2 I2 ⟨a, sb, ha⟩ => ?_) (.inr hyl))
  obtain ⟨f0, f1, f2, f3, f4, f5⟩ := f
  have haC : C ≠ a := by
    rcases ha with z | z
    · rw [z]; exact f1
    · exact fun e => f4 y a z e.symm
  refine ⟨m, hn.sameBut sb haC, fun h3 sb3 => ?_⟩
  exact ⟨_, H', I2.turned (t' := s2.toks) (fun b o hb e => (sb3.2 b hb).trans e) f0 f1 f3 f4 f5, q⟩
theorem gs_dcI {N : List Str} {ks : List (Str × NameKind)} {y : Str} {py spos : Pos} {f : V → St} {D : EndsL} (own : List (Str × Nat)) (n : Nm X N ks) (s : Slot N σ y f) (hk : Kd ks y .local) (hc : X.calm = true) (ok : BlkOk X.N X.env.scope scope own) (hw : Wp σ (own.map (·.2)) σ0) (hf : ∀ x, foldedSetIterable iter X.env x = pure x)
    (hsw : swapsWith (.DictComp kx vx [⟨tg, iter, ifs, 0⟩] scope pos) (some (.Name y py)) spos.line X.env = pure true)
    (h : GIt T X tg iter σ L fun n item keep L1 => (∀ A, keep (A :: L1)) ∧ DcGo T X scope tg kx vx ifs (own.map (·.2)) σ σ0 L1 n item (fun v L' => D.nx (f v) L')) : GS T X (.Assign [.Name y py] (.DictComp kx vx [⟨tg, iter, ifs, 0⟩] scope pos) spos) D σ L := by
  obtain ⟨wi, hi, h⟩ := h
  obtain ⟨i, h1, h2⟩ := s.ix
  exact GS.of (ps_setDc (i := i) (g := gB X scope tg) (tt := tB_ X scope ifs) (tk := eB X scope kx) (tv := eB X scope vx) hc (by rw [n.nn]; exact n.nd) (by rw [n.nn]; exact h1) (n.look hk) hsw hi ok (fun s H C cl fp => ⟨fun pins s' σ H' v u Q I r h => h s H C cl fp pins s' u I r⟩) (fun s H C cl fp => ⟨fun pins s' σ H' Q I h => h s H C cl fp pins s' I⟩) (fun s H C cl fp => ⟨fun pins s' σ H' Q I h => h s H C cl fp pins s' I⟩) (fun s H C cl fp => ⟨fun pins s' σ H' Q I h => h s H C cl fp pins s' I⟩) hf) fun H hs D0 l => dcI_core hw h H hs _ fun v L' H' k h' => l.nx _ _ _ (by rw [← h2]; exact k) h'
end
end SW
set_option Elab.async false
set_option linter.all false
set_option maxRecDepth 100000
set_option maxHeartbeats 1600000
/-! Sw34: dict displays {k: v, ..}; flat tuples as data. -/
namespace SW
open PySem PySem.Spec L2
open PyProof.Rows hiding St
def trsOf (X : Cx) : List (Option Expr) → List Expr → List (TE × TE)
  | some k :: ks, v :: vs => (eW X k, eW X v) :: trsOf X ks vs
  | _, _ => []
theorem pps_of {X : Cx} {pos : Pos} : ∀ {ks : List (Option Expr)} {vs : List Expr}, ks.all (·.isSome) = true → ks.length = vs.length → PPs X pos ks vs (trsOf X ks vs)
  | [], [], _, _ => pps_nil
  | some k :: ks, v :: vs, h, e => pps_cons peW peW (pps_of (by simpa using h) (by simpa using e))
  | none :: ks, _, h, _ => by simp at h
  | [], _ :: _, _, e => by cases e
  | some _ :: _, [], _, e => by cases e
def GPs (T : List (Addr × Str)) (X : Cx) (ks : List (Option Expr)) (vs : List Expr) (σ : St) (L : List SA) (K : List (V × V) → List SA → Prop) : Prop :=
  ∀ H, Hs T L H → ∀ Q : List (V × V) → Hp → Prop, (∀ ps L' H', K ps L' → Hs T L' H' → Q ps H') → tPairs (trsOf X ks vs) σ H Q
variable {T : List (Addr × Str)} {X : Cx} {σ : St} {L R' : List SA} {pos : Pos}
theorem gps_nil {K : List (V × V) → List SA → Prop} (k : K [] L) : GPs T X [] [] σ L K := fun H hs Q q => q _ _ _ k hs
theorem gps_cons {K : List (V × V) → List SA → Prop} {k v : Expr} {ks : List (Option Expr)} {vs : List Expr} (h : GE T X k σ L fun x L1 => GE T X v σ L1 fun y L2 => GPs T X ks vs σ L2 fun ps => K ((x, y) :: ps)) : GPs T X (some k :: ks) (v :: vs) σ L K :=
  fun H hs Q q => h H hs _ fun x L1 H1 k1 h1 => k1 H1 h1 _ fun y L2 H2 k2 h2 => k2 H2 h2 _ fun ps L3 H3 k3 h3 => q _ _ _ k3 h3
def DispK (K : GK) (p : Addr) (ps : List (V × V)) (L : List SA) : Prop := ∃ (kvs : List (Key × V)) (L2 : List SA), ps = kvs.map (fun kv => (kV kv.1, kv.2)) ∧ kvs.length ≤ 15 ∧ Rpl L (pt p (.dK [])) (pt p (.dK (mergeK [] kvs))) L2 ∧ K (.ref p) L2
theorem ge_disp {K : GK} {ks : List (Option Expr)} {vs : List Expr} (hall : ks.all (·.isSome) = true) (hl : ks.length = vs.length) (h0 : ks ≠ []) (h15 : ks.length ≤ 15)
    (h : ∀ p, GPs T X ks vs σ (pt p (.dK []) :: L) (DispK K p)) : GE T X (.Dict ks vs pos) σ L K :=
  GE.of (pe_disp (pps_of hall hl) hall hl h0 h15) fun H hs Q q p hp => h p _ (hs.new hp fun _ => nofun) _ fun ps L' H' ⟨kvs, L2, e, hz, r, k⟩ h' => by
    obtain ⟨R, s⟩ := r.sel
    exact ⟨h'.at s, kvs, e, hz, q _ _ _ k (h'.rpl r True.intro fun _ => nofun)⟩
theorem rv_tlF {α : Type} {R : PRep α} {f : α → V} {g : α → Prop} (c : Scal R f g) {a : Addr} {ds : List α} (k : ∀ d ∈ ds, g d) (s : Sel L (pt a (.tup (ds.map f))) R') : Rv T L (.ref a) (rTl R) ds := fun H h => ⟨a, ds.map f, rfl, h.at s, a2_map c k⟩
theorem rv_tlI {a : Addr} {ds : List Int} (s : Sel L (pt a (.tup (ds.map V.int))) R') : Rv T L (.ref a) (rTl rInt) ds := rv_tlF cInt (fun _ _ => True.intro) s
end SW
set_option Elab.async false
set_option linter.all false
set_option maxRecDepth 100000
set_option maxHeartbeats 1600000
/-! Sw35: sorted rows told by their members; zip and enumerate of tuples. -/
namespace SW
open PySem PySem.Spec L2
open PyProof.Rows hiding St
section
variable {α : Type} {R : PRep α}
theorem dataLe_anti {a b : α} (h : PySem.W.alike (R.enc a) (R.enc b) = true) (h1 : PySem.W.dataLe false R.enc a b = true) (h2 : PySem.W.dataLe false R.enc b a = true) : a = b := by
  have n1 : PySem.W.dataLt (R.enc b) (R.enc a) = false := by simpa [PySem.W.dataLe_eq] using h1
  have n2 : PySem.W.dataLt (R.enc a) (R.enc b) = false := by simpa [PySem.W.dataLe_eq] using h2
  have e : PySem.W.keyToks (R.enc a) = PySem.W.keyToks (R.enc b) := (PyProof.Rows.listOrd PyProof.Rows.itemOrd).total _ _ n2 n1
  cases he : PyData.eqv (R.enc a) (R.enc b) with
  | true => exact (R.eqv a b).mp he
  | false =>
    exfalso
    have q := (PySem.W.toks_eqv _ _ h).2 he [] [Sum.inl 0]
    rw [e, show PyProof.Rows.lexLt PyProof.Rows.itemOrd (PySem.W.keyToks (R.enc b)) (PySem.W.keyToks (R.enc b)) = false from (PyProof.Rows.listOrd PyProof.Rows.itemOrd).irrefl _, PySem.W.lex_pre] at q
    exact absurd q (by decide)
theorem srt_eq {xs ys : List α} (p : xs.Perm ys) (al : PySem.W.AllAlike (xs.map R.enc)) : srt R xs = srt R ys := by
  have T := PySem.W.sortLe_total (PyProof.Rows.listOrd PyProof.Rows.itemOrd) false fun b => PySem.W.keyToks (R.enc b)
  have tot : ∀ a b : α, (PySem.W.dataLe false R.enc a b || PySem.W.dataLe false R.enc b a) = true := fun a b => by
    rw [Bool.or_eq_true]; exact T.total a b
  refine List.Perm.eq_of_pairwise (fun a b ha hb h1 h2 => dataLe_anti (al _ (List.mem_map.mpr ⟨a, srt_perm.mem_iff.mp ha, rfl⟩) _ (List.mem_map.mpr ⟨b, p.mem_iff.mpr (srt_perm.mem_iff.mp hb), rfl⟩)) h1 h2)
    (List.pairwise_mergeSort T.trans tot xs) (List.pairwise_mergeSort T.trans tot ys) (srt_perm.trans (p.trans srt_perm.symm))
end
section
variable {T : List (Addr × Str)} {X : Cx} {σ : St} {L R' : List SA} {K : KI} {tg iter e e2 : Expr} {α β : Type} {R : PRep α} {S : PRep β} {elts : List Expr} {kk : Nat} {tpos p pos : Pos}
theorem rvT_at {v : V} {ds : List α} {L : List SA} {H : Hp} (r : Rv T L v (rTl R) ds) (h : Hs T L H) : ∃ a xs, v = .ref a ∧ H a = some (.tup xs) ∧ A2r R H xs ds := r H h
/-- zip of two tuples of whole numbers -/
theorem git_ZI (hg : Gl X "zip") (hm : X.mg "zip" = none) (hst : starEach [e, e2] X.env = (false, eval e X.env) :: starEach [e2] X.env) (hpl : (backTo pos (starEach [e2] X.env)).any (·.1) = false)
    (h : GA T X [e, e2] σ L fun vs L1 => ∃ (u v : V) (ds es : List Int), vs = [u, v] ∧ Rv T L1 u (rTl rInt) ds ∧ Rv T L1 v (rTl rInt) es ∧
      K (min ds.length es.length) (fun i x Lx => ∃ d e q, ds[i]? = some d ∧ es[i]? = some e ∧ x = .ref q ∧ Lx = [pt q (.tup [.int d, .int e])]) (fun L' => Rv T L' u (rTl rInt) ds ∧ Rv T L' v (rTl rInt) es) L1) :
    GIt T X (.Tuple elts kk tpos) (.Call (.Name "zip" p) [e, e2] [] pos) σ L K :=
  ⟨_, RZ.pi_zipA hg hm paW hst hpl, fun H hs Q r => h H hs _ fun vs L1 H1 ⟨u, v, ds, es, ev, ru, rv, k⟩ h1 => by
    obtain ⟨a, xs, rfl, ea, ha⟩ := rvT_at ru h1
    obtain ⟨b, ys, rfl, eb, hb⟩ := rvT_at rv h1
    have get : ∀ {L H} {a : Addr} {ds : List Int}, Rv T L (.ref a) (rTl rInt) ds → Hs T L H → H a = some (.tup (ds.map V.int)) := fun {L H a ds} r h => by
      obtain ⟨a', xs, ev, e, q⟩ := r H h
      cases ev
      obtain ⟨rfl, _⟩ := a2_scal cInt q
      exact e
    refine ⟨a, b, xs, ys, ev, .inr ⟨SqT.of ea, SqT.of eb, r _ _ _ _ _ L1 ⟨fun L H ⟨k1, k2⟩ h => ?_, fun i L H hi ⟨k1, k2⟩ h => ?_, fun i L H x H' hi ⟨k1, k2⟩ h ⟨q, y, z, ex, hq, eh, hy, hz⟩ => ?_⟩ h1 k⟩⟩
    · exact ⟨_, _, SqT.of (get k1 h), SqT.of (get k2 h), by simp only [List.length_map]; omega⟩
    · have i1 : i < ds.length := by omega
      have i2 : i < es.length := by omega
      exact ⟨_, _, .int ds[i], .int es[i], SqT.of (get k1 h), SqT.of (get k2 h), by simp [i1], by simp [i2]⟩
    · subst ex
      subst eh
      have i1 : i < ds.length := by omega
      have i2 : i < es.length := by omega
      have e1 := hy _ (SqT.of (get k1 h))
      have e2 := hz _ (SqT.of (get k2 h))
      rw [List.getElem?_map, List.getElem?_eq_getElem i1] at e1
      rw [List.getElem?_map, List.getElem?_eq_getElem i2] at e2
      cases e1
      cases e2
      exact ⟨_, ⟨ds[i], es[i], q, List.getElem?_eq_getElem i1, List.getElem?_eq_getElem i2, rfl, rfl⟩, h.new hq fun _ => nofun⟩⟩
end
end SW
set_option Elab.async false
set_option linter.all false
set_option maxRecDepth 100000
set_option maxHeartbeats 4000000
/-! Sw36: enumerate of a tuple. -/
namespace SW
open PySem PySem.Spec PyProof.Rows L2
theorem meets_enumB {v : Value} {o : Obj} {Hh : Heap → Prop} (B : Begins v o Hh) :
    Meets (Builtin.«enumerate.__new__» ⟨[.type "enumerate", v], []⟩) (fun _ Rr s => Hh s.heap ∧
      Rr (.ok (.ret (.ref (s.heap.push o).objs.size))) { s with heap := (s.heap.push o).push { cls := .type "enumerate", data := .fields #[.none, .bool false, .ref s.heap.objs.size, rawInt 0, .none, .none] } }) :=
  .of_wp fun prog w A Rr s hyp => by
    obtain ⟨hp, gg, dd, tk, os⟩ := s; obtain ⟨hb, hyp⟩ := hyp
    have hs1 := sub_enumerate
    have it : ∀ {A' : Around} {E : Value → Shared → Prop} {Q : Value → Shared → Prop}, Q (.ref hp.objs.size) ⟨hp.push o, gg, dd, tk, os⟩ → wpAny (model prog w) A' (pyIter v) Q E ⟨hp, gg, dd, tk, os⟩ := fun q => B.iter prog w _ _ ⟨hp, gg, dd, tk, os⟩ _ hb q
    wp_walk using it
    refine wpAny_stack_any fun _ => wpAny_pure ?_
    split
    · rename_i k1 _ _ _ _ _
      cases (k1 == Value.type "enumerate") <;> (wp_walk using it; exact ⟨_, rfl, hyp⟩)
    · wp_walk using it; exact ⟨_, rfl, hyp⟩
section
variable {prog : Program} {w : World} {A : Around} {E : Value → Shared → Prop} {s : Shared}
theorem call_enumB {v : Value} {o : Obj} {Hh : Heap → Prop} {Q : Value → Shared → Prop} (B : Begins v o Hh) (hb : Hh s.heap)
    (k : ∀ hp, IsEnum hp (s.heap.objs.size + 1) s.heap.objs.size 0 .none → hp.get? s.heap.objs.size = some o → hp.objs.size = s.heap.objs.size + 2 → (∀ b ob, s.heap.get? b = some ob → hp.get? b = some ob) → Q (.ref (s.heap.objs.size + 1)) { s with heap := hp }) :
    wpAny (model prog w) A (call (.type "enumerate") [v]) Q E s := by
  refine callType_new F.called_enumerate (by decide) (F.typeCall_enumerate_1 _) (F.newCall_enumerate_1 _) (fun b => F.args_object_init_2 b _) F.entry_enumerate_new (meets_enumB B) ⟨hb, ?_⟩
  have sz : (s.heap.push o).objs.size = s.heap.objs.size + 1 := Heap.size_push ..
  rw [sz]
  have en := Heap.get?_push_size (s.heap.push o) (o := { cls := .type "enumerate", data := .fields #[.none, .bool false, .ref s.heap.objs.size, rawInt 0, .none, .none] }) rfl
  rw [sz] at en
  exact ⟨⟨_, en, rfl⟩, k _ en (Heap.get?_push_of_some _ (Heap.get?_push_size _ B.free)) (by rw [Heap.size_push, sz]) fun b ob x => Heap.get?_push_of_some _ (Heap.get?_push_of_some _ x)⟩
end
/-- the tuple at a as it stands at each turn, each item in a new pair -/
def IteT (K : PySem.W.Frag) (a : Addr) : It :=
  ⟨fun i H => ∃ (xs : List V) (x : V), SqT K H a xs ∧ xs[i]? = some x, fun i H v H' => ∃ p x, v = .ref p ∧ H p = none ∧ H' = upd H p (.tup [.int (i : Nat), x]) ∧ ∀ xs, SqT K H a xs → xs[i]? = some x, fun i H => ∃ xs : List V, SqT K H a xs ∧ xs.length ≤ i⟩
theorem turn_enumT {P : Program} {w : World} {K : PySem.W.Frag} {elts : List Expr} {kk : Nat} {tpos : Pos} {a e it : Addr} (n1 : e ≠ it) (n2 : e ≠ a) (n3 : a ≠ it) :
    Turn P w K (.Tuple elts kk tpos) (IteT K a) [e, it] e (fun i h => (∃ old, IsEnum h e it ((i : Nat) : Int) old) ∧ h.IsTupleIter it a i) where
  mem := List.mem_cons_self
  obj := fun i h st b hb => by
    obtain ⟨⟨old, he⟩, ⟨o, ho, hc, hd⟩⟩ := st
    rcases (by simpa using hb : b = e ∨ b = it) with rfl | rfl
    · exact ⟨_, he, fun v q => nomatch q⟩
    · exact ⟨o, ho, fun v q => by rw [hd] at q; cases q⟩
  keep := fun i h h' ⟨⟨old, he⟩, hi⟩ k => ⟨⟨old, k e (by simp) _ he⟩, hi.at fun o q => k it (by simp) o q⟩
  item := by
    intro X hP hw hK hc i pins s σ H E I hf st hg
    subst hP hw hK
    obtain ⟨⟨old, he⟩, hit⟩ := st
    obtain ⟨xs, x, hq, hx⟩ := hg
    obtain ⟨its, rv, pp, hz⟩ := I.tuple hq
    obtain ⟨u, hu, ru⟩ := rv.get hx
    have tup : s.heap.IsTuple a its.toArray := pp
    have lt1 : i < its.toArray.size := by
      have := (List.getElem?_eq_some_iff.mp hu).1
      simpa using this
    have hel : e < s.heap.objs.size := Heap.lt_size he
    have hil : it < s.heap.objs.size := by obtain ⟨_, q, _⟩ := hit; exact Heap.lt_size q
    refine wpAny_pyNext_enum_itemD (Draws.tuple (A := _) (by exact I.ok.hd hc) it a n3 its.toArray) he ⟨hit, tup⟩ lt1 n1 (by simp [n1, n2]) fun y h' tk hy ho st' hT hsz hk => ?_
    obtain rfl : u = y := by
      have hy2 : its[i]? = some y := by simpa using hy
      rw [hu] at hy2; exact Option.some.inj hy2
    refine ⟨_, rfl, wpAny_letOwnedTupleGo_enum (s := { s with heap := h', toks := tk + 1 }) ho fun h2 he2 sb => ?_⟩
    have hT2 : h2.get? s.heap.objs.size = some { cls := .type "tuple", data := .seq #[.int i tk, u] } := (sb.2 _ (Nat.ne_of_gt hel)).trans hT
    have new : ObjOk X.prog X.w (upd H s.heap.objs.size (.tup [.int (i : Nat), x])) h2 s.heap.objs.size (.tup [.int (i : Nat), x]) :=
      ⟨by show 2 ≤ sizeLine; decide, [.int i tk, u], .cons ⟨_, rfl⟩ (.cons ru .nil), ⟨_, hT2, rfl, _, rfl⟩⟩
    have I1 : Inv X pins σ (upd H s.heap.objs.size (.tup [.int (i : Nat), x])) { s with heap := h2, toks := tk + 1 } :=
      I.turnedNew (ch := [e, it]) (fun b ob hb q => (sb.2 b (fun z => hb (by simp [z]))).trans (hk b ob (fun z => hb (by simp [z])) (fun z => hb (by simp [z])) q)) hf (Nat.le_refl _) new
    refine ⟨.ref s.heap.objs.size, _, I1, rfl, ⟨_, x, rfl, I.hok.fresh (Nat.le_refl _), rfl, fun ys hy => by rw [I.tuple_inj hy hq]; exact hx⟩, ⟨⟨u, ?_⟩, st'.1.at fun o q => (sb.2 it (Ne.symm n1)).trans q⟩, fun b hb => ?_⟩
    · rw [show ((i + 1 : Nat) : Int) = (i : Int) + 1 by omega]
      exact he2
    · have hb2 : b < s.heap.objs.size := by
        rcases (by simpa using hb : b = e ∨ b = it) with rfl | rfl <;> assumption
      rw [upd_ne (Nat.ne_of_lt hb2)]
      exact (hf b hb).1
  done := by
    intro X hP hw hK hc i pins s σ H E I hf st hg
    subst hP hw hK
    obtain ⟨⟨old, he⟩, hit⟩ := st
    obtain ⟨xs, hq, hx⟩ := hg
    obtain ⟨its, rv, pp, hz⟩ := I.tuple hq
    obtain ⟨f0, f1, f2, f3, f4, f5⟩ := hf it (by simp)
    have hl := rv.length
    have tup : s.heap.IsTuple a its.toArray := pp
    have hno : its.toArray[i]? = none := by simp; omega
    refine wpAny_pyNext_enum_endD (fp := [it, a]) (n := i) (P := fun _ _ => False) (St := fun j h => j = i ∧ h.IsTupleIter it a i ∧ h.IsTuple a its.toArray) ?_ he ⟨rfl, hit, tup⟩ fun h' eb => ⟨rfl, I.turned (t' := s.toks) (fun b o hb q => eb b o hb q) f0 f1 f3 f4 f5⟩
    exact {
      live := fun _ _ st => let ⟨o, ho, _⟩ := st.2.1; ⟨o, ho⟩
      frame := fun _ _ _ st k => ⟨st.1, st.2.1.at fun o z => k it (by simp) o z, st.2.2.at fun o z => k a (by simp) o z⟩
      item := fun j _ _ _ hj st _ => absurd st.1 (by omega)
      done := fun _ _ _ st hE => wpAny_nextOf_tuple_end (by exact I.ok.hd hc) st.2.1 st.2.2 hno hE }
  self := fun A i s Q E st h => let ⟨⟨_, he⟩, _⟩ := st; wpAny_pyIter_enum he h
def iEnumT (K : PySem.W.Frag) (ta : TA) : TI := fun σ H R => ta σ H fun vs H1 => ∃ a xs, vs = [.ref a] ∧ SqT K H1 a xs ∧ R (IteT K a) H1
theorem pi_enumT {X : Cx} {e : Expr} {ta : TA} {p pos tpos : Pos} {elts : List Expr} {kk : Nat} (hg : Gl X "enumerate") (hm : X.mg "enumerate" = none) (ha : PA X [e] ta) (hs : starEach [e] X.env = [(false, eval e X.env)]) :
    PI X (.Tuple elts kk tpos) (.Call (.Name "enumerate" p) [e] [] pos) (iEnumT X.K ta) := by
  refine ⟨fun pins s σ H R I hyp => Call_ (ld_blt I hg hm boot_enumerate (PyProof.Rows.callWith_type1 (thn (ha.run pos pins s σ H _ I hyp) fun us s1 ⟨vs, H1, I1, r1, q1⟩ => ?_) hs rfl))⟩
  obtain ⟨a, xs, rfl, hq, q⟩ := q1
  cases r1 with
  | cons r rr =>
    cases rr
    cases r
    obtain ⟨its, rv, pp, hz⟩ := I1.tuple hq
    have tup : s1.heap.IsTuple a its.toArray := pp
    have hal : a < s1.heap.objs.size := by obtain ⟨_, e, _⟩ := id tup; exact Heap.lt_size e
    refine call_enumB (begins_tuple a its.toArray) tup fun h' he hit hsz hk => wpAny_pyIter_enum he ?_
    have I2 : Inv X pins σ H1 { s1 with heap := h' } := I1.kept (t' := s1.toks) hk
    have hi : h'.IsTupleIter s1.heap.objs.size a 0 := ⟨_, hit, rfl, rfl⟩
    refine ⟨s1.heap.objs.size + 1, [s1.heap.objs.size + 1, s1.heap.objs.size], _, _, H1, rfl, I2, turn_enumT (Nat.succ_ne_self _) (Nat.ne_of_gt (Nat.lt_succ_of_lt hal)) (Nat.ne_of_lt hal), ⟨⟨.none, he⟩, hi⟩, fun b hb => ?_, q⟩
    have hle : s1.heap.objs.size ≤ b := by
      rcases (by simpa using hb : b = s1.heap.objs.size + 1 ∨ b = s1.heap.objs.size) with rfl | rfl <;> omega
    exact I1.fpOk hle (I1.hok.fresh hle)
section
open PyProof.Rows hiding St
variable {T : List (Addr × Str)} {X : Cx} {σ : L2.St} {L R' : List SA} {K : KI} {e : Expr} {α : Type} {elts : List Expr} {kk : Nat} {tpos p pos : Pos}
theorem git_ET (R : PRep α) (hg : Gl X "enumerate") (hm : X.mg "enumerate" = none) (hst : starEach [e] X.env = [(false, eval e X.env)])
    (h : GA T X [e] σ L fun vs L1 => ∃ v ds, vs = [v] ∧ Rv T L1 v (rTl R) ds ∧ K ds.length (fun i x Lx => ∃ d q y, ds[i]? = some d ∧ x = .ref q ∧ Lx = [pt q (.tup [.int (i : Nat), y]), Val R y d]) (fun L' => Rv T L' v (rTl R) ds) L1) : GIt T X (.Tuple elts kk tpos) (.Call (.Name "enumerate" p) [e] [] pos) σ L K :=
  ⟨_, pi_enumT hg hm paW hst, fun H hs Q r => h H hs _ fun vs L1 H1 ⟨v, ds, ev, rv, k⟩ h1 => by
    obtain ⟨a, xs, rfl, ea, ha⟩ := rvT_at rv h1
    have get : ∀ {L H}, Rv T L (.ref a) (rTl R) ds → Hs T L H → ∃ xs, H a = some (.tup xs) ∧ A2r R H xs ds := fun {L H} r h => by
      obtain ⟨a', xs, ev, e, q⟩ := r H h
      cases ev
      exact ⟨xs, e, q⟩
    refine ⟨a, xs, ev, SqT.of ea, r _ _ _ _ _ L1 ⟨fun L H k1 h => ?_, fun i L H hi k1 h => ?_, fun i L H x H' hi k1 h ⟨q, y, ex, hq, eh, hy⟩ => ?_⟩ h1 k⟩
    · obtain ⟨zs, e, r⟩ := get k1 h
      exact ⟨zs, SqT.of e, Nat.le_of_eq r.length⟩
    · obtain ⟨zs, e, r⟩ := get k1 h
      have hi2 : i < zs.length := by rw [r.length]; exact hi
      exact ⟨zs, zs[i], SqT.of e, by simp [hi2]⟩
    · obtain ⟨zs, e, r⟩ := get k1 h
      subst ex
      subst eh
      obtain ⟨d, hd, rr⟩ := r.get' (hy zs (SqT.of e))
      exact ⟨_, ⟨d, q, y, hd, rfl, rfl⟩, Hs.new hq (fun _ => nofun) (h.addP Val.pers rr)⟩⟩
end
end SW
set_option Elab.async false
set_option linter.all false
set_option maxRecDepth 100000
set_option maxHeartbeats 1600000
/-! Sw37: (x,) * n; xs.remove(d) of rows of data. -/
namespace SW
open PySem PySem.Spec L2
open PyProof.Rows hiding St
theorem map_erase {α β : Type} (f : α → β) : ∀ (l : List α) (j : Nat), (l.map f).eraseIdx j = (l.eraseIdx j).map f
  | [], j => by simp
  | a :: r, 0 => by simp
  | a :: r, j + 1 => by simp [map_erase f r j]
theorem A2.eraseIdx {α β : Type} {R : α → β → Prop} {l : List α} {m : List β} (h : A2 R l m) (j : Nat) : A2 R (l.eraseIdx j) (m.eraseIdx j) := by
  induction h generalizing j with
  | nil => exact .nil
  | cons r t ih =>
    cases j with
    | zero => exact t
    | succ j => exact .cons r (ih j)
theorem find_erase {α : Type} [DecidableEq α] (d : α) : ∀ ds : List α, d ∈ ds → ∃ j, (ds.findIdx? fun y => decide (y = d)) = some j ∧ ds.eraseIdx j = ds.erase d
  | [], h => by cases h
  | a :: r, h => by
    by_cases e : a = d
    · exact ⟨0, by simp [List.findIdx?_cons, e], by rw [e]; simp⟩
    · obtain ⟨j, h1, h2⟩ := find_erase d r ((List.mem_cons.mp h).resolve_left fun z => e z.symm)
      refine ⟨j + 1, by simp [List.findIdx?_cons, e, h1], ?_⟩
      rw [List.eraseIdx_cons_succ, h2, List.erase_cons_tail (by simpa using e)]
section
variable {X : Cx} {α : Type}
def rRemD (R : PRep α) [DecidableEq α] : V → List V → Hp → VK → Prop := fun x ys H Q => ∃ (l : Addr) (xs : List V) (ds : List α) (y : V) (d : α), x = .ref l ∧ ys = [y] ∧ H l = some (.lst xs) ∧ A2r R H xs ds ∧ R.rel H y d ∧ d ∈ ds ∧ ∀ zs, A2r R H zs (ds.erase d) → Q .non (upd H l (.lst zs))
theorem mt_removeD (R : PRep α) [DecidableEq α] (hd : R.dep ≤ 60) (hu : X.A.units + 100 < cLine) : MtM X "list.remove" (rRemD R) := by
  intro pins s σ H x ys v us Q I rx rxs h
  obtain ⟨l, xs, ds, y, d, rfl, rfl, hH, ha, hy, hm, q⟩ := h
  cases rx
  obtain ⟨u, rfl, ru⟩ := rxs.one
  obtain ⟨z, its, n, r, hl, e⟩ := I.lstM hH
  obtain ⟨bs, rd⟩ := Dp.reads I _ y u (R.dp hy) ru
  obtain ⟨as, rl⟩ := Dp.reads I (.list (ds.map R.enc)) (.ref l) (.ref l) (.lst (SqL.of hH) ha.dp) rfl
  obtain ⟨j, hj, he⟩ := find_erase d ds hm
  have hp : SeqAt.dataPlace (ds.map R.enc) (R.enc d) = some j := by
    rw [SeqAt.dataPlace, List.findIdx?_map, ← hj]
    congr 1
    funext y
    show PyData.eqv (R.enc y) (R.enc d) = _
    exact eqv_enc (R := R) y d
  have hz := ha.length
  cases rl with
  | list h1 h2 h3 rs =>
    rw [e] at h1
    cases h1
    injection h3 with ea eb
    subst ea
    have hpl := PyData.plainAll_of_canLay0 _ ha.ok
    have hpd := PyData.plain_of_canLay0 _ (R.ok hy)
    have dd := R.hdep d
    refine SeqAt.remove_list_data ⟨_, e, rfl, _, rfl⟩ rs rd hpl hpd (by omega) hp (by rw [List.size_toArray]; omega) ?_
    have rr := r.eraseIdx j
    have aa := A2.eraseIdx ha j
    rw [he] at aa
    refine ⟨.non, _, I.lset (its' := its.eraseIdx j) (t' := s.toks) hH e (by show its.toArray.eraseIdxIfInBounds j = (its.eraseIdx j).toArray; rw [List.eraseIdxIfInBounds_toArray]) rr ?_, rfl, q _ aa⟩
    rw [List.length_eraseIdx]
    split <;> omega
end
section
variable {T : List (Addr × Str)} {X : Cx} {σ : St} {L L' R' : List SA} {K : GK} {o e : Expr} {apos cpos : Pos} {α : Type} {R : PRep α} {p : Addr} {v x y : V}
/-- xs.remove(d), d there -/
theorem ge_removeR [DecidableEq α] (R : PRep α) {n : Nat} (hr : Room n X.A) (hd : R.dep ≤ 60) (hb : attributeBase o "remove" X.env (eval o X.env) = eval o X.env) (hf : ((backTo cpos (starEach [e] X.env)).all (fun x => !x.1) && (backToKw cpos (keywordEach [] X.env)).all (fun x => x.1.isSome)
      && decide (([e] : List Expr).length + ([] : List Keyword).length + (if ([] : List Keyword).isEmpty then 0 else 1) < 30)) = true) (hi : (apos.endLine == cpos.line) = true) (he : starEach [e] X.env = (false, eval e X.env) :: starEach [] X.env) (hl : (backTo cpos (starEach [] X.env)).any (·.1) = false)
    (h : GE T X o σ L fun v L1 => ∃ p, v = .ref p ∧ HasL T L1 p ∧ GE T X e σ L1 fun y L2 => ∃ (ds : List α) (d : α) (L3 : List SA), Rpl L2 (LstR R p ds) (LstR R p (ds.erase d)) L3 ∧ Rv T L2 y R d ∧ d ∈ ds ∧ K .non L3) : GE T X (.Call (.Attribute o "remove" apos) [e] [] cpos) σ L K :=
  GE.of (pe_bm PySem.F.plainAttrs_list PySem.F.slot_list_remove PySem.F.type_list_remove (mt_removeD R hd (by have := hr.un; omega)) peW (pa_cons peW pa_nil he) hb hf hi he hl) fun H hh Q q => h H hh _ fun v L1 H1 ⟨p, ev, hp, k1⟩ h1 => by
    subst ev
    obtain ⟨xs, e1⟩ := hp H1 h1
    refine ⟨.inl ⟨rfl, xs, SqL.of e1⟩, k1 H1 h1 _ fun y L2 H2 ⟨ds, d, L3, rp, rv, hm, k⟩ h2 => ?_⟩
    obtain ⟨R0, s⟩ := rp.sel
    obtain ⟨zs, e2, a2⟩ := h2.atR s
    exact ⟨p, zs, ds, y, d, rfl, rfl, e2, a2, rv H2 h2, hm, fun ws aw => q _ _ _ k (h2.rplR rp aw)⟩
/-- (x, ..) * n -/
theorem go_repT {xs : List V} {i : Int} (s : Sel L (pt p (.tup xs)) R') (h0 : xs ≠ []) (h1 : 2 ≤ i) (h2 : i ≤ 1000) (hz : xs.length ≤ 1000) (k : ∀ r, K (.ref r) (pt r (.tup (List.replicate i.toNat xs).flatten) :: L)) : GOp T X (binaryOp .Mult) (.ref p) (.int i) L K :=
  GOp.of op_repT fun H hs Q q => ⟨p, i, xs, rfl, rfl, SqT.of (hs.at s), h0, h1, h2, hz, fun r hr => q _ _ _ (k r) (hs.new hr fun _ => nofun)⟩
end
end SW
set_option Elab.async false
set_option linter.all false
set_option maxRecDepth 100000
set_option maxHeartbeats 1600000
/-! Sw38: enumerate of a tuple of whole numbers; unpacking (number, datum, sign). -/
namespace SW
open PySem PySem.Spec L2
open PyProof.Rows hiding St
section
variable {T : List (Addr × Str)} {X : Cx} {σ : St} {L R' : List SA} {K : KI} {e : Expr} {elts : List Expr} {kk : Nat} {tpos p pos : Pos} {α β γ : Type} {R : PRep α} {S : PRep β} {U : PRep γ}
theorem git_EI (hg : Gl X "enumerate") (hm : X.mg "enumerate" = none) (hst : starEach [e] X.env = [(false, eval e X.env)])
    (h : GA T X [e] σ L fun vs L1 => ∃ v ds, vs = [v] ∧ Rv T L1 v (rTl rInt) ds ∧ K ds.length (fun i x Lx => ∃ d q, ds[i]? = some d ∧ x = .ref q ∧ Lx = [pt q (.tup [.int (i : Nat), .int d])]) (fun L' => Rv T L' v (rTl rInt) ds) L1) : GIt T X (.Tuple elts kk tpos) (.Call (.Name "enumerate" p) [e] [] pos) σ L K :=
  ⟨_, pi_enumT hg hm paW hst, fun H hs Q r => h H hs _ fun vs L1 H1 ⟨v, ds, ev, rv, k⟩ h1 => by
    obtain ⟨a, xs, rfl, ea, ha⟩ := rvT_at rv h1
    have get : ∀ {L H}, Rv T L (.ref a) (rTl rInt) ds → Hs T L H → H a = some (.tup (ds.map V.int)) := fun {L H} r h => by
      obtain ⟨a', xs, ev, e, q⟩ := r H h
      cases ev
      obtain ⟨rfl, _⟩ := a2_scal cInt q
      exact e
    refine ⟨a, xs, ev, SqT.of ea, r _ _ _ _ _ L1 ⟨fun L H k1 h => ?_, fun i L H hi k1 h => ?_, fun i L H x H' hi k1 h ⟨q, y, ex, hq, eh, hy⟩ => ?_⟩ h1 k⟩
    · exact ⟨_, SqT.of (get k1 h), by rw [List.length_map]; exact Nat.le_refl _⟩
    · exact ⟨_, .int ds[i], SqT.of (get k1 h), by simp [hi]⟩
    · subst ex
      subst eh
      have e1 := hy _ (SqT.of (get k1 h))
      rw [List.getElem?_map, List.getElem?_eq_getElem hi] at e1
      cases e1
      exact ⟨_, ⟨ds[i], q, List.getElem?_eq_getElem hi, rfl, rfl⟩, h.new hq fun _ => nofun⟩⟩
theorem gg_tri1 {v : V} {f : α → V} {g : γ → V} {cf : α → Prop} {cg : γ → Prop} {es : List Expr} {k : Nat} {p : Pos} {K : St → List SA → Prop} (c1 : Scal R f cf) (c3 : Scal U g cg) {d : α × β × γ} (r : Rv T L v (rTri R S U) d) (hc : X.calm = true) (hn : (assignEach es X.env).length = 3) (hst : (assignEach es X.env).findIdx? (·.1) = none)
    (h : ∀ y, cf d.1 → cg d.2.2 → GGs T X es [f d.1, y, g d.2.2] σ (Val S y d.2.1 :: L) K) : GG T X (.Tuple es k p) v σ L K := fun H hs Q q => by
  obtain ⟨a, x, y, z, rfl, e, h1, h2, h3⟩ := r H hs
  obtain ⟨rfl, k1⟩ := c1.to h1
  obtain ⟨rfl, k3⟩ := c3.to h3
  exact gg_tupF (L := (fun h => h a = some (.tup [f d.1, y, g d.2.2])) :: Val S y d.2.1 :: L) hc (xs := [f d.1, y, g d.2.2]) hn hst (fun H' hs' => hs'.getP pers_tup .here) (fun H' hs' => h y k1 k3 H' hs'.tail) H ((hs.addP Val.pers h2).addP pers_tup e) Q q
/-- d[1] of (number, datum, sign) -/
theorem gi_tri2 {K : GK} {v : V} {d : α × β × γ} (r : Rv T L v (rTri R S U) d) (k : ∀ y, K y (Val S y d.2.1 :: L)) : GIx T X v (.int 1) L K := fun H hs Q q => by
  obtain ⟨a, x, y, z, rfl, e, h1, h2, h3⟩ := r H hs
  exact gi_of (L := (fun h => h a = some (.tup [x, y, z])) :: Val S y d.2.1 :: L) (xs := [x, y, z]) (v := y) (K := fun v L' => K v L'.tail) (fun H' hs' => hs'.getP pers_tup .here) rfl (k y) H ((hs.addP Val.pers h2).addP pers_tup e) Q fun v L' H' k' h' => q v L'.tail H' k' (by cases L' with | nil => exact h' | cons A L => exact h'.tail)
theorem gi_tri0 {K : GK} {v : V} {f : α → V} {cf : α → Prop} (c1 : Scal R f cf) {d : α × β × γ} (r : Rv T L v (rTri R S U) d) (k : K (f d.1) L) : GIx T X v (.int 0) L K := fun H hs Q q => by
  obtain ⟨a, x, y, z, rfl, e, h1, h2, h3⟩ := r H hs
  obtain ⟨rfl, k1⟩ := c1.to h1
  exact gi_of (L := (fun h => h a = some (.tup [f d.1, y, z])) :: L) (xs := [f d.1, y, z]) (v := f d.1) (K := fun v L' => K v L'.tail) (fun H' hs' => hs'.getP pers_tup .here) rfl k H (hs.addP pers_tup e) Q fun v L' H' k' h' => q v L'.tail H' k' (by cases L' with | nil => exact h' | cons A L => exact h'.tail)
end
end SW
set_option Elab.async false
set_option linter.all false
set_option maxRecDepth 100000
set_option maxHeartbeats 1600000
/-! Sw39: small rules wanted by several laws. -/
namespace SW
open PySem PySem.Spec L2
open PyProof.Rows hiding St
/-- an if whose body is met only where φ -/
theorem gs_ifE {T : List (Addr × Str)} {X : Cx} {σ : St} {L : List SA} {D : EndsL} {c : Expr} {body orelse : List Stmt} {pos : Pos} (φ : Prop) (L2 : List SA) (hc : GT T X c σ L fun b L1 => (b = true → φ) ∧ Ent T L1 L2) (h1 : φ → GSs T X body D σ L2) (h2 : GSs T X orelse D σ L2) : GS T X (.If c body orelse pos) D σ L :=
  gs_if fun H hs Q q => hc H hs Q fun b L1 H1 ⟨e, t⟩ h1' => q b L1 H1 (by
    cases b with
    | true => rw [if_pos rfl]; exact GSs.ent t (h1 (e rfl))
    | false => rw [if_neg Bool.false_ne_true]; exact GSs.ent t h2) h1'
end SW
set_option Elab.async false
set_option linter.all false
set_option maxRecDepth 100000
set_option maxHeartbeats 4000000
/-! Sw40: zip of a tuple and a list of whole numbers. -/
namespace SW
open PySem PySem.Spec PyProof.Rows L2
def ItMx (K : PySem.W.Frag) (a b : Addr) : It where
  go i H := ∃ (xs ys : List V) (x y : V), SqT K H a xs ∧ SqL K H b ys ∧ xs[i]? = some x ∧ ys[i]? = some y
  yld i H v H' := ∃ T x y, v = .ref T ∧ H T = none ∧ H' = upd H T (.tup [x, y]) ∧ (∀ xs, SqT K H a xs → xs[i]? = some x) ∧ ∀ ys, SqL K H b ys → ys[i]? = some y
  stop i H := ∃ xs ys : List V, SqT K H a xs ∧ SqL K H b ys ∧ i = min xs.length ys.length
theorem turn_mx {P : Program} {w : World} {K : PySem.W.Frag} {elts : List Expr} {kk : Nat} {tpos : Pos} {a b z TI TO i1 i2 : Addr} (S : ZipSep2 z TI TO i1 i2 [i1, a] [i2, b]) :
    Turn P w K (.Tuple elts kk tpos) (ItMx K a b) [z, TI, TO, i1, i2] z (fun i h => IsZip h z TI TO .none ∧ IsTupOf2 h TI (.ref i1) (.ref i2) ∧ (∃ x y, IsTupOf2 h TO x y) ∧ h.IsTupleIter i1 a i ∧ h.IsListIter i2 b i) where
  mem := List.mem_cons_self
  obj := fun i h st c hc => by
    obtain ⟨hz, hTI, ⟨x, y, hTO⟩, ⟨o1, e1, _, d1⟩, ⟨o2, e2, _, d2⟩⟩ := st
    simp only [List.mem_cons, List.not_mem_nil, or_false] at hc
    rcases hc with rfl | rfl | rfl | rfl | rfl
    · exact ⟨_, hz, fun v q => nomatch q⟩
    · exact ⟨_, hTI, fun v q => nomatch q⟩
    · exact ⟨_, hTO, fun v q => nomatch q⟩
    · exact ⟨o1, e1, fun v q => by rw [d1] at q; cases q⟩
    · exact ⟨o2, e2, fun v q => by rw [d2] at q; cases q⟩
  keep := fun i h h' ⟨hz, hTI, ⟨x, y, hTO⟩, h1, h2⟩ k =>
    ⟨k z (by simp) _ hz, k TI (by simp) _ hTI, ⟨x, y, k TO (by simp) _ hTO⟩, h1.at fun o q => k i1 (by simp) o q, h2.at fun o q => k i2 (by simp) o q⟩
  item := by
    intro X hP hw hK hc i pins s σ H E I hf st hg
    subst hP hw hK
    obtain ⟨hz, hTI, ⟨x0, y0, hTO⟩, h1, h2⟩ := st
    obtain ⟨xs, ys, x, y, hqx, hqy, hx, hy⟩ := hg
    obtain ⟨its, rv, p, _⟩ := I.tuple hqx
    obtain ⟨its2, rv2, p2, _⟩ := I.list hqy
    have tup : s.heap.IsTuple a its.toArray := p
    obtain ⟨u, hu, ru⟩ := rv.get hx
    obtain ⟨u2, hu2, ru2⟩ := rv2.get hy
    have hzl : z < s.heap.objs.size := Heap.lt_size hz
    have lt1 : i < its.toArray.size := by have := (List.getElem?_eq_some_iff.mp hu).1; simpa using this
    have lt2 : i < its2.toArray.size := by have := (List.getElem?_eq_some_iff.mp hu2).1; simpa using this
    have ne1 : a ≠ i1 := fun e => by subst e; obtain ⟨o1, e1, c1, _⟩ := h1; obtain ⟨o2, e2, c2, _⟩ := tup; rw [e1] at e2; cases e2; rw [c1] at c2; exact absurd c2 (by decide)
    have ne2 : b ≠ i2 := fun e => by subst e; obtain ⟨o1, e1, c1, _⟩ := h2; obtain ⟨o2, e2, c2, _⟩ := p2.isList; rw [e1] at e2; cases e2; rw [c1] at c2; exact absurd c2 (by decide)
    refine wpAny_pyNext_zipD2_item S (Draws.tuple (by exact I.ok.hd hc) i1 a ne1 its.toArray) (Draws.list (by exact I.ok.hd hc) i2 b ne2 its2.toArray) hz hTI hTO ⟨h1, tup⟩ ⟨h2, p2.isList⟩ lt1 lt2 fun y1 y2 h' tk e1 e2 z' TO' st1 st2 hT hsz hk => ?_
    obtain rfl : u = y1 := by
      have e : its[i]? = some y1 := by simpa using e1
      rw [hu] at e; exact Option.some.inj e
    obtain rfl : u2 = y2 := by
      have e : its2[i]? = some y2 := by simpa using e2
      rw [hu2] at e; exact Option.some.inj e
    refine ⟨_, rfl, wpAny_letOwnedTupleGo_zip (s := { s with heap := h', toks := tk }) z' fun h2' z'' sb => ?_⟩
    have hT2 : h2'.get? s.heap.objs.size = some { cls := .type "tuple", data := .seq #[u, u2] } := (sb.2 _ (Nat.ne_of_gt hzl)).trans hT
    have new : ObjOk X.prog X.w (upd H s.heap.objs.size (.tup [x, y])) h2' s.heap.objs.size (.tup [x, y]) :=
      ⟨by show 2 ≤ sizeLine; decide, [u, u2], .cons ru (.cons ru2 .nil), ⟨_, hT2, rfl, _, rfl⟩⟩
    have I1 : Inv X pins σ (upd H s.heap.objs.size (.tup [x, y])) { s with heap := h2', toks := tk } :=
      I.turnedNew (ch := [z, TI, TO, i1, i2]) (fun c o hb q => (sb.2 c fun q' => hb (by simp [q'])).trans (hk c o (fun q' => hb (by simp [q'])) (fun q' => hb (by simp [q'])) (fun q' => hb (by simp [q'])) (fun q' => hb (by simp [q'])) q)) hf (Nat.le_refl _) new
    refine ⟨.ref s.heap.objs.size, _, I1, rfl, ⟨_, x, y, rfl, I.hok.fresh (Nat.le_refl _), rfl, fun l hl => by rw [I.tuple_inj hl hqx]; exact hx, fun l hl => by rw [I.list_inj hl hqy]; exact hy⟩, ⟨z'', ?_, ⟨u, u2, ?_⟩, ?_, ?_⟩, fun c hcm => ?_⟩
    · exact (sb.2 _ S.TIz).trans (hk _ _ S.TIz S.TITO S.TIi1 S.TIi2 hTI)
    · exact (sb.2 _ S.TOz).trans TO'
    · exact st1.1.at fun o q => (sb.2 _ (Ne.symm S.zi1)).trans q
    · exact st2.1.at fun o q => (sb.2 _ (Ne.symm S.zi2)).trans q
    · have hlt : c < s.heap.objs.size := by
        simp only [List.mem_cons, List.not_mem_nil, or_false] at hcm
        rcases hcm with rfl | rfl | rfl | rfl | rfl
        · exact hzl
        · exact Heap.lt_size hTI
        · exact Heap.lt_size hTO
        · obtain ⟨_, e1, _⟩ := h1; exact Heap.lt_size e1
        · obtain ⟨_, e2, _⟩ := h2; exact Heap.lt_size e2
      rw [upd_ne (Nat.ne_of_lt hlt)]
      exact (hf c hcm).1
  done := by
    intro X hP hw hK hc i pins s σ H E I hf st hg
    subst hP hw hK
    obtain ⟨hz, hTI, ⟨x0, y0, hTO⟩, h1, h2⟩ := st
    obtain ⟨xs, ys, hqx, hqy, hend⟩ := hg
    obtain ⟨its, rv, p, _⟩ := I.tuple hqx
    obtain ⟨its2, rv2, p2, _⟩ := I.list hqy
    have tup : s.heap.IsTuple a its.toArray := p
    have l1 := rv.length
    have l2 := rv2.length
    have ne1 : a ≠ i1 := fun e => by subst e; obtain ⟨o1, e1, c1, _⟩ := h1; obtain ⟨o2, e2, c2, _⟩ := tup; rw [e1] at e2; cases e2; rw [c1] at c2; exact absurd c2 (by decide)
    have ne2 : b ≠ i2 := fun e => by subst e; obtain ⟨o1, e1, c1, _⟩ := h2; obtain ⟨o2, e2, c2, _⟩ := p2.isList; rw [e1] at e2; cases e2; rw [c1] at c2; exact absurd c2 (by decide)
    refine wpAny_pyNext_zipD2_end (i := i) S (Draws.tuple (by exact I.ok.hd hc) i1 a ne1 its.toArray) (Draws.list (by exact I.ok.hd hc) i2 b ne2 its2.toArray) hz hTI hTO ⟨h1, tup⟩ ⟨h2, p2.isList⟩ (by simp; omega) (by simp; omega) (by simp; omega) fun h' tk hk => ?_
    exact ⟨rfl, I.turnedL (t' := tk) (ch := [z, TI, TO, i1, i2]) (fun c o hb q => hk c o (fun q' => hb (by simp [q'])) (fun q' => hb (by simp [q'])) (fun q' => hb (by simp [q'])) (fun q' => hb (by simp [q'])) q) hf⟩
  self := fun A i s Q E st h => wpAny_pyIter_zip st.1 h
def iMx (K : PySem.W.Frag) (ta : TA) : TI := fun σ H R => ta σ H fun vs H1 => ∃ a b xs ys, vs = [.ref a, .ref b] ∧ SqT K H1 a xs ∧ SqL K H1 b ys ∧ R (ItMx K a b) H1
theorem pi_mx {X : Cx} {e e2 : Expr} {ta : TA} {p pos tpos : Pos} {elts : List Expr} {kk : Nat} (hg : Gl X "zip") (hm : X.mg "zip" = none) (ha : PA X [e, e2] ta)
    (hs : starEach [e, e2] X.env = (false, eval e X.env) :: starEach [e2] X.env) (hpl : (backTo pos (starEach [e2] X.env)).any (·.1) = false) :
    PI X (.Tuple elts kk tpos) (.Call (.Name "zip" p) [e, e2] [] pos) (iMx X.K ta) := by
  refine ⟨fun pins s σ H R I h => Call_ (ld_blt I hg hm boot_zip (PyProof.Rows.callWith_type1 (thn (ha.run pos pins s σ H _ I h) fun us s1 ⟨vs, H1, I1, r1, q1⟩ => ?_) hs hpl))⟩
  obtain ⟨a, b, xs, ys, rfl, hqx, hqy, q⟩ := q1
  cases r1 with
  | cons r rr =>
    cases rr with
    | cons r' rr =>
      cases rr
      cases r
      cases r'
      obtain ⟨its, rv, p1, _⟩ := I1.tuple hqx
      obtain ⟨its2, rv2, p2, _⟩ := I1.list hqy
      have tup : s1.heap.IsTuple a its.toArray := p1
      have al : a < s1.heap.objs.size := by obtain ⟨_, e, _⟩ := id tup; exact Heap.lt_size e
      refine zip_begins2 (begins_tuple a its.toArray) (begins_list b its2.toArray) tup p2.isList fun h' hz hTI hTO h1 h2 hsz hk => wpAny_pyIter_zip hz ?_
      have I2 : Inv X pins σ H1 { s1 with heap := h' } := I1.kept (t' := s1.toks) hk
      refine ⟨s1.heap.objs.size + 4, [s1.heap.objs.size + 4, s1.heap.objs.size + 2, s1.heap.objs.size + 3, s1.heap.objs.size, s1.heap.objs.size + 1], _, _, H1, rfl, I2, turn_mx (zip_sep2 (by simpa using al) (by simpa using p2.lt)), ⟨hz, hTI, ⟨_, _, hTO⟩, ⟨_, h1, rfl, rfl⟩, ⟨_, h2, rfl, rfl⟩⟩, fun c hcm => ?_, q⟩
      have hle : s1.heap.objs.size ≤ c := by
        simp only [List.mem_cons, List.not_mem_nil, or_false] at hcm
        rcases hcm with rfl | rfl | rfl | rfl | rfl
        · exact Nat.le_add_right _ _
        · exact Nat.le_add_right _ _
        · exact Nat.le_add_right _ _
        · exact Nat.le_refl _
        · exact Nat.le_add_right _ _
      exact I1.fpOk hle (I1.hok.fresh hle)
section
open PyProof.Rows hiding St
variable {T : List (Addr × Str)} {X : Cx} {σ : L2.St} {L R' : List SA} {K : KI} {e e2 : Expr} {elts : List Expr} {kk : Nat} {tpos p pos : Pos}
theorem git_ZM (hg : Gl X "zip") (hm : X.mg "zip" = none) (hst : starEach [e, e2] X.env = (false, eval e X.env) :: starEach [e2] X.env) (hpl : (backTo pos (starEach [e2] X.env)).any (·.1) = false)
    (h : GA T X [e, e2] σ L fun vs L1 => ∃ (u : V) (b : Addr) (ds es : List Int), vs = [u, .ref b] ∧ Rv T L1 u (rTl rInt) ds ∧ (∃ R0, Sel L1 (pt b (.lst (es.map V.int))) R0) ∧
      K (min ds.length es.length) (fun i x Lx => ∃ d e q, ds[i]? = some d ∧ es[i]? = some e ∧ x = .ref q ∧ Lx = [pt q (.tup [.int d, .int e])]) (fun L' => Rv T L' u (rTl rInt) ds ∧ ∃ R0, Sel L' (pt b (.lst (es.map V.int))) R0) L1) :
    GIt T X (.Tuple elts kk tpos) (.Call (.Name "zip" p) [e, e2] [] pos) σ L K :=
  ⟨_, pi_mx hg hm paW hst hpl, fun H hs Q r => h H hs _ fun vs L1 H1 ⟨u, b, ds, es, ev, ru, ⟨R1, s1⟩, k⟩ h1 => by
    obtain ⟨a, xs, rfl, ea, ha⟩ := rvT_at ru h1
    have getT : ∀ {L H}, Rv T L (.ref a) (rTl rInt) ds → Hs T L H → H a = some (.tup (ds.map V.int)) := fun {L H} r h => by
      obtain ⟨a', xs, ev, e, q⟩ := r H h
      cases ev
      obtain ⟨rfl, _⟩ := a2_scal cInt q
      exact e
    have getL : ∀ {L H R0}, Sel L (pt b (.lst (es.map V.int))) R0 → Hs T L H → H b = some (.lst (es.map V.int)) := fun {L H R0} s h => h.at s
    refine ⟨a, b, _, _, ev, SqT.of (getT ru h1), SqL.of (getL s1 h1), r _ _ _ _ _ L1 ⟨fun L H ⟨k1, ⟨_, s2⟩⟩ h => ?_, fun i L H hi ⟨k1, ⟨_, s2⟩⟩ h => ?_, fun i L H x H' hi ⟨k1, ⟨_, s2⟩⟩ h ⟨q, y, z, ex, hq, eh, hy, hz⟩ => ?_⟩ h1 k⟩
    · exact ⟨_, _, SqT.of (getT k1 h), SqL.of (getL s2 h), by simp only [List.length_map]⟩
    · have i1 : i < ds.length := by omega
      have i2 : i < es.length := by omega
      exact ⟨_, _, .int ds[i], .int es[i], SqT.of (getT k1 h), SqL.of (getL s2 h), by simp [i1], by simp [i2]⟩
    · subst ex
      subst eh
      have i1 : i < ds.length := by omega
      have i2 : i < es.length := by omega
      have e1 := hy _ (SqT.of (getT k1 h))
      have e2 := hz _ (SqL.of (getL s2 h))
      rw [List.getElem?_map, List.getElem?_eq_getElem i1] at e1
      rw [List.getElem?_map, List.getElem?_eq_getElem i2] at e2
      cases e1
      cases e2
      exact ⟨_, ⟨ds[i], es[i], q, List.getElem?_eq_getElem i1, List.getElem?_eq_getElem i2, rfl, rfl⟩, h.new hq fun _ => nofun⟩⟩
end
end SW
set_option Elab.async false
set_option linter.all false
set_option maxRecDepth 100000
set_option maxHeartbeats 1000000
/-! Sw41: sorted by a key that a def of the program tells. -/
namespace SW
open PySem PySem.Spec
open L2 hiding Apart GC GK GS GSs gs_while gss_cons gss_nil
open PyProof.Rows hiding St
theorem dec_f {p : Prop} {inst : Decidable p} (h : ¬p) : @decide p inst = false := decide_eq_false h
theorem dec_t {p : Prop} {inst : Decidable p} (h : p) : @decide p inst = true := decide_eq_true h
/-- a heap without the object at b -/
def goneAt (h : Heap) (b : Addr) : Heap := { h with objs := h.objs.modify b fun o => { o with data := .freed } }
theorem goneAt_self {h : Heap} {b : Addr} {o : Obj} (e : h.get? b = some o) : (goneAt h b).get? b = none := by
  unfold goneAt Heap.get?
  simp only [Array.getElem?_modify, if_true]
  cases q : h.objs[b]? with
  | none => simp
  | some o => simp
theorem goneAt_ne {h : Heap} {b c : Addr} (e : c ≠ b) : (goneAt h b).get? c = h.get? c := by
  unfold goneAt Heap.get?
  simp only [Array.getElem?_modify, if_neg (Ne.symm e)]
section
variable {X : Cx} {α κ : Type} {R : PRep α} {S : PRep κ} {kf : α → κ} {T : List (Addr × Str)} {L : List SA} {pins : List (Addr × Obj)} {σ : St} {s : Shared} {H : Hp} {A : Around} {a kS : Addr} {f : Value} {xs : List V} {us : List Value} {ds : List α} {E : Value → Shared → Prop}
def KeyB (R : PRep α) (S : PRep κ) (kf : α → κ) (xs : List V) (ds : List α) (ys : List V) (n : Nat) : SA := fun h => A2r R h xs ds ∧ A2r S h ys ((ds.take n).map kf)
theorem keyB_pers {ys : List V} {n : Nat} : Pers (KeyB R S kf xs ds ys n) := fun _ _ t e => ⟨e.1.mono t, e.2.mono t⟩
/-- what the key's def promises -/
def KeyTurn (X : Cx) (σ : St) (A : Around) (f : Value) (T : List (Addr × Str)) (L : List SA) (R : PRep α) (S : PRep κ) (kf : α → κ) (ds : List α) : Prop :=
  ∀ (B : SA) (pins : List (Addr × Obj)) (s : Shared) (H : Hp) (x : V) (u : Value) (d : α), d ∈ ds → Inv X pins σ H s → RelV x u → Hs T (Val R x d :: B :: L) H →
    wpAny (model X.prog X.w) A (call f [u]) (EP X pins σ fun y H2 => Hs T (Val S y (kf d) :: B :: L) H2) (fun _ _ => False) s
theorem keyI_rest {e1 : Nat} {P0 : PySem.Fin → Shared → Prop} (I : Inv X pins σ H s) (hs : Hs T (KeyB R S kf xs ds [] 0 :: L) H) (na : s.heap.get? a = some (seqObj "list" #[] e1)) (nk : s.heap.get? kS = some (seqObj "list" #[] 0)) (hka : kS ≠ a) (fa : FpOk X pins H a) (fk : FpOk X pins H kS)
    (rv : Vals xs us) (hlen : us.length = ds.length) (hZ : ds.length ≤ sizeLine) (hal : PySem.W.AllAlike (ds.map fun d => S.enc (kf d))) (hsk : PySem.W.Sortable (ds.map fun d => S.enc (kf d))) (hd : S.dep ≤ 60) (hu : A.units + 100 < cLine)
    (turn : KeyTurn X σ A f T L R S kf ds)
    (h : ∀ s3 H3, Inv X pins σ H3 s3 → Hs T (LstR R a (ds.mergeSort (PySem.W.dataLe false fun d => S.enc (kf d))) :: L) H3 → P0 (.done (.ret .none)) s3) :
    wpAny (model X.prog X.w) A (ksk_rest a f false us.toArray e1 (.ref kS)) P0 E s := by
  unfold ksk_rest
  refine wpAny_bind (wpAny_rule ?_)
  rw [← Array.forIn_toList, List.toList_toArray]
  refine wpAny_bind (ksk_fold (fun i s' => ∃ (H' : Hp) (kA : Array Value) (e : Nat) (ys : List V), Inv X pins σ H' s' ∧ s'.heap.get? kS = some (seqObj "list" kA e) ∧ s'.heap.get? a = some (seqObj "list" #[] e1) ∧ FpOk X pins H' a ∧ FpOk X pins H' kS ∧ Vals ys kA.toList ∧ Hs T (KeyB R S kf xs ds ys i :: L) H') us 0 s
    ⟨H, #[], 0, [], I, nk, na, fa, fk, .nil, hs⟩ ?step ?done)
  case step =>
    rintro j u s' hju ⟨H', kA, e, ys, I', nk', na', fa', fk', rk, hs'⟩
    simp only [Nat.zero_add] at hs' ⊢
    have hj : j < us.length := (List.getElem?_eq_some_iff.mp hju).1
    obtain ⟨d, hdj⟩ : ∃ d, ds[j]? = some d := ⟨_, List.getElem?_eq_getElem (by omega)⟩
    have hB := hs'.getP keyB_pers .here
    have hz : (u, d) ∈ us.zip ds := List.mem_of_getElem? (i := j) (by rw [List.getElem?_zip_eq_some]; exact ⟨hju, hdj⟩)
    obtain ⟨x, rx, rxd⟩ := (each_of rv hB.1).zip _ hz
    have Ip := I'.pinned (fp := [a, kS]) (fun b hb => by
      rcases List.mem_cons.mp hb with rfl | hb
      · exact fa'
      · rw [List.mem_singleton.mp hb]; exact fk') (fun b hb => by
      rcases List.mem_cons.mp hb with rfl | hb
      · exact ⟨_, na', fun v z => by cases z⟩
      · rw [List.mem_singleton.mp hb]; exact ⟨_, nk', fun v z => by cases z⟩)
    have hz3 : kA.size ≤ ds.length := by
      have h1 := hB.2.length
      have h2 := rk.length
      have h3 : kA.toList.length = kA.size := Array.length_toList
      rw [List.length_map, List.length_take] at h1
      omega
    refine wpAny_bind (wpAny_attempt (wpAny_mono (turn _ _ s' H' x u d (List.mem_of_getElem? hdj) Ip rx (hs'.addP Val.pers rxd)) (fun v s'' he => ?_) fun _ _ hF => hF.elim))
    obtain ⟨y, H2, I2, ry, h2⟩ := he
    obtain ⟨pa1, pa2, _⟩ := I2.pin (a, seqObj "list" #[] e1) (List.mem_append_right _ (List.mem_append_right _ (mem_pinsAt (by simp) na')))
    obtain ⟨pk1, pk2, _⟩ := I2.pin (kS, seqObj "list" kA e) (List.mem_append_right _ (List.mem_append_right _ (mem_pinsAt (by simp) nk')))
    have I3 := I2.unpinned
    have sb := Heap.SameBut.update s''.heap kS (Obj.mapSeq (·.push v))
    obtain ⟨c2, hc2⟩ : ∃ c2, (s''.heap.update kS (Obj.mapSeq (·.push v))).get? kS = some (seqObj "list" (kA.push v) c2) := ⟨_, get?_update_seq pk1 (·.push v)⟩
    try dsimp only
    refine wpAny_bind (listUpdate_at pk1 rfl ?_ (Nat.le_trans hz3 hZ) (by rw [Array.size_push]; omega))
    have vv := h2.getP Val.pers .here
    have bb := h2.getP keyB_pers (.there .here)
    refine wpAny_pure ⟨rfl, H2, kA.push v, c2, ys ++ [y], I3.turnedL (ch := [kS]) (fun b o hb q => (sb.2 b (by simpa using hb)).trans q) (fun b hb => by rw [List.mem_singleton.mp hb]; exact ⟨pk2, fk'.2⟩), hc2, (sb.2 a hka.symm).trans pa1, ⟨pa2, fa'.2⟩, ⟨pk2, fk'.2⟩, ?_, ?_⟩
    · rw [Array.toList_push]
      exact rk.append (.cons ry .nil)
    · refine h2.tail.tail.addP keyB_pers ⟨bb.1, ?_⟩
      rw [take_succ' hdj, List.map_append]
      exact bb.2.snoc vv
  case done =>
    rintro s' ⟨H', kA, e, ys, I', nk', na', fa', fk', rk, hs'⟩
    rw [Nat.zero_add, hlen] at hs'
    obtain ⟨hx, hy⟩ := hs'.getP keyB_pers .here
    rw [List.take_length] at hy
    have e1' := each_of rk hy
    have hsz : kA.size = us.length := by
      have h1 := hy.length
      have h2 := rk.length
      have h3 : kA.toList.length = kA.size := Array.length_toList
      rw [List.length_map] at h1
      omega
    have ek : PySem.W.EachIs (fun v k => ∃ as, Reads s'.heap v k as) kA.toList (ds.map fun d => S.enc (kf d)) := by
      have := e1'.mono fun u k (q : ∃ x, RelV x u ∧ S.rel H' x k) => show ∃ as, Reads s'.heap u (S.enc k) as from by
        obtain ⟨x, r1, r2⟩ := q
        exact Dp.reads I' _ x u (S.dp (K := X.K) r2) r1
      have h3 := PySem.W.each_map (R := fun v d => ∃ as, Reads s'.heap v d as) S.enc this
      rw [List.map_map] at h3
      exact h3
    refine wpAny_bind (listItems_at nk' rfl ?_)
    refine PySem.W.keyH_end (κ := PySem.W.dataKind s'.heap (ds.map fun d => S.enc (kf d))) (h₁ := goneAt s'.heap kS) (fun b o hb q => ?_) (goneAt_self nk') nk' na' hka (PySem.W.SortsAt.data ek hal hsk fun d hd2 => ?_) hsz (by omega) fun h3 tk3 c k3 n3 => ?_
    · by_cases c : b = kS
      · subst c
        rw [goneAt_self nk'] at q; cases q
      · rwa [goneAt_ne c] at q
    · obtain ⟨d0, _, rfl⟩ := List.mem_map.mp hd2
      have := S.hdep (kf d0)
      omega
    · have I3 : Inv X pins σ H' { s' with heap := h3, toks := tk3 } := I'.turnedL (ch := [a, kS]) (fun b o hb q => k3 b o (by simp at hb; exact hb.1) (by simp at hb; rw [goneAt_ne hb.2]; exact q)) (fun b hb => by
        rcases List.mem_cons.mp hb with rfl | hb
        · exact fa'
        · rw [List.mem_singleton.mp hb]; exact fk')
      have ko := PySem.W.keyedOut_each (rev := false) (fun d => S.enc (kf d)) ⟨s'.heap, kA.toList, hal, rfl, ek⟩ (each_of rv hx)
      obtain ⟨zs, r1, r2⟩ := of_each ko
      have hlo : zs.length ≤ sizeLine := by
        have := r2.length
        rw [List.length_mergeSort] at this
        omega
      refine h _ (upd H' a (.lst zs)) (I3.take (h' := h3) (t' := tk3) (fun b ob _ q => q) fa' ⟨hlo, _, c, r1, n3⟩) ?_
      exact hs'.tail.newR fa'.1 r2
theorem keyI_tree {n : Nat} {P0 : PySem.Fin → Shared → Prop} (I : Inv X pins σ H s) (hs : Hs T (KeyB R S kf xs ds [] 0 :: L) H) (ho : s.heap.get? a = some (seqObj "list" us.toArray n)) (fa : FpOk X pins H a)
    (rv : Vals xs us) (hlen : us.length = ds.length) (hZ : ds.length ≤ sizeLine) (hal : PySem.W.AllAlike (ds.map fun d => S.enc (kf d))) (hsk : PySem.W.Sortable (ds.map fun d => S.enc (kf d))) (hd : S.dep ≤ 60) (hu : A.units + 100 < cLine)
    (turn : KeyTurn X σ A f T L R S kf ds)
    (h : ∀ s3 H3, Inv X pins σ H3 s3 → Hs T (LstR R a (ds.mergeSort (PySem.W.dataLe false fun d => S.enc (kf d))) :: L) H3 → P0 (.done (.ret .none)) s3) :
    wpAny (model X.prog X.w) A (ksk_tree a f false) P0 E s := by
  have hz : us.length ≤ sizeLine := by omega
  obtain ⟨e1, ho1⟩ : ∃ e1, (s.heap.update a (Obj.mapSeq fun _ => (#[] : Array Value))).get? a = some (seqObj "list" #[] e1) := ⟨_, get?_update_seq ho fun _ => #[]⟩
  have k0 : ∀ b o, b ∉ [a] → s.heap.get? b = some o → (((s.heap.update a (Obj.mapSeq fun _ => (#[] : Array Value))).push (seqObj "tuple" us.toArray 0)).push (seqObj "list" #[] 0)).get? b = some o := fun b o hb q =>
    Heap.get?_push_of_some _ (Heap.get?_push_of_some _ (((Heap.SameBut.update s.heap a (Obj.mapSeq fun _ => (#[] : Array Value))).2 b (by simpa using hb)).trans q))
  have hks : ((s.heap.update a (Obj.mapSeq fun _ => (#[] : Array Value))).push (seqObj "tuple" us.toArray 0)).objs.size = s.heap.objs.size + 1 := by rw [size_push', Heap.size_update]
  have hal2 : a < s.heap.objs.size := Heap.lt_size ho
  unfold ksk_tree
  refine wpAny_bind (listItems_at ho rfl ?_)
  refine wpAny_bind (listUpdate_at ho rfl ?_ (by rw [List.size_toArray]; exact hz) (Nat.zero_le _))
  refine wpAny_bind (seqEpoch_at ho1 rfl ?_)
  refine wpAny_bind (wpAny_newTuple ?_ hz)
  refine wpAny_bind (wpAny_newList ?_ (Nat.zero_le _))
  refine wpAny_holding ?_
  have I1 : Inv X pins σ H { s with heap := ((s.heap.update a (Obj.mapSeq fun _ => (#[] : Array Value))).push (seqObj "tuple" us.toArray 0)).push (seqObj "list" #[] 0) } := I.turnedL (t' := s.toks) (ch := [a]) k0 (fun b hb => by rw [List.mem_singleton.mp hb]; exact fa)
  have hfk : FpOk X pins H ((s.heap.update a (Obj.mapSeq fun _ => (#[] : Array Value))).push (seqObj "tuple" us.toArray 0)).objs.size := I.fpOk (by rw [hks]; exact Nat.le_succ _) (I.hok.fresh (by rw [hks]; exact Nat.le_succ _))
  exact keyI_rest (kS := ((s.heap.update a (Obj.mapSeq fun _ => (#[] : Array Value))).push (seqObj "tuple" us.toArray 0)).objs.size) I1 hs (Heap.get?_push_of_some _ (Heap.get?_push_of_some _ ho1)) (Heap.get?_push_size _ rfl) (by rw [hks]; exact Nat.ne_of_gt (Nat.lt_succ_of_lt hal2)) fa
    hfk rv hlen hZ hal hsk hd hu turn h
theorem argsK1 (a v : Value) : argsOk "sorted" ⟨[a], [(Str.ofString "key", v)]⟩ := by unfold argsOk; kernel_rfl
theorem argsK2 (a v : Value) : argsOk "list.sort" ⟨[a], [(Str.ofString "key", v)]⟩ := by unfold argsOk; kernel_rfl
/-- sorted(xs, key=f), a list -/
theorem sortedK_run {l q : Addr} {Q : VK} (I : Inv X pins σ H s) (hs : Hs T L H) (hl : SqL X.K H l xs) (hx : A2r R H xs ds) (hal : PySem.W.AllAlike (ds.map fun d => S.enc (kf d))) (hsk : PySem.W.Sortable (ds.map fun d => S.enc (kf d))) (hd : S.dep ≤ 60) (hu : X.A.units + 110 < cLine)
    (turn : KeyTurn X σ X.A.in1.in1 (.ref q) T L R S kf ds)
    (h : ∀ p H3, Hs T (LstR R p (ds.mergeSort (PySem.W.dataLe false fun d => S.enc (kf d))) :: L) H3 → Q (.ref p) H3) :
    wpAny (model X.prog X.w) X.A (call (.builtin "sorted") [.ref l] [(Str.ofString "key", .ref q)]) (EP X pins σ Q) X.xe s := by
  obtain ⟨its, rv, hl2, hz⟩ := I.list hl
  have h1 := hx.length
  have h2 := rv.length
  refine PySem.W.sorted_of_sort hl2.isList (by omega) (argsK1 _ _) (fun x => argsK2 _ _) fun E' => ?_
  rw [ksk_t1]
  have kc : ∀ b o, s.heap.get? b = some o → (PySem.W.copyHeap s.heap its).get? b = some o := fun b o q => PySem.W.copyHeap_old q
  have I1 : Inv X pins σ H { s with heap := PySem.W.copyHeap s.heap its } := I.kept (t' := s.toks) kc
  refine keyI_tree (R := R) (S := S) (kf := kf) (us := its) (ds := ds) I1 (hs.addP keyB_pers ⟨hx, .nil⟩) (PySem.W.copyHeap_at s.heap its) (I.fpOk (Nat.le_succ _) (I.hok.fresh (Nat.le_succ _))) rv (by omega) (by omega) hal hsk hd (by show X.A.units + 1 + 1 + 100 < _; omega) turn fun s3 H3 I3 h3 => ⟨rfl, .ref _, H3, I3, rfl, h _ _ h3⟩
end
end SW
set_option Elab.async false
set_option linter.all false
set_option maxRecDepth 100000
set_option maxHeartbeats 1000000
/-! Sw42: items() of dicts: listed, sorted, sorted by a key. -/
namespace SW
open PySem PySem.Spec
open L2 hiding Apart GC GK GS GSs gs_while gss_cons gss_nil
open PyProof.Rows hiding St
theorem Hs.ext {T : List (Addr × Str)} {L : List SA} {H H' : Hp} (e : ∀ b o, H b = some o → H' b = some o) (h : Hs T L H) : Hs T L H' :=
  ⟨h.tabs.ext e, h.pcs.move fun _ s a o q => ⟨e a o (s a o q).1, (s a o q).2⟩⟩
/-- rows of a dict as its items tell them -/
def ItemsR {α : Type} (R : PRep α) (H : Hp) (d : Addr) (ds : List α) : Prop :=
  (∃ kvs : List (Key × V), H d = some (.dK kvs) ∧ kvs.length = ds.length ∧ ∀ (i : Nat) q x, kvs[i]? = some q → ds[i]? = some x → ∀ H2 t, (∀ b o, H b = some o → H2 b = some o) → H2 t = some (.tup [kV q.1, q.2]) → R.rel H2 (.ref t) x) ∨
  (∃ kvs : List (List Key × V), H d = some (.dT kvs) ∧ kvs.length = ds.length ∧ ∀ (i : Nat) q x, kvs[i]? = some q → ds[i]? = some x → ∀ H2 t b, (∀ b o, H b = some o → H2 b = some o) → H2 b = some (.tup (q.1.map kV)) → H2 t = some (.tup [.ref b, q.2]) → R.rel H2 (.ref t) x)
theorem refsV : ∀ as : List Addr, Vals (as.map V.ref) (as.map Value.ref)
  | [] => .nil
  | _ :: as => .cons rfl (refsV as)
section
variable {X : Cx} {α : Type} {R : PRep α} {T : List (Addr × Str)} {L : List SA} {pins : List (Addr × Obj)} {σ : St} {s : Shared} {H : Hp} {d : Addr} {ds : List α}
theorem items_raw (I : Inv X pins σ H s) (h : ItemsR R H d ds) : (d == sysModules) = false ∧ ∃ es ep, DT.Raw s.heap d es ep ∧ es.size = ds.length ∧ ds.length ≤ sizeLine ∧
    ∀ (i : Nat) en x, es[i]? = some en → ds[i]? = some x → ∃ k v, RelV k en.key ∧ RelV v en.val ∧ ∀ H2 t, (∀ b o, H b = some o → H2 b = some o) → H2 t = some (.tup [k, v]) → R.rel H2 (.ref t) x := by
  rcases h with ⟨kvs, hd, hl, hr⟩ | ⟨kvs, hd, hl, hr⟩
  · obtain ⟨z, lo, vs, kv, hdo⟩ := dk_of I.hok hd
    obtain ⟨ep, hat⟩ := hdo.dictAt
    obtain ⟨o, es, ho, hc, hdt, _, hp, _⟩ := hat
    have hraw : DT.Raw s.heap d es ep := ⟨o, ho, hc, hdt⟩
    have hsz : es.size = vs.length := by rw [← hp.length]; simp
    have hent : ∀ (i : Nat) (hi : i < es.size) k v, vs[i]? = some (k, v) → (mixKind X.prog X.w).is k es[i].key = true ∧ es[i].val = v := fun i hi k v hk => hp.get? (e := es[i]) (by simp [hi]) hk
    have lk : kvs.length = vs.length := Paired.length kv
    refine ⟨lo, es, ep, hraw, by omega, by omega, fun i en x he hx => ?_⟩
    have hi : i < es.size := (Array.getElem?_eq_some_iff.mp he).1
    have hen : es[i] = en := (Array.getElem?_eq_some_iff.mp he).2
    have hik : i < kvs.length := by omega
    obtain ⟨b, hb, h1, h2⟩ := paired_get kv (List.getElem?_eq_getElem hik)
    obtain ⟨g1, g2⟩ := hent i hi b.1 b.2 hb
    refine ⟨kV kvs[i].1, kvs[i].2, ?_, ?_, fun H2 t e1 e2 => hr i _ x (List.getElem?_eq_getElem hik) hx H2 t e1 e2⟩
    · rw [h1, ← hen]
      exact relV_key (show keyIs b.1 es[i].key = true from g1)
    · rw [← hen, g2]; exact h2
  · obtain ⟨z, lo, xs, pr, o, es, ep, ho, hx, hdt, he, _⟩ := I.hok d _ hd
    have hes : es.size = kvs.length := by
      have l1 : es.size = xs.length := size_of_entries he
      have l2 : kvs.length = xs.length := Paired.length pr
      omega
    refine ⟨lo, es, ep, ⟨o, ho, hx, hdt⟩, by omega, by omega, fun i en x hen hx => ?_⟩
    have hi : i < es.size := (Array.getElem?_eq_some_iff.mp hen).1
    have hik : i < kvs.length := by omega
    obtain ⟨b, hb, e1, e2, e3⟩ := paired_get pr (List.getElem?_eq_getElem hik)
    have q := entry_at he i
    rw [hb, hen] at q
    have hq := Option.some.inj q
    refine ⟨.ref b.2.1, kvs[i].2, ?_, ?_, fun H2 t k1 k2 => hr i _ x (List.getElem?_eq_getElem hik) hx H2 t b.2.1 k1 (k1 _ _ e2) k2⟩
    · rw [hq]; exact rfl
    · rw [hq]; exact e3
/-- the pairs that items made, tracked -/
theorem items_take {h' : Heap} {tk : Nat} {es : Array DictEntry} {lo : Addr} {as : List Addr} {H1 : Hp} (I : Inv X pins σ H s) (I1 : Inv X pins σ H1 { s with heap := h', toks := tk }) (g1 : ∀ b o, H b = some o → H1 b = some o) (n1 : ∀ a ∈ as, H1 a = none) (hlo : s.heap.objs.size ≤ lo) (hl : as.length = es.size) (hds : es.size = ds.length) (G : DT.Made es lo h' as)
    (rows : ∀ (i : Nat) en x, es[i]? = some en → ds[i]? = some x → ∃ k v, RelV k en.key ∧ RelV v en.val ∧ ∀ H2 t, (∀ b o, H b = some o → H2 b = some o) → H2 t = some (.tup [k, v]) → R.rel H2 (.ref t) x) :
    ∃ H2, Inv X pins σ H2 { s with heap := h', toks := tk } ∧ (∀ b o, H1 b = some o → H2 b = some o) ∧ Vals (as.map V.ref) (as.map Value.ref) ∧ A2r R H2 (as.map V.ref) ds := by
  obtain ⟨H2, I2, g, q⟩ := L2.DX.takeT (P := fun a vs => ∀ (j : Nat) x, as[j]? = some a → ds[j]? = some x → ∃ k v, vs = [k, v] ∧ ∀ H2 t, (∀ b o, H b = some o → H2 b = some o) → H2 t = some (.tup [k, v]) → R.rel H2 (.ref t) x) I as H1 I1 (G.rise.imp fun {a b} (h : a < b) => Nat.ne_of_lt h) fun a ha => by
    have hab := G.above a ha
    obtain ⟨j, hj⟩ := List.mem_iff_getElem?.mp ha
    obtain ⟨en, he, hg⟩ := G.pairs j a hj
    have hjl : j < ds.length := by have := (Array.getElem?_eq_some_iff.mp he).1; omega
    obtain ⟨k, v, r1, r2, r3⟩ := rows j en _ he (List.getElem?_eq_getElem hjl)
    refine ⟨Nat.le_trans hlo (Nat.le_of_lt hab), n1 a ha, [k, v], fun j2 x hj2 hx => ?_, fun H2 => ⟨by show 2 ≤ sizeLine; decide, [en.key, en.val], .cons r1 (.cons r2 .nil), ⟨_, hg, rfl, _, rfl⟩⟩⟩
    have : j2 = j := by
      have nd : as.Nodup := G.rise.imp fun {a b} (h : a < b) => Nat.ne_of_lt h
      have h1 := List.getElem?_eq_some_iff.mp hj2
      have h2 := List.getElem?_eq_some_iff.mp hj
      exact (List.getElem_inj nd).mp (h1.2.trans h2.2.symm)
    subst this
    rw [List.getElem?_eq_getElem hjl] at hx
    cases hx
    exact ⟨k, v, rfl, r3⟩
  refine ⟨H2, I2, g, refsV as, ?_⟩
  have : ∀ (as' : List Addr) (ds' : List α), as'.length = ds'.length → (∀ (j : Nat) a x, as'[j]? = some a → ds'[j]? = some x → R.rel H2 (.ref a) x) → A2r R H2 (as'.map V.ref) ds' := by
    intro as'
    induction as' with
    | nil => intro ds' hl _; cases ds' with
      | nil => exact .nil
      | cons _ _ => simp at hl
    | cons a as' ih => intro ds' hl hp; cases ds' with
      | nil => simp at hl
      | cons x ds' => exact .cons (hp 0 a x rfl rfl) (ih ds' (by simpa using hl) fun j a x h1 h2 => hp (j + 1) a x (by simpa using h1) (by simpa using h2))
  refine this as ds (by omega) fun j a x hj hx => ?_
  obtain ⟨vs, hP, hv⟩ := q a (List.mem_of_getElem? hj)
  obtain ⟨k, v, rfl, hr⟩ := hP j x hj hx
  exact hr H2 a (fun b o e => g b o (g1 b o e)) hv
def rItemsG (X : Cx) : V → List V → Hp → VK → Prop := fun x xs H Q => ∃ (d : Addr) (α : Type) (R : PRep α) (ds : List α), x = .ref d ∧ xs = [] ∧ ItemsR R H d ds ∧ ∀ p, H p = none → Q (.ref p) (upd H p (L2.DX.itemsO p d))
theorem mt_itemsG : MtR X "dict.items" (rItemsG X) := by
  intro pins s σ H x xs v us Q I rx rxs h
  obtain ⟨d, α, R, ds, rfl, rfl, hi, q⟩ := h
  cases rx
  cases rxs
  obtain ⟨lo, es, ep, raw, _⟩ := items_raw I hi
  refine DT.callItems (es := es) (ep := ep) lo raw ?_
  have hf : H s.heap.objs.size = none := I.hok.fresh (Nat.le_refl _)
  exact ⟨.ref s.heap.objs.size, upd H s.heap.objs.size (L2.DX.itemsO s.heap.objs.size d), I.laid (t' := s.toks) (fun b u e => Heap.get?_push_of_some _ e) (Nat.le_refl _) (L2.DX.itemsO_ok (Heap.get?_push_size _ rfl)), rfl, q _ hf⟩
def rListV (X : Cx) : List V → Hp → VK → Prop := fun vs H Q => ∃ (p d : Addr) (α : Type) (R : PRep α) (ds : List α), vs = [.ref p] ∧ H p = some (L2.DX.itemsO p d) ∧ ItemsR R H d ds ∧
  ∀ q H1 H2 ys, H q = none → H1 = upd H q (.lst ys) → (∀ b o, H1 b = some o → H2 b = some o) → A2r R H2 ys ds → Q (.ref q) H2
theorem cr_listV (hc : X.calm = true) : CallR X (.type "list") (rListV X) := by
  intro pins s σ H vs us Q I r h
  obtain ⟨p, d, α, R, ds, rfl, hp, hi, q⟩ := h
  obtain rfl := Vals.ref1 r
  have view : s.heap.IsItemsView p d := (show ObjOk X.prog X.w H s.heap p (L2.DX.itemsO p d) from I.hok p _ hp).1
  obtain ⟨lo, es, ep, ⟨o, ho, hx, hdt⟩, hes, hz, rows⟩ := items_raw I hi
  refine PySem.W.dil_call (es := es) (ep := ep) (I.ok.hd hc) view ⟨o, ho, hx, hdt⟩ (by omega) fun h' tk acc c as hk hS hl hG hacc => ?_
  have G : DT.Made es s.heap.objs.size h' as := ⟨hG.rise, hG.above, fun j a hj => by
    obtain ⟨hj', e⟩ := hG.pairs j a hj
    exact ⟨_, Array.getElem?_eq_getElem hj', e⟩⟩
  have nS : H s.heap.objs.size = none := I.hok.fresh (Nat.le_refl _)
  have I1 : Inv X pins σ (upd H s.heap.objs.size (.lst (as.map V.ref))) { s with heap := h', toks := tk } := I.laid (t' := tk) hk (Nat.le_refl _) ⟨by rw [List.length_map]; omega, acc.toList, c, by rw [hacc]; exact refsV as, by rw [Array.toArray_toList]; exact hS⟩
  obtain ⟨H2, I2, g, rv, ra⟩ := items_take (H1 := upd H s.heap.objs.size (.lst (as.map V.ref))) I I1 (fun b u e => by rw [upd_ne (ne_of_none e nS)]; exact e) (fun a ha => by rw [upd_ne (Nat.ne_of_gt (hG.above a ha))]; exact I.hok.fresh (Nat.le_of_lt (hG.above a ha))) (Nat.le_refl _) hl hes G rows
  exact ⟨.ref s.heap.objs.size, H2, I2, rfl, q _ _ H2 _ nS rfl g ra⟩
def rSortV (X : Cx) : List V → Hp → VK → Prop := fun vs H Q => ∃ (p d : Addr) (α : Type) (R : PRep α) (ds : List α), vs = [.ref p] ∧ H p = some (L2.DX.itemsO p d) ∧ ItemsR R H d ds ∧ R.dep ≤ 60 ∧ PySem.W.AllAlike (ds.map R.enc) ∧ PySem.W.Sortable (ds.map R.enc) ∧
  ∀ q H2 ys, (∀ b o, H b = some o → H2 b = some o) → H2 q = none → A2r R H2 ys (srt R ds) → Q (.ref q) (upd H2 q (.lst ys))
theorem cr_sortV (hc : X.calm = true) (hu : X.A.units + 100 < cLine) : CallR X (.builtin "sorted") (rSortV X) := by
  intro pins s σ H vs us Q I r h
  obtain ⟨p, d, α, R, ds, rfl, hp, hi, hd, hal, hk0, q⟩ := h
  obtain rfl := Vals.ref1 r
  have view : s.heap.IsItemsView p d := (show ObjOk X.prog X.w H s.heap p (L2.DX.itemsO p d) from I.hok p _ hp).1
  obtain ⟨lo, es, ep, raw, hes, hz, rows⟩ := items_raw I hi
  refine DT.sortedI (es := es) (ep := ep) (I.ok.hd hc) view raw (by omega) fun h' tk as hk hlt hl hG => ?_
  have I1 : Inv X pins σ H { s with heap := h', toks := tk } := I.kept hk
  obtain ⟨H2, I2, g, rv, ra⟩ := items_take (H1 := H) I I1 (fun _ _ e => e) (fun a ha => I.hok.fresh (Nat.le_of_lt (hG.above a ha))) (Nat.le_refl _) hl hes hG rows
  have hoL : (h'.push { cls := .type "list", data := .seq (as.map Value.ref).toArray }).get? h'.objs.size = some (seqObj "list" (as.map Value.ref).toArray 0) := Heap.get?_push_size _ rfl
  have I3 : Inv X pins σ H2 { s with heap := h'.push { cls := .type "list", data := .seq (as.map Value.ref).toArray }, toks := tk } := I2.kept (t' := tk) fun b o q => Heap.get?_push_of_some _ q
  have e := each_of rv ra
  refine PySem.W.list_sort_data (bs := ds) (enc := R.enc) hoL e (e.mono fun u d (q : ∃ x, RelV x u ∧ R.rel H2 x d) => ?_) hal hk0 (by omega) (fun b hb => by have := R.hdep b; show X.A.units + 1 + 1 + _ < _; omega) fun out ho' eo => ?_
  · obtain ⟨x, r1, r2⟩ := q
    obtain ⟨bs, hr⟩ := Dp.reads I2 _ x u (R.dp (K := X.K) r2) r1
    refine ⟨bs, PyProof.Rows.Reads.keeps (fun b o q => Heap.get?_push_of_some _ q) hr, fun hm => ?_⟩
    obtain ⟨oo, ho⟩ := PyProof.On.reads_mem_get hr _ hm
    exact Nat.lt_irrefl _ (Heap.lt_size ho)
  · obtain ⟨ys, h1, h2⟩ := of_each eo
    obtain ⟨e', he'⟩ := PyProof.Rows.sortedHeap_at (vs := as.map Value.ref) (out := out.toArray) hoL
    refine ⟨.ref h'.objs.size, upd H2 h'.objs.size (.lst ys), I2.laid (t' := tk) (fun b u e => ?_) (Nat.le_refl _) (show ObjOk X.prog X.w _ _ _ (.lst ys) from ⟨by rw [h1.length, ho']; omega, out, e', h1, he'⟩), rfl, q _ H2 ys g (I2.hok.fresh (Nat.le_refl _)) h2⟩
    have hb : b < h'.objs.size := Heap.lt_size e
    rw [PyProof.Rows.sortedHeap_old (Nat.ne_of_lt hb) (by rw [size_push']; exact Nat.lt_succ_of_lt hb)]
    exact Heap.get?_push_of_some _ e
/-- sorted by a key: of a list, of a dict's items -/
def rSortK (T : List (Addr × Str)) (X : Cx) : List V → List V → Hp → VK → Prop := fun vs zs H Q => ∃ (l q : Addr) (L : List SA) (α κ : Type) (R : PRep α) (S : PRep κ) (kf : α → κ) (ds : List α), vs = [.ref l] ∧ zs = [.ref q] ∧ Hs T L H ∧
  ((∃ xs, SqL X.K H l xs ∧ A2r R H xs ds) ∨ ∃ d, H l = some (L2.DX.itemsO l d) ∧ ItemsR R H d ds) ∧ PySem.W.AllAlike (ds.map fun d => S.enc (kf d)) ∧ PySem.W.Sortable (ds.map fun d => S.enc (kf d)) ∧ S.dep ≤ 60 ∧ (∀ σ, KeyTurn X σ X.A.in1.in1 (.ref q) T L R S kf ds) ∧
  ∀ p H3, Hs T (LstR R p (ds.mergeSort (PySem.W.dataLe false fun d => S.enc (kf d))) :: L) H3 → Q (.ref p) H3
theorem cr_sortK (hc : X.calm = true) (hu : X.A.units + 110 < cLine) : CallRK X (.builtin "sorted") [Str.ofString "key"] (rSortK T X) := by
  intro pins s σ H vs zs us ws Q I r rz h
  obtain ⟨l, q, L, α, κ, R, S, kf, ds, rfl, rfl, hs, hsrc, hal, hsk, hd, turn, k⟩ := h
  obtain rfl := Vals.ref1 r
  obtain rfl := Vals.ref1 rz
  rcases hsrc with ⟨xs, hl, hx⟩ | ⟨d, hp, hi⟩
  · exact sortedK_run I hs hl hx hal hsk hd hu (turn σ) k
  · have view : s.heap.IsItemsView l d := (show ObjOk X.prog X.w H s.heap l (L2.DX.itemsO l d) from I.hok l _ hp).1
    obtain ⟨lo, es, ep, raw, hes, hz, rows⟩ := items_raw I hi
    refine call_function_entry_kw kind_sorted plain_sorted entry_sorted (argsK1 _ _) ?_
    unfold Builtin.«sorted»
    refine wpAny_bind (m := checkCount "sorted" 1 1 _) (wpAny_pure ?_)
    refine wpAny_bind (DT.collectI (A := X.A.in1) (es := es) (ep := ep) (I.ok.hd hc) view raw (by omega) fun h' tk as hk hlt hl hG => ?_)
    have I1 : Inv X pins σ H { s with heap := h', toks := tk } := I.kept hk
    obtain ⟨H2, I2, g, rv, ra⟩ := items_take (H1 := H) I I1 (fun _ _ e => e) (fun a ha => I.hok.fresh (Nat.le_of_lt (hG.above a ha))) (Nat.le_refl _) hl hes hG rows
    refine wpAny_bind (wpAny_newList ?_ (by rw [List.length_map]; omega))
    have hoL : (h'.push (seqObj "list" (as.map Value.ref).toArray 0)).get? h'.objs.size = some (seqObj "list" (as.map Value.ref).toArray 0) := Heap.get?_push_size _ rfl
    have I3 : Inv X pins σ H2 { s with heap := h'.push (seqObj "list" (as.map Value.ref).toArray 0), toks := tk } := I2.kept (t' := tk) fun b o q => Heap.get?_push_of_some _ q
    refine wpAny_bind (wpAny_holding (wpAny_call_entry_kw slot_list_sort ⟨_, hoL, rfl⟩ entry_list_sort ?_ (argsK2 _ _)))
    show wpAny (model X.prog X.w) X.A.in1.in1 (Builtin.«list.sort» ⟨[.ref h'.objs.size], [(Str.ofString "key", .ref q)]⟩) _ _ { s with heap := h'.push (seqObj "list" (as.map Value.ref).toArray 0), toks := tk }
    rw [ksk_t1]
    refine keyI_tree (R := R) (S := S) (kf := kf) (ds := ds) (xs := as.map V.ref) (us := as.map Value.ref) (L := L) I3 ((hs.ext g).addP keyB_pers ⟨ra, .nil⟩) hoL (I2.fpOk (Nat.le_refl _) (I2.hok.fresh (Nat.le_refl _))) rv (by rw [List.length_map]; omega) hz hal hsk hd (by show X.A.units + 1 + 1 + 100 < _; omega) (turn σ) fun s3 H3 J h3 => ⟨.none, rfl, ?_⟩
    exact wpAny_pure ⟨_, rfl, .ref _, H3, J, rfl, k _ _ h3⟩
end
end SW
set_option Elab.async false
set_option linter.all false
set_option maxRecDepth 100000
set_option maxHeartbeats 1000000
/-! Sw43: rows: items(), list and sorted of them, sorted by a key; texts in order; reversed; except .. as. -/
namespace SW
open PySem PySem.Spec
open L2 hiding Apart GC GK GS GSs gs_while gss_cons gss_nil
open PyProof.Rows hiding St
section
variable {T : List (Addr × Str)} {X : Cx} {σ : St} {L L' R' : List SA} {K : GK} {e fe : Expr} {apos cpos pos p : Pos} {α κ : Type} {R : PRep α} {S : PRep κ} {d q : Addr} {ds : List α} {n : Nat}
def ItemsL (T : List (Addr × Str)) (L : List SA) (R : PRep α) (d : Addr) (ds : List α) : Prop := ∀ H, Hs T L H → ItemsR R H d ds
theorem ge_items (hb : attributeBase e "items" X.env (eval e X.env) = eval e X.env) (hline : (apos.endLine == cpos.line) = true)
    (h : GE T X e σ L fun v L1 => ∃ (d : Addr) (α : Type) (R : PRep α) (ds : List α), v = .ref d ∧ ItemsL T L1 R d ds ∧ ∀ p, K (.ref p) (pt p (L2.DX.itemsO p d) :: L1)) : GE T X (.Call (.Attribute e "items" apos) [] [] cpos) σ L K :=
  GE.of (pe_bm0 PySem.F.plainAttrs_dict PySem.F.slot_dict_items PySem.F.type_dict_items mt_itemsG peW hb hline) fun H hh Q q => h H hh _ fun v L1 H1 ⟨d, α, R, ds, ev, hi, k⟩ h1 => by
    subst ev
    have hit := hi H1 h1
    refine ⟨.inr (.inr (.inl ⟨rfl, ?_⟩)), d, α, R, ds, rfl, rfl, hit, fun p hp => q _ _ _ (k p) (h1.new hp fun _ => nofun)⟩
    rcases hit with ⟨kvs, e1, _⟩ | ⟨kvs, e1, _⟩
    · exact .inl ⟨kvs, e1⟩
    · exact .inr ⟨kvs, e1⟩
theorem itemsL_tail {A : SA} (h : ItemsL T L R d ds) : ItemsL T (A :: L) R d ds := fun H hs => h H hs.tail
theorem gc_listV (hc : X.calm = true) (s : Sel L (pt q (L2.DX.itemsO q d)) R') (hi : ItemsL T L R d ds) (k : ∀ p, K (.ref p) (LstR R p ds :: L)) : GC T X (.type "list") [.ref q] L K :=
  GC.of (cr_listV hc) fun H hs Q qq => ⟨q, d, α, R, ds, rfl, hs.at s, hi H hs, fun p H1 H2 ys hp e1 g ra => by
    subst e1
    refine qq _ _ _ (k p) ?_
    have h1 : Hs T (pt p (.lst ys) :: L) (upd H p (.lst ys)) := hs.new hp fun _ => nofun
    exact (h1.ext g).packR ra⟩
theorem gc_sortV (hc : X.calm = true) (hr : Room n X.A) (s : Sel L (pt q (L2.DX.itemsO q d)) R') (hi : ItemsL T L R d ds) (hd : R.dep ≤ 60) (hal : PySem.W.AllAlike (ds.map R.enc)) (hk : PySem.W.Sortable (ds.map R.enc)) (k : ∀ p, K (.ref p) (LstR R p (srt R ds) :: L)) : GC T X (.builtin "sorted") [.ref q] L K :=
  GC.of (cr_sortV hc (by have := hr.un; omega)) fun H hs Q qq => ⟨q, d, α, R, ds, rfl, hs.at s, hi H hs, hd, hal, hk, fun p H2 ys g hp ra => qq _ _ _ (k p) ((hs.ext g).newR hp ra)⟩
/-- what a key's def gives -/
theorem turn_fn {x : Str} {k : Nat} {Sp : SpL} {kf : α → κ} (F : FnAt T X.prog X.w X.K X.mg X.base k x Sp) (hr : Room (k + 2) X.A)
    (h : ∀ (B : SA) (v : V) (d : α) (KK : GK) (kx : KX), d ∈ ds → (∀ y, KK y (Val S y (kf d) :: B :: L)) → spE T Sp [v] (Val R v d :: B :: L) KK kx) : ∀ σ, KeyTurn X σ X.A.in1.in1 (.ref (He.ga X.K x)) T L R S kf ds := by
  intro σ B pins s H x2 u d hd I rx hs
  obtain ⟨fd, ps, F1, hb⟩ := F.ex
  obtain ⟨L', e1, sp⟩ := h B x2 d (fun y L' => L' = Val S y (kf d) :: B :: L) kx0 hd fun y => rfl
  have hsp : spOf T Sp [x2] H (fun y H2 => Hs T (Val S y (kf d) :: B :: L) H2) (fun _ _ _ => False) := ⟨L', _, _, e1 H hs, sp, fun v L' H' e h => by subst e; exact h, fun cls d L' H' k _ => k⟩
  have hl : ([u] ++ []).length = ps.length := by rw [List.append_nil]; exact F1.len [x2] H _ _ hsp
  refine wpAny_call (codeAny_mono (F1.run X.A.in1.in1 X.stack s H ⟨[u], []⟩ ([u] ++ []) [x2] (fun y H2 => Hs T (Val S y (kf d) :: B :: L) H2) (fun _ _ _ => False) (Room.in1 (Room.in1 hr)) I.env0.in1.in1 (hb s [u] I.kIn hl) (.cons rx .nil) hsp) fun r s' hq => ?_)
  cases r with
  | error e =>
    obtain ⟨_, _, _, _, _, _, _, _, _, _, _, _, hE⟩ := hq
    exact hE
  | ok fl =>
    cases fl with
    | ret u => exact I.after hq
    | next => exact False.elim hq
    | brk => exact False.elim hq
    | cont => exact False.elim hq
/-- what a key sorts -/
inductive SortSrc (T : List (Addr × Str)) (X : Cx) (L : List SA) (l : Addr) (R : PRep α) (ds : List α) : Prop
  | lst {R0 : List SA} (s : Sel L (LstR R l ds) R0)
  | itm {R0 : List SA} {d : Addr} (s : Sel L (pt l (L2.DX.itemsO l d)) R0) (i : ItemsL T L R d ds)
theorem ge_sortK {N : List Str} {ks : List (Str × NameKind)} {kp : Pos} (nm : Nm X N ks) (hkd : Kd ks "sorted" .globalImplicit) (hm : X.mg "sorted" = none) (hc : X.calm = true) (hr : Room n X.A)
    (hst : starEach [e] X.env = (false, eval e X.env) :: starEach [] X.env) (he : backTo pos (starEach [e] X.env) = (false, eval e X.env) :: backTo pos (starEach [] X.env)) (hpl : (backTo pos (starEach [e] X.env)).any (·.1) = false)
    (hall : (backToKw pos (keywordEach [⟨some "key", fe, kp⟩] X.env)).all (·.1.isSome) = true) (hnone : (backToKw pos (keywordEach [⟨some "key", fe, kp⟩] X.env)).any (·.1.isNone) = false) (hks : (backToKw pos (keywordEach [⟨some "key", fe, kp⟩] X.env)).filterMap (·.1) = [Str.ofString "key"])
    (h : GE T X e σ L fun v L1 => GE T X fe σ L1 fun w L2 => ∃ (l q : Addr) (α κ : Type) (R : PRep α) (S : PRep κ) (kf : α → κ) (ds : List α), v = .ref l ∧ w = .ref q ∧ SortSrc T X L2 l R ds ∧ PySem.W.AllAlike (ds.map fun d => S.enc (kf d)) ∧ PySem.W.Sortable (ds.map fun d => S.enc (kf d)) ∧ S.dep ≤ 60 ∧
      (∀ σ, KeyTurn X σ X.A.in1.in1 (.ref q) T L2 R S kf ds) ∧ ∀ p, K (.ref p) (LstR R p (ds.mergeSort (PySem.W.dataLe false fun d => S.enc (kf d))) :: L2)) :
    GE T X (.Call (.Name "sorted" p) [e] [⟨some "key", fe, kp⟩] pos) σ L K := by
  have hpe := pe_callBK (x := "sorted") (p := p) (cr_sortK (T := T) (X := X) hc (by have := hr.un; omega)) (nm.gl hkd) hm rfl (pa_cons (e := e) (es := []) peW pa_nil hst) (pk_cons (nm := some "key") (kpos := kp) (peW (e := fe)) pk_nil) (by decide) rfl he hpl hall hnone hks
  refine GE.of hpe fun H hs Q q => ?_
  refine h H hs _ fun v L1 H1 k1 h1 => ?_
  refine k1 H1 h1 _ fun w L2 H2 ⟨l, qq, α, κ, R, S, kf, ds, ev, ew, src, hal, hsk, hd, turn, k⟩ h2 => ?_
  subst ev ew
  refine ⟨l, qq, L2, α, κ, R, S, kf, ds, rfl, rfl, h2, ?_, hal, hsk, hd, turn, fun p H3 h3 => q _ _ _ (k p) h3⟩
  cases src with
  | lst s =>
    obtain ⟨xs, e1, ra⟩ := h2.atR s
    exact .inl ⟨xs, SqL.of e1, ra⟩
  | itm s i => exact .inr ⟨_, h2.at s, i H2 h2⟩
/-! ### texts in order -/
def ltS (i j : Str) : Bool := decide (i.cps.toList < j.cps.toList)
theorem go_ltS {i j : Str} (k : K (.bl (ltS i j)) L) : GOp T X (compareOp .Lt) (.str i) (.str j) L K := GOp.of op_lt_str fun H hs Q q => ⟨i, j, rfl, rfl, q _ _ _ k hs⟩
theorem go_leS {i j : Str} (k : K (.bl (!ltS j i)) L) : GOp T X (compareOp .LtE) (.str i) (.str j) L K := GOp.of op_le_str fun H hs Q q => ⟨i, j, rfl, rfl, q _ _ _ k hs⟩
theorem go_gtS {i j : Str} (k : K (.bl (ltS j i)) L) : GOp T X (compareOp .Gt) (.str i) (.str j) L K := GOp.of op_gt_str fun H hs Q q => ⟨i, j, rfl, rfl, q _ _ _ k hs⟩
theorem go_geS {i j : Str} (k : K (.bl (!ltS i j)) L) : GOp T X (compareOp .GtE) (.str i) (.str j) L K := GOp.of op_ge_str fun H hs Q q => ⟨i, j, rfl, rfl, q _ _ _ k hs⟩
end
/-! ### reversed -/
section
variable {T : List (Addr × Str)} {X : Cx} {σ : St} {L R' : List SA} {K : KI} {tg e : Expr} {α : Type} {R : PRep α} {p pos : Pos}
theorem git_Rev (R : PRep α) (hg : Gl X "reversed") (hm : X.mg "reversed" = none) (hst : starEach [e] X.env = [(false, eval e X.env)])
    (h : GA T X [e] σ L fun vs L1 => ∃ l ds, vs = [.ref l] ∧ (∃ R0, Sel L1 (LstR R l ds) R0) ∧ K ds.length (fun i x Lx => ∃ d, ds[ds.length - 1 - i]? = some d ∧ Lx = [Val R x d]) (fun L' => ∃ R0, Sel L' (LstR R l ds) R0) L1) : GIt T X tg (.Call (.Name "reversed" p) [e] [] pos) σ L K :=
  ⟨_, pi_reversed hg hm paW hst, fun H hs Q r => h H hs _ fun vs L1 H1 ⟨l, ds, ev, ⟨R1, s1⟩, k⟩ h1 => by
    obtain ⟨xs1, e1, a1⟩ := h1.atR s1
    have hl1 := a1.length
    refine ⟨l, xs1, ev, SqL.of e1, r _ _ _ _ _ L1 ⟨fun L H ⟨R0, s⟩ h => ?_, fun i L H hi ⟨R0, s⟩ h => ?_, fun i L H x H' hi ⟨R0, s⟩ h ⟨e, y⟩ => ?_⟩ h1 k⟩
    · exact Nat.le_of_eq hl1
    · obtain ⟨xs, e, a⟩ := h.atR s
      have : xs1.length - 1 - i < xs.length := by rw [a.length]; omega
      exact ⟨by omega, xs, xs[xs1.length - 1 - i], SqL.of e, by simp [this]⟩
    · obtain ⟨xs, e2, a⟩ := h.atR s
      subst e
      obtain ⟨d, hd, rr⟩ := a.get' (y xs (SqL.of e2))
      exact ⟨_, ⟨d, by rw [← hl1]; exact hd, rfl⟩, h.addP Val.pers rr⟩⟩
end
/-! ### try: body except x as e: suite -/
section
variable {T : List (Addr × Str)} {X : Cx} {σ : St} {L : List SA} {D : EndsL} {N : List Str} {ks : List (Str × NameKind)} {x nn : Str} {i : Nat} {kx : KX} {pos np pos' : Pos} {body suite : List Stmt} {b0 : Stmt}
def AsEnds (D : EndsL) (i : Nat) : EndsL := { nx := fun σ' L' => D.nx (σ'.set i none) L', rt := D.rt, bk := fun σ' L' => D.bk (σ'.set i none) L', ct := fun σ' L' => D.ct (σ'.set i none) L' }
theorem gs_tryA (n : Nm X N ks) (h : Kd ks x .globalImplicit) (hv : Kd ks nn .local) (hi : N[i]? = some nn) (hs : X.stack = X.env :: X.outer) (hf : X.env.frame = some X.env.locals) (hd : dbg x = false) (gl : X.mg x = some (.ref (He.ga X.K x))) (hx : Xok T X kx)
    (hb : ∀ pn xe, Nm (X.tr pn xe) N ks → PassesOwn (model (X.tr pn xe).prog (X.tr pn xe).w) (X.tr pn xe).A (X.tr pn xe).env (X.tr pn xe).xe → XokS T (X.tr pn xe) (fun cls d σ' L' => ∃ b, PySem.W.exmOne X.K cls (.ref (He.ga X.K x)) = some b ∧
      (b = true → ∀ a oe pn', Zc cls d oe → (∃ vs, oe.data = .fields vs) → Nm (X.suite a ((a, oe) :: pn')) N ks → GSs T (X.suite a ((a, oe) :: pn')) (b0 :: suite) (AsEnds D i) (σ'.set i (some (.ref a))) L') ∧ (b = false → kx cls d L')) → GSs T (X.tr pn xe) body D σ L) :
    GS T X (.Try body [.ExceptHandler (some (.Name x np)) (some nn) (b0 :: suite) pos'] [] [] pos) D σ L := by
  obtain ⟨Wout, tk, hW⟩ := hx
  refine GS.of (ps_try_as (tb := fun W D σ H => ∀ pn xe, Takes (X.tr pn xe) W → PassesOwn (model (X.tr pn xe).prog (X.tr pn xe).w) (X.tr pn xe).A (X.tr pn xe).env (X.tr pn xe).xe → ssW (X.tr pn xe) body D σ H)
    (ts := fun a cls d D σ H => ∀ oe pn', Zc cls d oe → (∃ vs, oe.data = .fields vs) → ssW (X.suite a ((a, oe) :: pn')) (b0 :: suite) D σ H) hs hf (by rw [n.nn]; exact n.nd) (by rw [n.nn]; exact hi) (n.look hv) ⟨n.gl h, dbg1 hd, .inl gl⟩ tk
    (fun W pn xe tk hp => ⟨fun pins s σ H D I h => h pn xe tk hp pins s I⟩) (fun a oe cls d pn hz hff => ⟨fun pins s σ H D I h => h oe pn hz hff pins s I⟩)) fun H hh D0 le => ?_
  intro pn xe tk2 hp
  refine hb pn xe ⟨n.nn, n.kk, n.nd, n.kd⟩ hp ⟨_, tk2, fun cls d σ' L' H' ⟨b, e1, e2, e3⟩ h' => ⟨b, e1, fun z a ha => ?_, fun z => hW _ _ _ _ _ (e3 z) h'⟩⟩ H hh D0 le
  intro oe pn' hz hff
  exact e2 z a oe pn' hz hff ⟨n.nn, n.kk, n.nd, n.kd⟩ H' h' _ ⟨fun σ2 L2 H2 k h2 => le.nx _ _ _ k h2, le.rt, fun σ2 L2 H2 k h2 => le.bk _ _ _ k h2, fun σ2 L2 H2 k h2 => le.ct _ _ _ k h2⟩
/-- e.f of what was caught -/
theorem ge_xf {a C dd : Addr} {oe : Obj} {cls : Value} {d : Option Addr} {pn : List (Addr × Obj)} {e : Expr} {f : Str} {fs : List (Str × V)} {v : V} {R : List SA} {K : GK} (t : XfC X.K C) (hno : PySem.W.findIn X.K (.ref C) f = some none) (hz : Zc cls d oe) (hf : ∃ vs, oe.data = .fields vs) (hb : attributeBase e f X.env (eval e X.env) = eval e X.env)
    (ec : cls = .ref C) (ed : d = some dd) (s : Sel L (pt dd (.xd fs)) R) (hl : fs.lookup f = some v) (k : K v L) (he : ∀ KK : GK, KK (.ref a) L → GE T (X.suite a ((a, oe) :: pn)) e σ L KK) : GE T (X.suite a ((a, oe) :: pn)) (.Attribute e f pos) σ L K :=
  GE.of (pe_xf (X := X) t hno hz hf peW hb) fun H hs Q q => he (fun v L' => v = .ref a ∧ L' = L) ⟨rfl, rfl⟩ H hs _ fun x L1 H1 ⟨ex, eL⟩ h1 => by
    subst eL
    exact ⟨ex, ec, dd, fs, v, ed, h1.at s, hl, q _ _ _ k h1⟩
end
end SW
set_option Elab.async false
set_option linter.all false
set_option maxRecDepth 100000
set_option maxHeartbeats 1000000
/-! Sw44: branches that join. -/
namespace SW
open PySem PySem.Spec
open L2 hiding Apart GC GK GS GSs gs_while gss_cons gss_nil
open PyProof.Rows hiding St
theorem gs_jn {T : List (Addr × Str)} {X : Cx} {st : Stmt} {D : EndsL} {σ : St} {L : List SA} (J : St → List SA → Prop) (h : GS T X st { nx := J, rt := D.rt, bk := D.bk, ct := D.ct } σ L) (k : ∀ σ' L', J σ' L' → D.nx σ' L') : GS T X st D σ L :=
  fun H hs D0 le => h H hs D0 ⟨fun σ' L' H' j hh => le.nx _ _ _ (k _ _ j) hh, le.rt, le.bk, le.ct⟩
end SW
set_option Elab.async false
set_option linter.all false
set_option maxRecDepth 100000
set_option maxHeartbeats 1000000
/-! Sw54: setdefault, pop(k), sorted of dicts keyed by ints, update of dicts keyed by tuples. -/
namespace SW
open PySem PySem.Spec
open L2 hiding Apart GC GK GS GSs gs_while gss_cons gss_nil
open PyProof.Rows hiding St
def mergeT (kvs more : List (List Key × V)) : List (List Key × V) := more.foldl (fun acc kv => putK acc kv.1 kv.2) kvs
theorem kt_merge {H : Hp} : ∀ {more kvs : List (List Key × V)} {ys xs : List (List Key × Addr × Value)}, KT H more ys → KT H kvs xs → KT H (mergeT kvs more) (storedAllH xs ys)
  | _, _, _, _, .nil, h => h
  | _, _, _, _, .cons (a := p) (b := q) ⟨e, hb, rv⟩ t, h => by
    show KT _ (mergeT (putK _ p.1 p.2) _) (storedAllH (storedH _ q.1 q.2.1 q.2.2) _)
    rw [← e]
    exact kt_merge t (h.put p.1 hb rv)
section
variable {X : Cx}
def rUpdT : V → List V → Hp → VK → Prop := fun x xs H Q => ∃ (a b : Addr) (kvs more : List (List Key × V)), x = .ref a ∧ xs = [.ref b] ∧ a ≠ b ∧ H a = some (.dT kvs) ∧ H b = some (.dT more) ∧ (kvs ≠ [] ∨ more.length ≤ 1) ∧ kvs.length + more.length ≤ sizeLine ∧ Q .non (upd H a (.dT (mergeT kvs more)))
theorem mt_updT (hu : X.A.units + 1 < cLine) : MtR X "dict.update" rUpdT := by
  intro pins s σ H x xs v us Q I rx rxs h
  obtain ⟨a, b, kvs, more, rfl, rfl, hab, ha, hb, hh, hz, q⟩ := h
  cases rx
  obtain ⟨u1, rfl, r1⟩ := vals1 rxs
  cases r1
  obtain ⟨z, hd, xs', rel, dd⟩ := dt_of I.hok ha
  obtain ⟨z2, hd2, ys', rel2, dd2⟩ := dt_of I.hok hb
  have l1 : kvs.length = xs'.length := Paired.length rel
  have l2 : more.length = ys'.length := Paired.length rel2
  have rm := kt_merge rel2 rel
  refine call_update_dictH (knd := tupleKind (mixKind X.prog X.w)) (tupleKind_room_in1 hu) hab hd2 dd dd2 ?_ (by rw [← l1, ← l2]; exact hz) fun h' dd' _ hs => ?_
  · rcases hh with hh | hh
    · refine .inl fun e => ?_
      subst e
      rw [List.length_nil] at l1
      exact hh (List.length_eq_zero_iff.mp l1)
    · refine .inr ⟨fun x hx => tupleKind_stays.tuple (dd2.choose_spec.choose_spec.choose_spec.2.2.2.2.1 x hx), ?_⟩
      match ys', l2 with
      | [], _ => exact List.nodup_nil
      | [y], _ => simp
      | _ :: _ :: _, l2 => simp at l2; omega
  · obtain ⟨o, es, ep, hq, h2, h3, h4, _, h5⟩ := dd'
    have lm : (mergeT kvs more).length ≤ sizeLine := by
      have e : (mergeT kvs more).length = (storedAllH xs' ys').length := Paired.length rm
      have := storedAllH_length ys' xs'
      omega
    exact ⟨.non, _, d_write (ob := .dT (mergeT kvs more)) (t' := s.toks) I (by rw [ha]; exact True.intro) hs ⟨o, hq⟩ ⟨lm, hd, _, rm.keeps fun c ys ec => (by rw [upd_ne (ne_of ec ha (fun z => nomatch z))]; exact ec), o, es, ep, hq, h2, h3, h4, h5⟩, rfl, q⟩
end
section
variable {T : List (Addr × Str)} {X : Cx} {σ : St} {L L' R' : List SA} {K : GK} {apos cpos : Pos} {o e f : Expr} {es : List Expr} {a b : Addr} {n : Nat}
def GSetD (T : List (Addr × Str)) (a : Addr) (y z : V) (L : List SA) (K : GK) : Prop := ∃ (kvs : List (Key × V)) (k : Key) (L' : List SA), Rpl L (pt a (.dK kvs)) (pt a (.dK (putK kvs k z))) L' ∧ y = kV k ∧ kvs.length < sizeLine ∧ (∀ v, valV kvs k = some v → K v L) ∧ (valV kvs k = none → K z L')
theorem gsetd {kvs : List (Key × V)} {k : Key} {y z : V} (r : Rpl L (pt a (.dK kvs)) (pt a (.dK (putK kvs k z))) L') (ey : y = kV k) (hz : kvs.length < sizeLine) (h1 : ∀ v, valV kvs k = some v → K v L) (h2 : valV kvs k = none → K z L') : GSetD T a y z L K := ⟨kvs, k, L', r, ey, hz, h1, h2⟩
theorem ge_setdef (m : M2 X o "setdefault" apos e f cpos) (h : GE T X o σ L fun x L1 => ∃ a, x = .ref a ∧ HasDD T L1 a ∧ GE T X e σ L1 fun y L2 => GE T X f σ L2 fun z L3 => GSetD T a y z L3 K) : GE T X (.Call (.Attribute o "setdefault" apos) [e, f] [] cpos) σ L K :=
  GE.of (pe_dsetd peW peW peW m) fun H hh Q q => h H hh _ fun x L1 H1 ⟨a, ex, hd, h2⟩ hs1 => ⟨a, ex, hd H1 hs1, h2 H1 hs1 _ fun y L2 H2 h3 hs2 => h3 H2 hs2 _ fun z L3 H3 ⟨kvs, k, L', r, ey, hz, k1, k2⟩ hs3 => by
    obtain ⟨R, s⟩ := r.sel
    exact ⟨kvs, k, hs3.at s, ey, hz, fun v hv => q _ _ _ (k1 v hv) hs3, fun hv => q _ _ _ (k2 hv) (hs3.rpl r True.intro (fun _ => nofun))⟩⟩
def GDPop1 (a : Addr) (y : V) (L : List SA) (K : GK) : Prop := ∃ (kvs : List (Key × V)) (k : Key) (v : V) (L' : List SA), Rpl L (pt a (.dK kvs)) (pt a (.dK (dropK kvs k))) L' ∧ y = kV k ∧ valV kvs k = some v ∧ K v L'
theorem gdpop1 {kvs : List (Key × V)} {k : Key} {y v : V} (r : Rpl L (pt a (.dK kvs)) (pt a (.dK (dropK kvs k))) L') (ey : y = kV k) (ev : valV kvs k = some v) (h : K v L') : GDPop1 a y L K := ⟨kvs, k, v, L', r, ey, ev, h⟩
theorem ge_dpop1 (m : M1 X o "pop" apos e cpos) (h : GE T X o σ L fun x L1 => ∃ a, x = .ref a ∧ HasDD T L1 a ∧ GE T X e σ L1 fun y L2 => GDPop1 a y L2 K) : GE T X (.Call (.Attribute o "pop" apos) [e] [] cpos) σ L K :=
  GE.of (pe_dpop1 peW peW m) fun H hh Q q => h H hh _ fun x L1 H1 ⟨a, ex, hd, h2⟩ hs1 => ⟨a, ex, hd H1 hs1, h2 H1 hs1 _ fun y L2 H2 ⟨kvs, k, v, L', r, ey, ev, k1⟩ hs2 => by
    obtain ⟨R, s⟩ := r.sel
    exact ⟨kvs, k, v, hs2.at s, ey, ev, q _ _ _ k1 (hs2.rpl r True.intro (fun _ => nofun))⟩⟩
theorem gc_sortedDI {kvs : List (Key × V)} {ks : List Int} (hc : X.calm = true) (s : Sel L (pt a (.dK kvs)) R') (e : kvs.map (·.1) = ks.map Sum.inl) (hz : ks.length < 64) (k : ∀ (ys : List Int) (p : Addr), ys.Perm ks → ys.Pairwise (· ≤ ·) → K (.ref p) (pt p (.lst (ys.map V.int)) :: L)) : GC T X (.builtin "sorted") [.ref a] L K :=
  GC.of (call_sortedDI hc) fun H hs Q q => ⟨a, kvs, ks, rfl, .inl (hs.at s), e, hz, fun ys p h1 h2 hp => q _ _ _ (k ys p h1 h2) (hs.new hp fun _ => nofun)⟩
/-- d.update(d2), keys that are tuples -/
def GUpdT (v w : V) (L : List SA) (K : GK) : Prop := ∃ (a b : Addr) (kvs more : List (List Key × V)) (R' L' : List SA), v = .ref a ∧ w = .ref b ∧ Tk L [pt a (.dT kvs), pt b (.dT more)] R' ∧ Rpl L (pt a (.dT kvs)) (pt a (.dT (mergeT kvs more))) L' ∧ (kvs ≠ [] ∨ more.length ≤ 1) ∧ kvs.length + more.length ≤ sizeLine ∧ K .non L'
theorem pt_ne {H : Hp} {o o' : HO} (hs : Hs T L H) {R1 : List SA} (s : Tk L [pt a o, pt b o'] R1) (h : Wr o) : a ≠ b := by
  intro e
  subst e
  have h2 := (hs.take s).pcs
  obtain ⟨ps, h1, q, _⟩ := h2
  cases h1 with
  | @cons _ f _ m r t =>
    cases t with
    | @cons _ g _ m2 r2 t2 =>
      have q1 := (List.pairwise_cons.mp q).1 g List.mem_cons_self
      have ga : f a = some o := r
      have gb : g a = some o' := r2
      have hp := hs.take s
      have e1 : H a = some o := (show Hs T (pt a o :: _) H from hp).get
      have e2 : H a = some o' := (show Hs T (pt a o' :: _) H from hp.tail).get
      rw [e1] at e2
      cases e2
      obtain ⟨xs, ex⟩ := q1 a o ga gb
      subst ex
      exact h
theorem ge_updT (hr : Room n X.A) (hbase : attributeBase o "update" X.env (eval o X.env) = eval o X.env)
    (hfew : ((backTo cpos (starEach [e] X.env)).all (fun x => !x.1) && (backToKw cpos (keywordEach [] X.env)).all (fun x => x.1.isSome)
      && decide (([e] : List Expr).length + ([] : List Keyword).length + (if ([] : List Keyword).isEmpty then 0 else 1) < 30)) = true)
    (hline : (apos.endLine == cpos.line) = true) (hst : starEach [e] X.env = (false, eval e X.env) :: starEach [] X.env) (hplain : (backTo cpos (starEach [] X.env)).any (·.1) = false)
    (h : GE T X o σ L fun x L1 => (∃ a, x = .ref a ∧ ∀ H, Hs T L1 H → ∃ kvs, H a = some (.dT kvs)) ∧ GE T X e σ L1 fun y L2 => GUpdT x y L2 K) : GE T X (.Call (.Attribute o "update" apos) [e] [] cpos) σ L K :=
  GE.of (pe_bm PySem.F.plainAttrs_dict PySem.F.slot_dict_update PySem.F.type_dict_update (mt_updT (X := X) (by have := hr.un; omega)) peW (paW (es := [e])) hbase hfew hline hst hplain) fun H hh Q q => h H hh _ fun x L1 H1 ⟨⟨a0, ex, hd⟩, h2⟩ hs1 => by
    subst ex
    refine ⟨.inr (.inr (.inl ⟨rfl, .inr (hd H1 hs1)⟩)), ?_⟩
    have h3 : GA T X [e] σ L1 fun ys L2 => ∃ y, ys = [y] ∧ GUpdT (.ref a0) y L2 K := ga_cons hst (h2.mono fun y L2 g => ga_nil ⟨y, rfl, g⟩)
    refine h3 H1 hs1 _ fun ys L2 H2 ⟨y, ey, a, b, kvs, more, R', L', e1, e2, s, r, g1, g2, k⟩ hs2 => ?_
    subst ey
    obtain ⟨R, s1⟩ := r.sel
    have hb : H2 b = some (.dT more) := (show Hs T (pt b (.dT more) :: _) H2 from (show Hs T (pt a (.dT kvs) :: _) H2 from hs2.take s).tail).get
    exact ⟨a, b, kvs, more, e1, by rw [e2], pt_ne hs2 s True.intro, hs2.at s1, hb, g1, g2, q _ _ _ k (hs2.rpl r True.intro (fun _ => nofun))⟩
end
end SW
set_option Elab.async false
set_option linter.all false
set_option maxRecDepth 100000
set_option maxHeartbeats 1000000
/-! Sw55: items of tuples from the end; lists unpacked; members of mixed lists; [x] * b. -/
namespace SW
open PySem PySem.Spec
open L2 hiding Apart GC GK GS GSs gs_while gss_cons gss_nil
open PyProof.Rows hiding St
section
variable {T : List (Addr × Str)} {X : Cx} {σ : St} {L R' : List SA} {K : GK} {α : Type} {R : PRep α} {v x : V} {a p : Addr}
theorem gi_tli {ds : List α} {i : Int} {d : α} (r : Rv T L v (rTl R) ds) (e : atI ds i = some d) (k : ∀ x, K x (Val R x d :: L)) : GIx T X v (.int i) L K := by
  intro H hs Q q
  obtain ⟨a, xs, rfl, ex, ax⟩ := r H hs
  obtain ⟨n, h2, h3⟩ := atI_len (xs := xs) ax.length e
  obtain ⟨x, hx, rx⟩ := ax.get h2
  intro value slice pins s' σ v u I rx' ry z
  exact ix_tup value slice pins s' σ H (.ref a) (.int i) v u Q I rx' ry ⟨a, xs, i, x, rfl, rfl, SqT.of ex, h3 x hx, q _ _ _ (k x) (hs.addP Val.pers rx)⟩ z
/-- a, b, .. = a list -/
theorem gg_lst {es : List Expr} {k : Nat} {p : Pos} {xs : List V} {K : St → List SA → Prop} (hc : X.calm = true) (hn : (assignEach es X.env).length = xs.length) (hst : (assignEach es X.env).findIdx? (·.1) = none)
    (f : ∀ H, Hs T L H → H a = some (.lst xs)) (h : GGs T X es xs σ L K) : GG T X (.Tuple es k p) (.ref a) σ L K :=
  GG.of (pg_unl hc pgsW hn hst) fun H hs Q q => ⟨a, xs, rfl, SqL.of (f H hs), rfl, h H hs Q q⟩
theorem go_inFl {xs : List V} {b : Bool} (s : Sel L (pt p (.lst xs)) R') (h1 : flatV x = true) (h2 : xs.all flatV = true) (e : inV x xs = b) (q : K (.bl b) L) : GOp T X (compareOp .In) x (.ref p) L K :=
  GOp.of op_in_seq fun H hs Q q' => ⟨p, xs, rfl, .inl (SqL.of (hs.at s)), h1, h2, q' _ _ _ (by simpa [e] using q) hs⟩
theorem go_ninFl {xs : List V} {b : Bool} (s : Sel L (pt p (.lst xs)) R') (h1 : flatV x = true) (h2 : xs.all flatV = true) (e : inV x xs = b) (q : K (.bl (!b)) L) : GOp T X (compareOp .NotIn) x (.ref p) L K :=
  GOp.of op_notIn_seq fun H hs Q q' => ⟨p, xs, rfl, .inl (SqL.of (hs.at s)), h1, h2, q' _ _ _ (by simpa [e] using q) hs⟩
end
end SW
set_option Elab.async false
set_option linter.all false
set_option maxRecDepth 100000
set_option maxHeartbeats 800000
/-! K08p: logs, plain. -/
namespace K08
open PySem
--BEGIN
abbrev Rec := Int × Int × Option Str × Option Str
abbrev PD := Int × List Rec
def fl (ps : List PD) : List Rec := ps.flatMap (·.2)
structure LS where
  piece : Int
  start : Int
  fin : Int
  ps : List PD
structure LInv (n : Nat) (S : LS) : Prop where
  ne : S.ps ≠ []
  pw : S.ps.Pairwise fun a b => a.1 < b.1 ∧ ∀ r ∈ a.2, r.1 < b.1
  lo : ∀ p ∈ S.ps, 0 ≤ p.1 ∧ p.1 ≤ S.fin ∧ ∀ r ∈ p.2, p.1 ≤ r.1 ∧ S.start ≤ r.1 ∧ r.1 < S.fin
  s0 : 0 ≤ S.start
  se : S.start ≤ S.fin
  pc : 1 ≤ S.piece
  zr : (fl S.ps).length ≤ n
  zp : S.ps.length ≤ n + 1
  zn : n ≤ 1000
theorem fl_app (a b : List PD) : fl (a ++ b) = fl a ++ fl b := by simp [fl]
theorem fl_one (p : PD) : fl [p] = p.2 := by simp [fl]
theorem fl_cons (p : PD) (b : List PD) : fl (p :: b) = p.2 ++ fl b := by simp [fl]
theorem mem_fl {r : Rec} {ps : List PD} : r ∈ fl ps ↔ ∃ p ∈ ps, r ∈ p.2 := by simp [fl]
theorem inv_new {pc : Int} (h : 1 ≤ pc) : LInv 0 ⟨pc, 0, 0, [(0, [])]⟩ := ⟨by simp, by simp, by simp, by simp, by simp, h, by simp [fl], by simp, by omega⟩
/-- a new piece -/
theorem inv_put1 {n : Nat} {S : LS} {A : List PD} {f : Int} {row : List Rec} {r : Rec} (h : LInv n S) (e : S.ps = A ++ [(f, row)]) (hr : row ≠ []) (e1 : r.1 = S.fin) (hn : n < 1000) :
    LInv (n + 1) ⟨S.piece, S.start, S.fin + 1, S.ps ++ [(S.fin, [r])]⟩ ∧ fl (S.ps ++ [(S.fin, [r])]) = fl S.ps ++ [r] := by
  have hf : f < S.fin := by
    obtain ⟨x, hx⟩ := List.exists_mem_of_ne_nil _ hr
    have := (h.lo (f, row) (by rw [e]; simp)).2.2 x hx
    simp only at this
    omega
  have hall : ∀ p ∈ S.ps, p.1 < S.fin := fun p hp => by
    have h2 := h.pw
    rw [e] at hp h2
    rcases List.mem_append.mp hp with hp | hp
    · have := (List.pairwise_append.mp h2).2.2 p hp (f, row) (by simp)
      simp only at this
      omega
    · have : p = (f, row) := by simpa using hp
      rw [this]; exact hf
  refine ⟨⟨by simp, ?_, ?_, h.s0, by have := h.se; simp only; omega, h.pc, ?_, ?_, by omega⟩, by rw [fl_app, fl_one]⟩
  · refine List.pairwise_append.mpr ⟨h.pw, by simp, fun a ha b hb => ?_⟩
    have : b = (S.fin, [r]) := by simpa using hb
    subst this
    exact ⟨hall a ha, fun x hx => ((h.lo a ha).2.2 x hx).2.2⟩
  · intro p hp
    rcases List.mem_append.mp hp with hp | hp
    · obtain ⟨h0, h1, h2⟩ := h.lo p hp
      exact ⟨h0, by simp only; omega, fun x hx => by have := h2 x hx; simp only; omega⟩
    · have : p = (S.fin, [r]) := by simpa using hp
      subst this
      have h1 := h.s0
      have h2 := h.se
      refine ⟨by simp only; omega, by simp only; omega, fun x hx => ?_⟩
      have : x = r := by simpa using hx
      subst this
      simp only; omega
  · rw [fl_app, fl_one]; have := h.zr; simp; omega
  · have := h.zp; simp; omega
theorem inv_put2 {n : Nat} {S : LS} {A : List PD} {f : Int} {row : List Rec} {r : Rec} (h : LInv n S) (e : S.ps = A ++ [(f, row)]) (e1 : r.1 = S.fin) (hn : n < 1000) :
    LInv (n + 1) ⟨S.piece, S.start, S.fin + 1, A ++ [(f, row ++ [r])]⟩ ∧ fl (A ++ [(f, row ++ [r])]) = fl S.ps ++ [r] := by
  have e2 : fl (A ++ [(f, row ++ [r])]) = fl S.ps ++ [r] := by rw [e, fl_app, fl_app, fl_one, fl_one]; simp
  have hpw := h.pw
  rw [e] at hpw
  obtain ⟨p1, p2, p3⟩ := List.pairwise_append.mp hpw
  have hl := h.lo
  rw [e] at hl
  refine ⟨⟨by simp, ?_, ?_, h.s0, by have := h.se; simp only; omega, h.pc, ?_, ?_, by omega⟩, e2⟩
  · refine List.pairwise_append.mpr ⟨p1, by simp, fun a ha b hb => ?_⟩
    have : b = (f, row ++ [r]) := by simpa using hb
    subst this
    exact p3 a ha (f, row) (by simp)
  · intro p hp
    rcases List.mem_append.mp hp with hp | hp
    · obtain ⟨h0, h1, h2⟩ := hl p (List.mem_append_left _ hp)
      exact ⟨h0, by simp only; omega, fun x hx => by have := h2 x hx; simp only; omega⟩
    · have : p = (f, row ++ [r]) := by simpa using hp
      subst this
      obtain ⟨h0, h1, h2⟩ := hl (f, row) (by simp)
      simp only at h0 h1 h2
      have q1 := h.s0
      have q2 := h.se
      refine ⟨h0, by simp only; omega, fun x hx => ?_⟩
      rcases List.mem_append.mp hx with hx | hx
      · have := h2 x hx; simp only; omega
      · have : x = r := by simpa using hx
        subst this
        simp only; omega
  · rw [e2]; have := h.zr; simp; omega
  · have := h.zp; rw [e] at this; simp at this ⊢; omega
/-- the last piece that begins no later -/
structure PAt (ps : List PD) (mark : Int) (k : Nat) : Prop where
  lt : k < ps.length
  lo : k = 0 ∨ ∀ p, ps[k]? = some p → p.1 ≤ mark
  hi : ∀ j p, k < j → ps[j]? = some p → mark < p.1
theorem pw_at {ps : List PD} (h : ps.Pairwise fun a b => a.1 < b.1 ∧ ∀ r ∈ a.2, r.1 < b.1) {i j : Nat} {a b : PD} (hij : i < j) (ha : ps[i]? = some a) (hb : ps[j]? = some b) : a.1 < b.1 ∧ ∀ r ∈ a.2, r.1 < b.1 := by
  obtain ⟨h1, e1⟩ := List.getElem?_eq_some_iff.mp ha
  obtain ⟨h2, e2⟩ := List.getElem?_eq_some_iff.mp hb
  have := List.pairwise_iff_getElem.mp h i j h1 h2 hij
  rw [e1, e2] at this
  exact this
theorem filter_none {α : Type} {p : α → Bool} {l : List α} (h : ∀ x ∈ l, p x = false) : l.filter p = [] := List.filter_eq_nil_iff.mpr fun x hx => by rw [h x hx]; simp
/-- from the piece on there is all from the mark on -/
theorem from_at {n : Nat} {S : LS} {mark : Int} {k : Nat} (h : LInv n S) (a : PAt S.ps mark k) : (fl S.ps).filter (fun r => decide (mark ≤ r.1)) = (fl (S.ps.drop k)).filter fun r => decide (mark ≤ r.1) := by
  conv => lhs; rw [← List.take_append_drop k S.ps]
  rw [fl_app, List.filter_append, filter_none, List.nil_append]
  intro r hr
  obtain ⟨p, hp, hr⟩ := mem_fl.mp hr
  obtain ⟨i, hi⟩ := List.getElem?_of_mem hp
  rw [List.getElem?_take] at hi
  by_cases hik : i < k
  · rw [if_pos hik] at hi
    rcases a.lo with z | z
    · omega
    · have hk : S.ps[k]? = some (S.ps[k]'a.lt) := List.getElem?_eq_getElem a.lt
      have h1 := (pw_at h.pw hik hi hk).2 r hr
      have h2 := z _ hk
      exact decide_eq_false (by omega)
  · rw [if_neg hik] at hi; cases hi
/-- behind the piece all is from the mark on -/
theorem all_after {n : Nat} {S : LS} {mark : Int} {k : Nat} (h : LInv n S) (a : PAt S.ps mark k) : ∀ r ∈ fl (S.ps.drop (k + 1)), mark ≤ r.1 := by
  intro r hr
  obtain ⟨p, hp, hr⟩ := mem_fl.mp hr
  obtain ⟨i, hi⟩ := List.getElem?_of_mem hp
  rw [List.getElem?_drop] at hi
  have h1 := a.hi _ p (by omega) hi
  have h2 := (h.lo p (List.mem_of_getElem? hi)).2.2 r hr
  omega
/-- cut_start -/
theorem inv_cs {n : Nat} {S : LS} {mark : Int} {k : Nat} {p : PD} (h : LInv n S) (h1 : S.start ≤ mark) (h2 : mark ≤ S.fin) (a : PAt S.ps mark k) (hp : S.ps[k]? = some p) :
    LInv n ⟨S.piece, mark, S.fin, (p.1, p.2.filter fun r => decide (mark ≤ r.1)) :: S.ps.drop (k + 1)⟩ ∧ fl ((p.1, p.2.filter fun r => decide (mark ≤ r.1)) :: S.ps.drop (k + 1)) = (fl S.ps).filter fun r => decide (mark ≤ r.1) := by
  have ed : S.ps.drop k = p :: S.ps.drop (k + 1) := by
    obtain ⟨hk, e⟩ := List.getElem?_eq_some_iff.mp hp
    rw [List.drop_eq_getElem_cons hk, e]
  have e2 : fl ((p.1, p.2.filter fun r => decide (mark ≤ r.1)) :: S.ps.drop (k + 1)) = (fl S.ps).filter fun r => decide (mark ≤ r.1) := by
    rw [from_at h a, ed, fl_cons, fl_cons, List.filter_append]
    congr 1
    exact (List.filter_eq_self.mpr fun r hr => decide_eq_true (all_after h a r hr)).symm
  have hpm : p ∈ S.ps := List.mem_of_getElem? hp
  have hsub : ∀ q ∈ S.ps.drop (k + 1), q ∈ S.ps := fun q hq => List.mem_of_mem_drop hq
  have q0 := h.s0
  refine ⟨⟨by simp, ?_, ?_, by simp only; omega, h2, h.pc, ?_, ?_, h.zn⟩, e2⟩
  · have hpw := h.pw.drop (i := k)
    rw [ed] at hpw
    obtain ⟨a1, a2⟩ := List.pairwise_cons.mp hpw
    exact List.pairwise_cons.mpr ⟨fun b hb => ⟨(a1 b hb).1, fun r hr => (a1 b hb).2 r (List.mem_filter.mp hr).1⟩, a2⟩
  · intro q hq
    rcases List.mem_cons.mp hq with rfl | hq'
    · obtain ⟨l0, l1, l2⟩ := h.lo p hpm
      refine ⟨l0, l1, fun r hr => ?_⟩
      obtain ⟨hr, hm⟩ := List.mem_filter.mp hr
      have := l2 r hr
      have hm := of_decide_eq_true hm
      simp only; omega
    · obtain ⟨l0, l1, l2⟩ := h.lo q (hsub q hq')
      refine ⟨l0, l1, fun r hr => ?_⟩
      have := l2 r hr
      have := all_after h a r (mem_fl.mpr ⟨q, hq', hr⟩)
      simp only; omega
  · rw [e2]; exact Nat.le_trans (List.length_filter_le _ _) h.zr
  · have := h.zp; simp; omega
/-- cut_end -/
def ceK (mark : Int) (ps : List PD) : List PD := (ps.filter fun p => decide (p.1 < mark ∨ p.1 = 0)).map fun p => (p.1, p.2.filter fun r => decide (r.1 < mark))
def ceP (mark : Int) (ps : List PD) : List PD := if ceK mark ps ≠ [] then ceK mark ps else [(mark, [])]
theorem fl_ceK {mark : Int} : ∀ {ps : List PD}, (∀ p ∈ ps, ∀ r ∈ p.2, p.1 ≤ r.1) → fl (ceK mark ps) = (fl ps).filter fun r => decide (r.1 < mark)
  | [], _ => rfl
  | p :: ps, h => by
    have ih := fl_ceK (mark := mark) (ps := ps) fun q hq => h q (List.mem_cons_of_mem _ hq)
    unfold ceK at ih ⊢
    rw [fl_cons, List.filter_append, List.filter_cons]
    by_cases c : p.1 < mark ∨ p.1 = 0
    · rw [if_pos (decide_eq_true c), List.map_cons, fl_cons, ih]
    · have e0 : p.2.filter (fun r => decide (r.1 < mark)) = [] := filter_none fun r hr => by
        have := h p List.mem_cons_self r hr
        exact decide_eq_false (by omega)
      rw [if_neg (by simpa using c), ih, e0, List.nil_append]
theorem inv_ce {n : Nat} {S : LS} {mark : Int} (h : LInv n S) (h1 : S.start ≤ mark) (h2 : mark ≤ S.fin) :
    LInv n ⟨S.piece, S.start, mark, ceP mark S.ps⟩ ∧ fl (ceP mark S.ps) = (fl S.ps).filter fun r => decide (r.1 < mark) := by
  have e2 := fl_ceK (mark := mark) (ps := S.ps) fun p hp r hr => ((h.lo p hp).2.2 r hr).1
  have q0 := h.s0
  unfold ceP
  by_cases c : ceK mark S.ps ≠ []
  · rw [if_pos c]
    refine ⟨⟨c, ?_, ?_, q0, h1, h.pc, ?_, ?_, h.zn⟩, e2⟩
    · refine List.pairwise_map.mpr (List.Pairwise.imp ?_ (h.pw.filter _))
      rintro a b ⟨x, y⟩
      exact ⟨x, fun r hr => y r (List.mem_filter.mp hr).1⟩
    · intro p hp
      obtain ⟨q, hq, rfl⟩ := List.mem_map.mp hp
      obtain ⟨hq, hc⟩ := List.mem_filter.mp hq
      have hc := of_decide_eq_true hc
      obtain ⟨l0, l1, l2⟩ := h.lo q hq
      refine ⟨l0, by simp only; omega, fun r hr => ?_⟩
      obtain ⟨hr, hm⟩ := List.mem_filter.mp hr
      have hm := of_decide_eq_true hm
      have := l2 r hr
      simp only; omega
    · rw [e2]; exact Nat.le_trans (List.length_filter_le _ _) h.zr
    · show (ceK mark S.ps).length ≤ _
      unfold ceK
      rw [List.length_map]
      exact Nat.le_trans (List.length_filter_le _ _) h.zp
  · rw [if_neg c]
    have c : ceK mark S.ps = [] := Classical.not_not.mp c
    rw [c] at e2
    refine ⟨⟨by simp, by simp, by simp; omega, q0, h1, h.pc, by simp [fl], by simp, h.zn⟩, by rw [← e2]; simp [fl]⟩
/-- shortened -/
theorem inv_sh {n : Nat} {S : LS} (h : LInv n S) (P : Rec → Bool) : LInv n ⟨S.piece, S.start, S.fin, S.ps.map fun p => (p.1, p.2.filter P)⟩ ∧ fl (S.ps.map fun p => (p.1, p.2.filter P)) = (fl S.ps).filter P := by
  have e2 : ∀ ps : List PD, fl (ps.map fun p => (p.1, p.2.filter P)) = (fl ps).filter P := by
    intro ps
    induction ps with
    | nil => rfl
    | cons p ps ih => rw [List.map_cons, fl_cons, fl_cons, List.filter_append, ih]
  refine ⟨⟨by simpa using h.ne, ?_, ?_, h.s0, h.se, h.pc, ?_, ?_, h.zn⟩, e2 _⟩
  · refine List.pairwise_map.mpr (List.Pairwise.imp ?_ h.pw)
    rintro a b ⟨x, y⟩
    exact ⟨x, fun r hr => y r (List.mem_filter.mp hr).1⟩
  · intro p hp
    obtain ⟨q, hq, rfl⟩ := List.mem_map.mp hp
    obtain ⟨l0, l1, l2⟩ := h.lo q hq
    exact ⟨l0, l1, fun r hr => l2 r (List.mem_filter.mp hr).1⟩
  · show (fl (List.map _ _)).length ≤ n
    rw [e2]; exact Nat.le_trans (List.length_filter_le _ _) h.zr
  · show (List.map _ _).length ≤ _
    rw [List.length_map]; exact h.zp
--END
end K08
set_option Elab.async false
set_option linter.all false
set_option maxRecDepth 100000
set_option maxHeartbeats 800000
/-! K08q: tables of logs. -/
namespace K08
open PySem PySem.Spec SW
open L2 hiding Apart GC GK GS GSs gs_while gss_cons gss_nil
open PyProof.Rows hiding St
--BEGIN
def lastS (d : List (Key × V)) (r : Rec) : List (Key × V) := match r.2.2.1 with
  | none => d
  | some k => putK d (.inr k) (.int r.1)
def lastK (rs : List Rec) : List (Key × V) := rs.foldl lastS []
def lastO (k : Str) (o : Option Int) (r : Rec) : Option Int := if r.2.2.1 = some k then some r.1 else o
def lastOf (rs : List Rec) (k : Str) : Option Int := rs.foldl (lastO k) none
theorem valV_last {rs : List Rec} {k : Str} : valV (lastK rs) (.inr k) = (lastOf rs k).map V.int := by
  unfold lastK lastOf
  have go : ∀ (rs : List Rec) (d : List (Key × V)) (o : Option Int), valV d (.inr k) = o.map V.int → valV (rs.foldl lastS d) (.inr k) = (rs.foldl (lastO k) o).map V.int := by
    intro rs
    induction rs with
    | nil => intro d o h; exact h
    | cons r rs ih =>
      intro d o h
      rw [List.foldl_cons, List.foldl_cons]
      apply ih
      unfold lastS lastO
      cases e : r.2.2.1 with
      | none => simp [h]
      | some j =>
        simp only
        rw [valV_put]
        by_cases c : k = j
        · subst c; simp
        · rw [if_neg (by intro z; cases z; exact c rfl), if_neg (by intro z; cases z; exact c rfl)]
          exact h
  exact go rs [] none rfl
theorem last_snoc (rs : List Rec) (r : Rec) : lastK (rs ++ [r]) = lastS (lastK rs) r := by simp [lastK]
theorem last_len (rs : List Rec) : (lastK rs).length ≤ rs.length := by
  have go : ∀ (rs : List Rec) (d : List (Key × V)), (rs.foldl lastS d).length ≤ d.length + rs.length := by
    intro rs
    induction rs with
    | nil => intro d; simp
    | cons r rs ih =>
      intro d
      rw [List.foldl_cons]
      have h1 := ih (lastS d r)
      have h2 : (lastS d r).length ≤ d.length + 1 := by
        unfold lastS
        cases r.2.2.1 with
        | none => simp
        | some k => exact length_putK _ _ _
      simp only [List.length_cons]; omega
  have h9 := go rs []; rw [List.length_nil, Nat.zero_add] at h9; exact h9
def stayB (clean : Int) (rs : List Rec) (r : Rec) : Bool := decide (clean ≤ r.1) || match r.2.2.1 with
  | none => true
  | some k => decide ((lastOf rs k).getD r.1 = r.1)
/-! tables -/
def tabS (d : List (Key × V)) (r : Rec) : List (Key × V) := match r.2.2.1, r.2.2.2 with
  | none, _ => d
  | some k, none => dropK d (.inr k)
  | some k, some v => putK d (.inr k) (.str v)
def tabK (rs : List Rec) : List (Key × V) := rs.foldl tabS []
theorem tab_snoc (rs : List Rec) (r : Rec) : tabK (rs ++ [r]) = tabS (tabK rs) r := by simp [tabK]
theorem tab_len (rs : List Rec) : (tabK rs).length ≤ rs.length := by
  have go : ∀ (rs : List Rec) (d : List (Key × V)), (rs.foldl tabS d).length ≤ d.length + rs.length := by
    intro rs
    induction rs with
    | nil => intro d; simp
    | cons r rs ih =>
      intro d
      rw [List.foldl_cons]
      have h1 := ih (tabS d r)
      have h2 : (tabS d r).length ≤ d.length + 1 := by
        unfold tabS
        cases r.2.2.1 with
        | none => simp
        | some k =>
          cases r.2.2.2 with
          | none => exact Nat.le_succ_of_le (dropK_le _ _)
          | some v => exact length_putK _ _ _
      simp only [List.length_cons]; omega
  have h9 := go rs []; rw [List.length_nil, Nat.zero_add] at h9; exact h9
def allS (d : List (Key × V)) (r : Rec) : List (Key × V) := match r.2.2.1 with
  | none => d
  | some k => putK d (.inr k) (vOpt r.2.2.2)
def allK (rs : List Rec) : List (Key × V) := rs.foldl allS []
theorem all_snoc (rs : List Rec) (r : Rec) : allK (rs ++ [r]) = allS (allK rs) r := by simp [allK]
theorem all_len (rs : List Rec) : (allK rs).length ≤ rs.length := by
  have go : ∀ (rs : List Rec) (d : List (Key × V)), (rs.foldl allS d).length ≤ d.length + rs.length := by
    intro rs
    induction rs with
    | nil => intro d; simp
    | cons r rs ih =>
      intro d
      rw [List.foldl_cons]
      have h1 := ih (allS d r)
      have h2 : (allS d r).length ≤ d.length + 1 := by
        unfold allS
        cases r.2.2.1 with
        | none => simp
        | some k => exact length_putK _ _ _
      simp only [List.length_cons]; omega
  have h9 := go rs []; rw [List.length_nil, Nat.zero_add] at h9; exact h9
theorem fold_inv {β : Type} {f : List (Key × V) → β → List (Key × V)} {P : List (Key × V) → Prop} {l : List β} {d : List (Key × V)} (h0 : P d) (hs : ∀ d, ∀ x ∈ l, P d → P (f d x)) : P (l.foldl f d) := by
  induction l generalizing d with
  | nil => exact h0
  | cons x l ih => exact ih (hs d x List.mem_cons_self h0) fun d y hy => hs d y (List.mem_cons_of_mem _ hy)
theorem tab_nd (rs : List Rec) : NdK (tabK rs) := fold_inv (P := NdK) ndk_nil fun d r _ h => by
  unfold tabS
  cases r.2.2.1 with
  | none => exact h
  | some k =>
    cases r.2.2.2 with
    | none => exact ndk_drop h
    | some v => exact ndk_put h
theorem all_nd (rs : List Rec) : NdK (allK rs) := fold_inv (P := NdK) ndk_nil fun d r _ h => by
  unfold allS
  cases r.2.2.1 with
  | none => exact h
  | some k => exact ndk_put h
theorem mem_putK {d : List (Key × V)} {k : Key} {v : V} {x : Key × V} (h : x ∈ putK d k v) : x ∈ d ∨ x = (k, v) := by
  unfold putK at h
  split at h
  · obtain ⟨y, hy, e⟩ := List.mem_map.mp h
    split at e
    · rename_i c
      rw [← e, c]; exact .inr rfl
    · rw [← e]; exact .inl hy
  · rcases List.mem_append.mp h with h | h
    · exact .inl h
    · exact .inr (by simpa using h)
theorem tab_str (rs : List Rec) : ∀ x ∈ tabK rs, ∃ s, x.2 = V.str s := fold_inv (P := fun d => ∀ x ∈ d, ∃ s, x.2 = V.str s) (fun _ h => nomatch h) fun d r _ h => by
  unfold tabS
  cases r.2.2.1 with
  | none => exact h
  | some k =>
    cases r.2.2.2 with
    | none => exact fun x hx => h x (List.mem_filter.mp hx).1
    | some v =>
      intro x hx
      rcases mem_putK hx with hx | rfl
      · exact h x hx
      · exact ⟨v, rfl⟩
theorem all_good {rs : List Rec} (g : ∀ r ∈ rs, optGood r.2.2.1 ∧ optGood r.2.2.2) : ∀ x ∈ allK rs, ∃ k v, x = (.inr k, vOpt v) ∧ strGood k ∧ optGood v := fold_inv (P := fun d => ∀ x ∈ d, ∃ k v, x = (.inr k, vOpt v) ∧ strGood k ∧ optGood v) (fun _ h => nomatch h) fun d r hr h => by
  have gr := g r hr
  unfold allS
  cases e : r.2.2.1 with
  | none => exact h
  | some k =>
    intro x hx
    rcases mem_putK hx with hx | rfl
    · exact h x hx
    · rw [e] at gr
      exact ⟨k, r.2.2.2, rfl, gr.1, gr.2⟩
def keepN (d : List (Key × V)) : List (Key × V) := d.filter fun p => !decide (p.2 = .non)
theorem keepN_val {d : List (Key × V)} (h : NdK d) (k : Key) : valV (keepN d) k = (valV d k).filter fun v => !decide (v = .non) := by
  unfold keepN
  induction d with
  | nil => rfl
  | cons p d ih =>
    have h' := h
    unfold NdK at h'
    rw [List.map_cons, List.nodup_cons] at h'
    rw [List.filter_cons, valV_cons]
    by_cases c : p.1 = k
    · rw [if_pos c]
      by_cases cn : (!decide (p.2 = .non)) = true
      · rw [if_pos cn, valV_cons, if_pos c, Option.filter_some, if_pos cn]
      · rw [if_neg cn, Option.filter_some, if_neg cn]
        cases e : valV (List.filter (fun p => !decide (p.2 = .non)) d) k with
        | none => rfl
        | some v =>
          have := mem_of_valV e
          exact absurd (by rw [c]; exact List.mem_map.mpr ⟨_, (List.mem_filter.mp this).1, rfl⟩) h'.1
    · rw [if_neg c, ← ih h'.2]
      by_cases cn : (!decide (p.2 = .non)) = true
      · rw [if_pos cn, valV_cons, if_neg c]
      · rw [if_neg cn]
def ltabK (rs : List Rec) : List (Key × V) := mergeK [] (keepN (allK rs))
theorem keepN_nd {d : List (Key × V)} (h : NdK d) : NdK (keepN d) := by
  unfold NdK keepN at *
  exact (List.filter_sublist.map _).nodup h
theorem tab_all {rs : List Rec} (k : Key) : valV (tabK rs) k = valV (keepN (allK rs)) k := by
  rw [keepN_val (all_nd rs)]
  have go : ∀ (rs : List Rec) (d e : List (Key × V)), (valV d k = (valV e k).filter fun v => !decide (v = .non)) → valV (rs.foldl tabS d) k = (valV (rs.foldl allS e) k).filter fun v => !decide (v = .non) := by
    intro rs
    induction rs with
    | nil => intro d e h; exact h
    | cons r rs ih =>
      intro d e h
      rw [List.foldl_cons, List.foldl_cons]
      apply ih
      unfold tabS allS
      cases r.2.2.1 with
      | none => exact h
      | some j =>
        cases r.2.2.2 with
        | none =>
          show valV (dropK d (.inr j)) k = (valV (putK e (.inr j) .non) k).filter _
          rw [valV_drop, valV_put]
          by_cases c : k = .inr j
          · rw [if_pos c, if_pos c]; rfl
          · rw [if_neg c, if_neg c]; exact h
        | some v =>
          show valV (putK d (.inr j) (.str v)) k = (valV (putK e (.inr j) (.str v)) k).filter _
          rw [valV_put, valV_put]
          by_cases c : k = .inr j
          · rw [if_pos c, if_pos c]; rfl
          · rw [if_neg c, if_neg c]; exact h
  exact go rs [] [] rfl
theorem tabs_alike (rs : List Rec) : (tabK rs).length = (ltabK rs).length ∧ ∀ x ∈ tabK rs, valV (ltabK rs) x.1 = some x.2 ∧ flatB x.2 = true := by
  obtain ⟨h1, h2⟩ := dict_eq (a := tabK rs) (b := ltabK rs) (tab_nd rs) (ndk_merge ndk_nil) fun k => by unfold ltabK; rw [valV_mergeN (keepN_nd (all_nd rs)), tab_all]
  refine ⟨h1, fun x hx => ⟨h2 x hx, ?_⟩⟩
  obtain ⟨s, e⟩ := tab_str rs x hx
  rw [e]; rfl
--END
end K08
set_option Elab.async false
set_option linter.all false
set_option maxRecDepth 100000
set_option maxHeartbeats 1600000
namespace K08
open PySem PySem.Spec SW
open L2 hiding Apart GC GK GS GSs gs_while gss_cons gss_nil
open PyProof.Rows hiding St
/-- the program's statements, by places -/
def top (i : Nat) : Stmt := PySem.Challenge.pw_brookhall_k08_deeds_all_or_nothing.main.body.getD i (.Pass ⟨0, 0, 0, 0⟩)
abbrev s_wall : Stmt := top 0
abbrev n_wall : List Str := ["k"]
abbrev k_wall : List (Str × NameKind) := [("k", .local)]
theorem sc_wall : DefSc n_wall ["k"] k_wall (defScope s_wall) := ⟨⟨rfl, rfl, rfl, by decide +kernel, rfl, by decide +kernel, by decide +kernel⟩, rfl, by decide +kernel⟩
abbrev s_BadRecord__init : Stmt := inClass (top 3) 0
abbrev s_OutOfLog__init : Stmt := inClass (top 4) 0
abbrev s_OutOfOrder__init : Stmt := inClass (top 6) 0
abbrev s_BadText__init : Stmt := inClass (top 9) 0
abbrev s_check_record : Stmt := top 12
abbrev n_check_record : List Str := ["time", "key", "value"]
abbrev k_check_record : List (Str × NameKind) := [("time", .local), ("key", .local), ("value", .local), ("isinstance", .globalImplicit), ("int", .globalImplicit), ("bool", .globalImplicit), ("BadRecord", .globalImplicit), ("str", .globalImplicit)]
theorem sc_check_record : DefSc n_check_record ["time", "key", "value"] k_check_record (defScope s_check_record) := ⟨⟨rfl, rfl, rfl, by decide +kernel, rfl, by decide +kernel, by decide +kernel⟩, rfl, by decide +kernel⟩
abbrev s_Log__init : Stmt := inClass (top 13) 0
abbrev n_Log__init : List Str := ["self", "piece"]
abbrev k_Log__init : List (Str × NameKind) := [("self", .local), ("piece", .local)]
theorem sc_Log__init : DefSc n_Log__init ["self", "piece"] k_Log__init (defScope s_Log__init) := ⟨⟨rfl, rfl, rfl, by decide +kernel, rfl, by decide +kernel, by decide +kernel⟩, rfl, by decide +kernel⟩
abbrev s_Log_put : Stmt := inClass (top 13) 1
abbrev n_Log_put : List Str := ["self", "time", "key", "value", "first", "row"]
abbrev k_Log_put : List (Str × NameKind) := [("self", .local), ("time", .local), ("key", .local), ("value", .local), ("first", .local), ("row", .local), ("check_record", .globalImplicit), ("len", .globalImplicit)]
theorem sc_Log_put : DefSc n_Log_put ["self", "time", "key", "value"] k_Log_put (defScope s_Log_put) := ⟨⟨rfl, rfl, rfl, by decide +kernel, rfl, by decide +kernel, by decide +kernel⟩, rfl, by decide +kernel⟩
abbrev s_Log_kept : Stmt := inClass (top 13) 2
abbrev n_Log_kept : List Str := ["self", "first", "row", "record"]
abbrev k_Log_kept : List (Str × NameKind) := [("self", .cell), ("tuple", .globalImplicit)]
theorem sc_Log_kept : DefSc n_Log_kept ["self"] k_Log_kept (defScope s_Log_kept) := ⟨⟨rfl, rfl, rfl, by decide +kernel, rfl, by decide +kernel, by decide +kernel⟩, rfl, by decide +kernel⟩
abbrev kc0_Log_kept : List (Str × NameKind) := [(".0", .local), ("first", .local), ("row", .local), ("record", .local), ("self", .cell)]
abbrev ow0_Log_kept : List (Str × Nat) := [("first", 1), ("row", 2), ("record", 3)]
abbrev s_Log_read : Stmt := inClass (top 13) 3
abbrev n_Log_read : List Str := ["self", "mark", "most", "found", "k", "record"]
abbrev k_Log_read : List (Str × NameKind) := [("self", .local), ("mark", .local), ("most", .local), ("found", .local), ("k", .local), ("record", .local), ("OutOfLog", .globalImplicit), ("range", .globalImplicit), ("len", .globalImplicit), ("tuple", .globalImplicit)]
theorem sc_Log_read : DefSc n_Log_read ["self", "mark", "most"] k_Log_read (defScope s_Log_read) := ⟨⟨rfl, rfl, rfl, by decide +kernel, rfl, by decide +kernel, by decide +kernel⟩, rfl, by decide +kernel⟩
abbrev s_Log_piece_at : Stmt := inClass (top 13) 4
abbrev n_Log_piece_at : List Str := ["self", "mark", "low", "high", "middle"]
abbrev k_Log_piece_at : List (Str × NameKind) := [("self", .local), ("mark", .local), ("low", .local), ("high", .local), ("middle", .local), ("len", .globalImplicit)]
theorem sc_Log_piece_at : DefSc n_Log_piece_at ["self", "mark"] k_Log_piece_at (defScope s_Log_piece_at) := ⟨⟨rfl, rfl, rfl, by decide +kernel, rfl, by decide +kernel, by decide +kernel⟩, rfl, by decide +kernel⟩
abbrev s_Log_mark_at_time : Stmt := inClass (top 13) 5
abbrev n_Log_mark_at_time : List Str := ["self", "time"]
abbrev k_Log_mark_at_time : List (Str × NameKind) := [("self", .local), ("time", .local), ("_wall", .globalImplicit)]
theorem sc_Log_mark_at_time : DefSc n_Log_mark_at_time ["self", "time"] k_Log_mark_at_time (defScope s_Log_mark_at_time) := ⟨⟨rfl, rfl, rfl, by decide +kernel, rfl, by decide +kernel, by decide +kernel⟩, rfl, by decide +kernel⟩
abbrev s_Log_cut_end : Stmt := inClass (top 13) 6
abbrev n_Log_cut_end : List Str := ["self", "mark"]
abbrev k_Log_cut_end : List (Str × NameKind) := [("self", .local), ("mark", .local), ("_wall", .globalImplicit)]
theorem sc_Log_cut_end : DefSc n_Log_cut_end ["self", "mark"] k_Log_cut_end (defScope s_Log_cut_end) := ⟨⟨rfl, rfl, rfl, by decide +kernel, rfl, by decide +kernel, by decide +kernel⟩, rfl, by decide +kernel⟩
abbrev s_Log_cut_start : Stmt := inClass (top 13) 7
abbrev n_Log_cut_start : List Str := ["self", "mark"]
abbrev k_Log_cut_start : List (Str × NameKind) := [("self", .local), ("mark", .local), ("_wall", .globalImplicit)]
theorem sc_Log_cut_start : DefSc n_Log_cut_start ["self", "mark"] k_Log_cut_start (defScope s_Log_cut_start) := ⟨⟨rfl, rfl, rfl, by decide +kernel, rfl, by decide +kernel, by decide +kernel⟩, rfl, by decide +kernel⟩
abbrev s_Log_older_than : Stmt := inClass (top 13) 8
abbrev n_Log_older_than : List Str := ["self", "time"]
abbrev k_Log_older_than : List (Str × NameKind) := [("self", .local), ("time", .local), ("_wall", .globalImplicit)]
theorem sc_Log_older_than : DefSc n_Log_older_than ["self", "time"] k_Log_older_than (defScope s_Log_older_than) := ⟨⟨rfl, rfl, rfl, by decide +kernel, rfl, by decide +kernel, by decide +kernel⟩, rfl, by decide +kernel⟩
abbrev s_Log_shortened : Stmt := inClass (top 13) 9
abbrev n_Log_shortened : List Str := ["self", "clean"]
abbrev k_Log_shortened : List (Str × NameKind) := [("self", .local), ("clean", .local), ("_wall", .globalImplicit)]
theorem sc_Log_shortened : DefSc n_Log_shortened ["self", "clean"] k_Log_shortened (defScope s_Log_shortened) := ⟨⟨rfl, rfl, rfl, by decide +kernel, rfl, by decide +kernel, by decide +kernel⟩, rfl, by decide +kernel⟩
abbrev s_Log_without_taken : Stmt := inClass (top 13) 10
abbrev n_Log_without_taken : List Str := ["self", "clean", "time"]
abbrev k_Log_without_taken : List (Str × NameKind) := [("self", .local), ("clean", .local), ("time", .local), ("_wall", .globalImplicit)]
theorem sc_Log_without_taken : DefSc n_Log_without_taken ["self", "clean", "time"] k_Log_without_taken (defScope s_Log_without_taken) := ⟨⟨rfl, rfl, rfl, by decide +kernel, rfl, by decide +kernel, by decide +kernel⟩, rfl, by decide +kernel⟩
abbrev s_Log_as_table : Stmt := inClass (top 13) 11
abbrev n_Log_as_table : List Str := ["self"]
abbrev k_Log_as_table : List (Str × NameKind) := [("self", .local), ("_wall", .globalImplicit)]
theorem sc_Log_as_table : DefSc n_Log_as_table ["self"] k_Log_as_table (defScope s_Log_as_table) := ⟨⟨rfl, rfl, rfl, by decide +kernel, rfl, by decide +kernel, by decide +kernel⟩, rfl, by decide +kernel⟩
abbrev s_Deeds__init : Stmt := inClass (top 15) 0
abbrev n_Deeds__init : List Str := ["self", "parts", "part"]
abbrev k_Deeds__init : List (Str × NameKind) := [("self", .local), ("parts", .local), ("range", .globalImplicit)]
theorem sc_Deeds__init : DefSc n_Deeds__init ["self", "parts"] k_Deeds__init (defScope s_Deeds__init) := ⟨⟨rfl, rfl, rfl, by decide +kernel, rfl, by decide +kernel, by decide +kernel⟩, rfl, by decide +kernel⟩
abbrev kc0_Deeds__init : List (Str × NameKind) := [(".0", .local), ("part", .local), ("Log", .globalImplicit)]
abbrev ow0_Deeds__init : List (Str × Nat) := [("part", 2)]
abbrev kc1_Deeds__init : List (Str × NameKind) := [(".0", .local), ("part", .local)]
abbrev ow1_Deeds__init : List (Str × Nat) := [("part", 2)]
abbrev s_Deeds_begin_turn : Stmt := inClass (top 15) 1
abbrev n_Deeds_begin_turn : List Str := ["self", "giver"]
abbrev k_Deeds_begin_turn : List (Str × NameKind) := [("self", .local), ("giver", .local)]
theorem sc_Deeds_begin_turn : DefSc n_Deeds_begin_turn ["self", "giver"] k_Deeds_begin_turn (defScope s_Deeds_begin_turn) := ⟨⟨rfl, rfl, rfl, by decide +kernel, rfl, by decide +kernel, by decide +kernel⟩, rfl, by decide +kernel⟩
abbrev s_Deeds_check : Stmt := inClass (top 15) 2
abbrev n_Deeds_check : List Str := ["self", "giver", "turn"]
abbrev k_Deeds_check : List (Str × NameKind) := [("self", .local), ("giver", .local), ("turn", .local), ("Fenced", .globalImplicit)]
theorem sc_Deeds_check : DefSc n_Deeds_check ["self", "giver", "turn"] k_Deeds_check (defScope s_Deeds_check) := ⟨⟨rfl, rfl, rfl, by decide +kernel, rfl, by decide +kernel, by decide +kernel⟩, rfl, by decide +kernel⟩
abbrev s_Deeds_begin : Stmt := inClass (top 15) 3
abbrev n_Deeds_begin : List Str := ["self", "giver", "turn"]
abbrev k_Deeds_begin : List (Str × NameKind) := [("self", .local), ("giver", .local), ("turn", .local), ("NotDue", .globalImplicit)]
theorem sc_Deeds_begin : DefSc n_Deeds_begin ["self", "giver", "turn"] k_Deeds_begin (defScope s_Deeds_begin) := ⟨⟨rfl, rfl, rfl, by decide +kernel, rfl, by decide +kernel, by decide +kernel⟩, rfl, by decide +kernel⟩
abbrev s_Deeds_put : Stmt := inClass (top 15) 4
abbrev n_Deeds_put : List Str := ["self", "giver", "turn", "part", "key", "value", "deed", "mark", "held"]
abbrev k_Deeds_put : List (Str × NameKind) := [("self", .local), ("giver", .local), ("turn", .local), ("part", .local), ("key", .local), ("value", .local), ("deed", .local), ("mark", .local), ("held", .local)]
theorem sc_Deeds_put : DefSc n_Deeds_put ["self", "giver", "turn", "part", "key", "value"] k_Deeds_put (defScope s_Deeds_put) := ⟨⟨rfl, rfl, rfl, by decide +kernel, rfl, by decide +kernel, by decide +kernel⟩, rfl, by decide +kernel⟩
abbrev s_Deeds_keep_mark : Stmt := inClass (top 15) 5
abbrev n_Deeds_keep_mark : List Str := ["self", "giver", "turn", "group", "part", "mark", "marks"]
abbrev k_Deeds_keep_mark : List (Str × NameKind) := [("self", .local), ("giver", .local), ("turn", .local), ("group", .local), ("part", .local), ("mark", .local), ("marks", .local), ("NotDue", .globalImplicit)]
theorem sc_Deeds_keep_mark : DefSc n_Deeds_keep_mark ["self", "giver", "turn", "group", "part", "mark"] k_Deeds_keep_mark (defScope s_Deeds_keep_mark) := ⟨⟨rfl, rfl, rfl, by decide +kernel, rfl, by decide +kernel, by decide +kernel⟩, rfl, by decide +kernel⟩
abbrev s_Deeds_finish : Stmt := inClass (top 15) 6
abbrev n_Deeds_finish : List Str := ["self", "giver", "turn", "kind"]
abbrev k_Deeds_finish : List (Str × NameKind) := [("self", .local), ("giver", .local), ("turn", .local), ("kind", .local), ("NotDue", .globalImplicit)]
theorem sc_Deeds_finish : DefSc n_Deeds_finish ["self", "giver", "turn", "kind"] k_Deeds_finish (defScope s_Deeds_finish) := ⟨⟨rfl, rfl, rfl, by decide +kernel, rfl, by decide +kernel, by decide +kernel⟩, rfl, by decide +kernel⟩
abbrev s_Deeds_end_at : Stmt := inClass (top 15) 7
abbrev n_Deeds_end_at : List Str := ["self", "giver", "kind", "number", "parts", "marks", "part", "mark", "held"]
abbrev k_Deeds_end_at : List (Str × NameKind) := [("self", .local), ("giver", .local), ("kind", .local), ("number", .local), ("parts", .local), ("marks", .local), ("part", .local), ("mark", .local), ("held", .local), ("sorted", .globalImplicit), ("str", .globalImplicit)]
theorem sc_Deeds_end_at : DefSc n_Deeds_end_at ["self", "giver", "kind"] k_Deeds_end_at (defScope s_Deeds_end_at) := ⟨⟨rfl, rfl, rfl, by decide +kernel, rfl, by decide +kernel, by decide +kernel⟩, rfl, by decide +kernel⟩
abbrev s_Deeds_sure_end : Stmt := inClass (top 15) 8
abbrev n_Deeds_sure_end : List Str := ["self", "part", "firsts", "number", "parts", "marks"]
abbrev k_Deeds_sure_end : List (Str × NameKind) := [("self", .local), ("part", .cell), ("firsts", .local), ("min", .globalImplicit)]
theorem sc_Deeds_sure_end : DefSc n_Deeds_sure_end ["self", "part"] k_Deeds_sure_end (defScope s_Deeds_sure_end) := ⟨⟨rfl, rfl, rfl, by decide +kernel, rfl, by decide +kernel, by decide +kernel⟩, rfl, by decide +kernel⟩
abbrev kc0_Deeds_sure_end : List (Str × NameKind) := [(".0", .local), ("number", .local), ("parts", .local), ("marks", .local), ("part", .cell)]
abbrev ow0_Deeds_sure_end : List (Str × Nat) := [("number", 3), ("parts", 4), ("marks", 5)]
abbrev s_Deeds_read : Stmt := inClass (top 15) 9
abbrev n_Deeds_read : List Str := ["self", "part", "mark", "waits", "end", "ends", "found", "at", "time", "key", "value", "deed", "kind"]
abbrev k_Deeds_read : List (Str × NameKind) := [("self", .local), ("part", .local), ("mark", .local), ("waits", .local), ("end", .local), ("ends", .local), ("found", .local), ("at", .local), ("time", .local), ("key", .local), ("value", .local), ("deed", .local), ("kind", .local), ("tuple", .globalImplicit)]
theorem sc_Deeds_read : DefSc n_Deeds_read ["self", "part", "mark", "waits"] k_Deeds_read (defScope s_Deeds_read) := ⟨⟨rfl, rfl, rfl, by decide +kernel, rfl, by decide +kernel, by decide +kernel⟩, rfl, by decide +kernel⟩
abbrev s_Deeds_ends_of : Stmt := inClass (top 15) 10
abbrev n_Deeds_ends_of : List Str := ["self", "part", "deed", "kind"]
abbrev k_Deeds_ends_of : List (Str × NameKind) := [("self", .local), ("part", .local)]
theorem sc_Deeds_ends_of : DefSc n_Deeds_ends_of ["self", "part"] k_Deeds_ends_of (defScope s_Deeds_ends_of) := ⟨⟨rfl, rfl, rfl, by decide +kernel, rfl, by decide +kernel, by decide +kernel⟩, rfl, by decide +kernel⟩
abbrev kc0_Deeds_ends_of : List (Str × NameKind) := [(".0", .local), ("deed", .local), ("kind", .local)]
abbrev ow0_Deeds_ends_of : List (Str × Nat) := [("deed", 2), ("kind", 3)]
abbrev s_Chain__init : Stmt := inClass (top 16) 0
abbrev n_Chain__init : List Str := ["self", "deeds", "giver", "goal", "group"]
abbrev k_Chain__init : List (Str × NameKind) := [("self", .local), ("deeds", .local), ("giver", .local), ("goal", .local), ("group", .local)]
theorem sc_Chain__init : DefSc n_Chain__init ["self", "deeds", "giver", "goal", "group"] k_Chain__init (defScope s_Chain__init) := ⟨⟨rfl, rfl, rfl, by decide +kernel, rfl, by decide +kernel, by decide +kernel⟩, rfl, by decide +kernel⟩
abbrev s_Chain_step : Stmt := inClass (top 16) 1
abbrev n_Chain_step : List Str := ["self", "part", "most", "stop", "deeds", "mark", "rows", "at", "key", "value"]
abbrev k_Chain_step : List (Str × NameKind) := [("self", .local), ("part", .local), ("most", .local), ("stop", .local), ("deeds", .local), ("mark", .local), ("rows", .local), ("at", .local), ("key", .local), ("value", .local), ("len", .globalImplicit)]
theorem sc_Chain_step : DefSc n_Chain_step ["self", "part", "most", "stop"] k_Chain_step (defScope s_Chain_step) := ⟨⟨rfl, rfl, rfl, by decide +kernel, rfl, by decide +kernel, by decide +kernel⟩, rfl, by decide +kernel⟩
abbrev s_Chain_again : Stmt := inClass (top 16) 2
abbrev n_Chain_again : List Str := ["self"]
abbrev k_Chain_again : List (Str × NameKind) := [("self", .local)]
theorem sc_Chain_again : DefSc n_Chain_again ["self"] k_Chain_again (defScope s_Chain_again) := ⟨⟨rfl, rfl, rfl, by decide +kernel, rfl, by decide +kernel, by decide +kernel⟩, rfl, by decide +kernel⟩
abbrev s_law_dice : Stmt := top 18
abbrev n_law_dice : List Str := ["cell"]
abbrev k_law_dice : List (Str × NameKind) := [("cell", .local), ("abs", .globalImplicit), ("int", .globalImplicit)]
theorem sc_law_dice : DefSc n_law_dice ["cell"] k_law_dice (defScope s_law_dice) := ⟨⟨rfl, rfl, rfl, by decide +kernel, rfl, by decide +kernel, by decide +kernel⟩, rfl, by decide +kernel⟩
abbrev s_law_roll : Stmt := top 19
abbrev n_law_roll : List Str := ["dice", "many", "found"]
abbrev k_law_roll : List (Str × NameKind) := [("dice", .local), ("many", .local), ("found", .local), ("int", .globalImplicit)]
theorem sc_law_roll : DefSc n_law_roll ["dice", "many"] k_law_roll (defScope s_law_roll) := ⟨⟨rfl, rfl, rfl, by decide +kernel, rfl, by decide +kernel, by decide +kernel⟩, rfl, by decide +kernel⟩
abbrev s_law_rounds : Stmt := top 20
abbrev n_law_rounds : List Str := ["script", "most", "cells", "cell"]
abbrev k_law_rounds : List (Str × NameKind) := [("script", .local), ("most", .local), ("cells", .local)]
theorem sc_law_rounds : DefSc n_law_rounds ["script", "most"] k_law_rounds (defScope s_law_rounds) := ⟨⟨rfl, rfl, rfl, by decide +kernel, rfl, by decide +kernel, by decide +kernel⟩, rfl, by decide +kernel⟩
abbrev kc0_law_rounds : List (Str × NameKind) := [(".0", .local), ("cell", .local), ("_law_dice", .globalImplicit)]
abbrev ow0_law_rounds : List (Str × Nat) := [("cell", 3)]
abbrev s_law_told : Stmt := top 21
abbrev n_law_told : List Str := ["what"]
abbrev k_law_told : List (Str × NameKind) := [("what", .local), ("BadRecord", .globalImplicit), ("OutOfLog", .globalImplicit), ("Fenced", .globalImplicit), ("OutOfOrder", .globalImplicit), ("NotDue", .globalImplicit), ("BadPlan", .globalImplicit), ("BadText", .globalImplicit), ("TooLarge", .globalImplicit)]
theorem sc_law_told : DefSc n_law_told ["what"] k_law_told (defScope s_law_told) := ⟨⟨rfl, rfl, rfl, by decide +kernel, rfl, by decide +kernel, by decide +kernel⟩, rfl, by decide +kernel⟩
abbrev s_law_chain : Stmt := top 22
abbrev n_law_chain : List Str := ["dice", "deeds", "turn", "rows", "row", "chain", "step", "stop", "k", "mark", "key", "value"]
abbrev k_law_chain : List (Str × NameKind) := [("dice", .local), ("deeds", .local), ("turn", .local), ("rows", .local), ("row", .local), ("chain", .local), ("step", .local), ("stop", .local), ("Deeds", .globalImplicit), ("range", .globalImplicit), ("_law_roll", .globalImplicit), ("Chain", .globalImplicit), ("len", .globalImplicit)]
theorem sc_law_chain : DefSc n_law_chain ["dice"] k_law_chain (defScope s_law_chain) := ⟨⟨rfl, rfl, rfl, by decide +kernel, rfl, by decide +kernel, by decide +kernel⟩, rfl, by decide +kernel⟩
abbrev kc0_law_chain : List (Str × NameKind) := [(".0", .local), ("k", .local), ("str", .globalImplicit)]
abbrev ow0_law_chain : List (Str × Nat) := [("k", 8)]
abbrev kc1_law_chain : List (Str × NameKind) := [(".0", .local), ("mark", .local), ("key", .local), ("value", .local)]
abbrev ow1_law_chain : List (Str × Nat) := [("mark", 9), ("key", 10), ("value", 11)]
abbrev kc2_law_chain : List (Str × NameKind) := [(".0", .local), ("row", .local)]
abbrev ow2_law_chain : List (Str × Nat) := [("row", 4)]
abbrev s_law_elder : Stmt := top 23
abbrev n_law_elder : List Str := ["deeds", "turns", "old"]
abbrev k_law_elder : List (Str × NameKind) := [("deeds", .cell), ("turns", .local), ("old", .cell), ("_law_told", .globalImplicit)]
theorem sc_law_elder : DefSc n_law_elder ["deeds", "turns"] k_law_elder (defScope s_law_elder) := ⟨⟨rfl, rfl, rfl, by decide +kernel, rfl, by decide +kernel, by decide +kernel⟩, rfl, by decide +kernel⟩
abbrev s_law_seen : Stmt := top 24
abbrev n_law_seen : List Str := ["deeds", "rows", "one_part", "sure", "value", "state", "mark", "key", "row"]
abbrev k_law_seen : List (Str × NameKind) := [("deeds", .local), ("rows", .local), ("one_part", .local), ("sure", .local), ("value", .local), ("state", .local), ("range", .globalImplicit), ("int", .globalImplicit)]
theorem sc_law_seen : DefSc n_law_seen ["deeds", "rows"] k_law_seen (defScope s_law_seen) := ⟨⟨rfl, rfl, rfl, by decide +kernel, rfl, by decide +kernel, by decide +kernel⟩, rfl, by decide +kernel⟩
abbrev kc0_law_seen : List (Str × NameKind) := [(".0", .local), ("mark", .local), ("key", .local), ("value", .local)]
abbrev ow0_law_seen : List (Str × Nat) := [("mark", 6), ("key", 7), ("value", 4)]
abbrev kc1_law_seen : List (Str × NameKind) := [(".0", .local), ("mark", .local), ("key", .local), ("value", .local)]
abbrev ow1_law_seen : List (Str × Nat) := [("mark", 6), ("key", 7), ("value", 4)]
abbrev kc2_law_seen : List (Str × NameKind) := [(".0", .local), ("row", .local)]
abbrev ow2_law_seen : List (Str × Nat) := [("row", 8)]
abbrev s_law : Stmt := top 25
abbrev n_law : List Str := ["script", "dice", "rows", "work", "count", "step", "one_part", "kind", "number", "row", "deeds", "end", "name", "turns"]
abbrev k_law : List (Str × NameKind) := [("script", .local), ("dice", .local), ("rows", .local), ("work", .local), ("count", .local), ("step", .local), ("one_part", .local), ("kind", .local), ("number", .local), ("row", .local), ("deeds", .cell), ("end", .cell), ("name", .cell), ("turns", .cell), ("_law_rounds", .globalImplicit), ("Deeds", .globalImplicit), ("range", .globalImplicit), ("_law_roll", .globalImplicit), ("_law_told", .globalImplicit), ("str", .globalImplicit), ("_law_seen", .globalImplicit), ("_law_elder", .globalImplicit), ("_law_chain", .globalImplicit)]
theorem sc_law : DefSc n_law ["script"] k_law (defScope s_law) := ⟨⟨rfl, rfl, rfl, by decide +kernel, rfl, by decide +kernel, by decide +kernel⟩, rfl, by decide +kernel⟩
end K08
set_option Elab.async false
set_option linter.all false
set_option maxRecDepth 100000
set_option maxHeartbeats 0
namespace K08
open PySem PySem.Spec L2 SW
open PyProof.Rows hiding St
/-! ### the head: facts by names, the run -/
def d0 : He.DefD := ⟨("check_record", none), "check_record", "check_record", defArgs s_check_record, defBody s_check_record, defScope s_check_record, [], []⟩
def d1 : He.DefD := ⟨("Log", some "__init__"), "__init__", "Log.__init__", defArgs s_Log__init, defBody s_Log__init, defScope s_Log__init, [], []⟩
def d2 : He.DefD := ⟨("Log", some "put"), "put", "Log.put", defArgs s_Log_put, defBody s_Log_put, defScope s_Log_put, [], []⟩
def d3 : He.DefD := ⟨("Log", some "kept"), "kept", "Log.kept", defArgs s_Log_kept, defBody s_Log_kept, defScope s_Log_kept, [], []⟩
def d4 : He.DefD := ⟨("Deeds", some "__init__"), "__init__", "Deeds.__init__", defArgs s_Deeds__init, defBody s_Deeds__init, defScope s_Deeds__init, [], []⟩
def d5 : He.DefD := ⟨("Deeds", some "begin_turn"), "begin_turn", "Deeds.begin_turn", defArgs s_Deeds_begin_turn, defBody s_Deeds_begin_turn, defScope s_Deeds_begin_turn, [], []⟩
def d6 : He.DefD := ⟨("Deeds", some "check"), "check", "Deeds.check", defArgs s_Deeds_check, defBody s_Deeds_check, defScope s_Deeds_check, [], []⟩
def d7 : He.DefD := ⟨("Deeds", some "begin"), "begin", "Deeds.begin", defArgs s_Deeds_begin, defBody s_Deeds_begin, defScope s_Deeds_begin, [], []⟩
def d8 : He.DefD := ⟨("Deeds", some "put"), "put", "Deeds.put", defArgs s_Deeds_put, defBody s_Deeds_put, defScope s_Deeds_put, [], []⟩
def d9 : He.DefD := ⟨("Deeds", some "keep_mark"), "keep_mark", "Deeds.keep_mark", defArgs s_Deeds_keep_mark, defBody s_Deeds_keep_mark, defScope s_Deeds_keep_mark, [], []⟩
def d10 : He.DefD := ⟨("Deeds", some "finish"), "finish", "Deeds.finish", defArgs s_Deeds_finish, defBody s_Deeds_finish, defScope s_Deeds_finish, [], []⟩
def d11 : He.DefD := ⟨("Deeds", some "end_at"), "end_at", "Deeds.end_at", defArgs s_Deeds_end_at, defBody s_Deeds_end_at, defScope s_Deeds_end_at, [], []⟩
def d12 : He.DefD := ⟨("Deeds", some "sure_end"), "sure_end", "Deeds.sure_end", defArgs s_Deeds_sure_end, defBody s_Deeds_sure_end, defScope s_Deeds_sure_end, [], []⟩
def d13 : He.DefD := ⟨("Deeds", some "read"), "read", "Deeds.read", defArgs s_Deeds_read, defBody s_Deeds_read, defScope s_Deeds_read, [], []⟩
def d14 : He.DefD := ⟨("Deeds", some "ends_of"), "ends_of", "Deeds.ends_of", defArgs s_Deeds_ends_of, defBody s_Deeds_ends_of, defScope s_Deeds_ends_of, [], []⟩
def d15 : He.DefD := ⟨("Chain", some "__init__"), "__init__", "Chain.__init__", defArgs s_Chain__init, defBody s_Chain__init, defScope s_Chain__init, [], []⟩
def d16 : He.DefD := ⟨("Chain", some "step"), "step", "Chain.step", defArgs s_Chain_step, defBody s_Chain_step, defScope s_Chain_step, [], []⟩
def d17 : He.DefD := ⟨("Chain", some "again"), "again", "Chain.again", defArgs s_Chain_again, defBody s_Chain_again, defScope s_Chain_again, [], []⟩
def d18 : He.DefD := ⟨("_law_dice", none), "_law_dice", "_law_dice", defArgs s_law_dice, defBody s_law_dice, defScope s_law_dice, [], []⟩
def d19 : He.DefD := ⟨("_law_roll", none), "_law_roll", "_law_roll", defArgs s_law_roll, defBody s_law_roll, defScope s_law_roll, [], []⟩
def d20 : He.DefD := ⟨("_law_rounds", none), "_law_rounds", "_law_rounds", defArgs s_law_rounds, defBody s_law_rounds, defScope s_law_rounds, [], []⟩
def d21 : He.DefD := ⟨("_law_told", none), "_law_told", "_law_told", defArgs s_law_told, defBody s_law_told, defScope s_law_told, [], []⟩
def d22 : He.DefD := ⟨("_law_chain", none), "_law_chain", "_law_chain", defArgs s_law_chain, defBody s_law_chain, defScope s_law_chain, [], []⟩
def d23 : He.DefD := ⟨("_law_elder", none), "_law_elder", "_law_elder", defArgs s_law_elder, defBody s_law_elder, defScope s_law_elder, [], []⟩
def d24 : He.DefD := ⟨("_law_seen", none), "_law_seen", "_law_seen", defArgs s_law_seen, defBody s_law_seen, defScope s_law_seen, [], []⟩
def d25 : He.DefD := ⟨("law", none), "law", "law", defArgs s_law, defBody s_law, defScope s_law, [], []⟩
def fnl : List He.DefD := [d0, d1, d2, d3, d4, d5, d6, d7, d8, d9, d10, d11, d12, d13, d14, d15, d16, d17, d18, d19, d20, d21, d22, d23, d24, d25]
def fal : List He.Fa := [.free "int", .free "bool", .free "str", .free "isinstance", .free "len", .free "range", .free "tuple", .free "list", .free "dict", .free "ord", .free "sum", .free "sorted", .free "min", .free "super", .free "abs", .glo "BadRecord", .glo "OutOfLog", .glo "Fenced", .glo "OutOfOrder", .glo "NotDue", .glo "BadPlan", .glo "BadText", .glo "TooLarge", .glo "check_record", .glo "Log", .glo "Deeds", .glo "Chain", .glo "_law_dice", .glo "_law_roll", .glo "_law_rounds", .glo "_law_told", .glo "_law_chain", .glo "_law_elder", .glo "_law_seen", .glo "law", .cls "Deeds", .noat "Deeds" "logs", .noat "Deeds" "what", .noat "Deeds" "turns", .noat "Deeds" "at_work", .noat "Deeds" "count", .noat "Deeds" "marks", .cls "Chain", .noat "Chain" "deeds", .noat "Chain" "giver", .noat "Chain" "goal", .noat "Chain" "group", .noat "Chain" "turn", .cls "Log", .noat "Log" "piece", .noat "Log" "pieces", .noat "Log" "start", .noat "Log" "end", .noat "BadRecord" "place", .exc "NotDue", .exc "Fenced", .exm "NotDue" "BadRecord" false, .exm "NotDue" "OutOfLog" false, .exm "NotDue" "Fenced" false, .exm "NotDue" "OutOfOrder" false, .exm "NotDue" "NotDue" true, .exm "Fenced" "BadRecord" false, .exm "Fenced" "OutOfLog" false, .exm "Fenced" "Fenced" true, .keep "check_record", .mkr "Log", .meth "Log" "put", .meth "Log" "kept", .mkr "Deeds", .meth "Deeds" "begin_turn", .meth "Deeds" "check", .meth "Deeds" "begin", .meth "Deeds" "put", .meth "Deeds" "keep_mark", .meth "Deeds" "finish", .meth "Deeds" "end_at", .meth "Deeds" "sure_end", .meth "Deeds" "read", .meth "Deeds" "ends_of", .mkr "Chain", .meth "Chain" "step", .meth "Chain" "again", .keep "_law_dice", .keep "_law_roll", .keep "_law_rounds", .keep "_law_told", .keep "_law_chain", .keep "_law_elder", .keep "_law_seen", .keep "law"]
def tfl : List He.Defn := [("law", none), ("_law_elder", none)]
def sfl : List XiD := [("BadRecord", defArgs s_BadRecord__init, defBody s_BadRecord__init, defScope s_BadRecord__init)]
def exl : PySem.W.Frag → Bool := fun K => (supB PySem.Challenge.pw_brookhall_k08_deeds_all_or_nothing K "BadRecord" && (decide ((He.cT K ("law", none)).2 ≠ (He.cT K ("_law_elder", none)).2) && true))
abbrev Rw : PySem.W.OpenRow := PySem.W.OpenLaw.row PySem.Challenge.rw_brookhall_k08_deeds_all_or_nothing
    abbrev hk : PySem.W.Hook := hookY 6 fal fnl tfl sfl exl
    def ob (s : PySem.W.SharedT) : AlY := obsY 6 fal fnl tfl sfl exl (HandSHeadRun.getT s)
    theorem ob_eq (s : PySem.W.SharedT) : ob s = hk.obs s.abs := obsY_eq (HandSHeadRun.getT_eq s)
    theorem run (w : World) : HandSHeadRun.RunEq Rw (PySem.W.view Rw.prog [25]) hk ob 12000 ["_wall", "BrookFault", "BadRecord", "OutOfLog", "Fenced", "OutOfOrder", "NotDue", "BadPlan", "BadText", "TooLarge", "check_record", "Log", "Deeds", "Chain", "_law_dice", "_law_roll", "_law_rounds", "_law_told", "_law_chain", "_law_elder", "_law_seen"] w := by
      intro os
      kernel_rfl
end K08
set_option Elab.async false
set_option linter.all false
set_option maxRecDepth 100000
set_option maxHeartbeats 800000
/-! K08p: deeds, plain. -/
namespace K08
open PySem SW
--BEGIN
open SW
abbrev PR := Int × Str × Str × Option Int × Str
def bI : Bool → Int | false => 0 | true => 1
abbrev MkD := List ((Str × Int) × Int)
abbrev WKA := Int × List (Bool × Int) × MkD
abbrev WK0 := Str × WKA
structure DS where
  pa : Bool → List PR
  tu : List (Str × Int)
  wk : List WK0
  ct : Int
  gm : MkD
def rowS : Str := "row"
def keptS : Str := "kept"
def leftS : Str := "left"
def endS : Str := "end"
theorem kind_ne : keptS ≠ rowS ∧ leftS ≠ rowS ∧ keptS ≠ leftS := by decide +kernel
def isRow (e : PR) : Bool := decide (e.2.2.2.2 = rowS)
def endStep (k : Int) (o : Option Str) (e : PR) : Option Str := if isRow e = false ∧ e.2.2.2.1 = some k then some e.2.2.2.2 else o
def endOf (es : List PR) (k : Int) : Option Str := es.foldl (endStep k) none
def isAt (k : Int) (e : PR) : Bool := isRow e && decide (e.2.2.2.1 = some k)
def fstAt (es : List PR) (k : Int) : Option Nat := es.findIdx? (isAt k)
def mergeS (a b : MkD) : MkD := b.foldl (fun acc p => sput acc p.1 p.2) a
def fput (fs : List (Bool × Int)) (b : Bool) (m : Int) : List (Bool × Int) := if (sget fs b).isSome = true then fs else fs ++ [(b, m)]
def wput (w : List WK0) (g : Str) (b : Bool) (m : Int) : List WK0 := w.map fun x => if x.1 = g then (x.1, x.2.1, fput x.2.2.1 b m, x.2.2.2) else x
def DS.put (S : DS) (g : Str) (b : Bool) (k v : Str) : DS := { S with pa := fun c => if c = b then S.pa b ++ [(S.ct, k, v, (sget S.wk g).map (·.1), rowS)] else S.pa c, wk := wput S.wk g b (S.pa b).length }
def DS.begin (S : DS) (g : Str) : DS := { S with ct := S.ct + 1, wk := S.wk ++ [(g, S.ct + 1, [], [])] }
def endE (S : DS) (k : Int) (kind : Str) (num : Str) : PR := (S.ct, endS, num, some k, kind)
def DS.endW (S : DS) (g kind : Str) (w : WKA) (num : Str) : DS := { S with wk := S.wk.filter (fun x => decide (x.1 ≠ g)), pa := fun b => if (sget w.2.1 b).isSome = true then S.pa b ++ [endE S w.1 kind num] else S.pa b, gm := if kind = keptS then mergeS S.gm w.2.2 else S.gm }
def DS.keep (S : DS) (g grp : Str) (p m : Int) : DS := { S with wk := S.wk.map fun x => if x.1 = g then (x.1, x.2.1, x.2.2.1, sput x.2.2.2 (grp, p) m) else x }
/-- what a reader that waits sees of rows -/
def seenB (es : List PR) (e : PR) : Bool := match e.2.2.2.1 with
  | none => true
  | some k => decide (endOf es k = some keptS)
def readF (es : List PR) (mark fin : Int) (waits : Bool) : List (Int × Str × Str) := (es.zipIdx.filter fun q => decide (mark ≤ (q.2 : Int)) && decide ((q.2 : Int) < fin) && isRow q.1 && (!waits || seenB es q.1)).map fun q => ((q.2 : Int), q.1.2.1, q.1.2.2.1)
theorem endOf_snoc (es : List PR) (e : PR) (k : Int) : endOf (es ++ [e]) k = endStep k (endOf es k) e := by simp [endOf, List.foldl_append]
theorem endOf_row {es : List PR} {e : PR} {k : Int} (h : isRow e = true) : endOf (es ++ [e]) k = endOf es k := by
  rw [endOf_snoc]; unfold endStep; rw [if_neg (by rw [h]; simp)]
theorem endOf_none {k : Int} : ∀ {es : List PR}, (∀ e ∈ es, e.2.2.2.1 ≠ some k) → endOf es k = none := by
  intro es h
  unfold endOf
  suffices g : ∀ (l : List PR) (o : Option Str), (∀ e ∈ l, e.2.2.2.1 ≠ some k) → l.foldl (endStep k) o = o from g es none h
  intro l
  induction l with
  | nil => intro o _; rfl
  | cons e l ih =>
    intro o hl
    rw [List.foldl_cons, ih _ fun x hx => hl x (List.mem_cons_of_mem _ hx)]
    unfold endStep
    rw [if_neg fun z => hl e List.mem_cons_self z.2]
theorem fstAt_snoc (es : List PR) (e : PR) (k : Int) : fstAt (es ++ [e]) k = match fstAt es k with | some m => some m | none => if isAt k e = true then some es.length else none := by
  unfold fstAt
  rw [List.findIdx?_append]
  cases h : es.findIdx? (isAt k) with
  | some m => rfl
  | none =>
    by_cases c : isAt k e = true
    · rw [if_pos c]; simp [List.findIdx?_cons, c]
    · rw [if_neg c]; simp [List.findIdx?_cons, c]
theorem fstAt_none {es : List PR} {k : Int} : fstAt es k = none ↔ ∀ e ∈ es, isAt k e = false := by
  unfold fstAt; rw [List.findIdx?_eq_none_iff]
theorem sget_snoc {κ α : Type} [DecidableEq κ] (d : List (κ × α)) (k j : κ) (v : α) : sget (d ++ [(k, v)]) j = match sget d j with | some x => some x | none => if k = j then some v else none := by
  induction d with
  | nil => rw [List.nil_append, sget_cons]; rfl
  | cons p d ih =>
    rw [List.cons_append, sget_cons, sget_cons, ih]
    by_cases c : p.1 = j
    · rw [if_pos c, if_pos c]
    · rw [if_neg c, if_neg c]
theorem sget_none_iff {κ α : Type} [DecidableEq κ] {d : List (κ × α)} {k : κ} : sget d k = none ↔ ∀ p ∈ d, p.1 ≠ k := by
  induction d with
  | nil => simp [sget]
  | cons p d ih =>
    rw [sget_cons]
    by_cases c : p.1 = k
    · rw [if_pos c]; simp [c]
    · rw [if_neg c, ih]; simp [c]
theorem sget_filter {κ α : Type} [DecidableEq κ] (d : List (κ × α)) (k j : κ) : sget (d.filter fun x => decide (x.1 ≠ k)) j = if j = k then none else sget d j := by
  induction d with
  | nil => simp [sget]
  | cons p d ih =>
    rw [List.filter_cons]
    by_cases c : p.1 = k
    · rw [if_neg (by simp [c]), ih, sget_cons]
      by_cases cj : j = k
      · rw [if_pos cj, if_pos cj]
      · rw [if_neg cj, if_neg cj, if_neg fun z => cj (by rw [← z, c])]
    · rw [if_pos (by simp [c]), sget_cons, sget_cons, ih]
      by_cases cj : j = k
      · rw [if_pos cj, if_neg fun z => c (by rw [z, cj])]
        rw [if_pos cj]
      · rw [if_neg cj, if_neg cj]
theorem sget_mapV {κ α : Type} [DecidableEq κ] (f : κ → α → α) (d : List (κ × α)) (j : κ) : sget (d.map fun x => (x.1, f x.1 x.2)) j = (sget d j).map (f j) := by
  induction d with
  | nil => rfl
  | cons p d ih =>
    rw [List.map_cons, sget_cons, sget_cons, ih]
    by_cases c : p.1 = j
    · rw [if_pos c, if_pos c, c]; rfl
    · rw [if_neg c, if_neg c]
theorem fput_get (fs : List (Bool × Int)) (b c : Bool) (m : Int) : sget (fput fs b m) c = match sget fs c with | some x => some x | none => if c = b then some m else none := by
  unfold fput
  by_cases h : (sget fs b).isSome = true
  · rw [if_pos h]
    cases e : sget fs c with
    | some x => rfl
    | none =>
      by_cases cb : c = b
      · subst cb; rw [e] at h; cases h
      · simp [cb]
  · rw [if_neg h, sget_snoc]
    cases e : sget fs c with
    | some x => rfl
    | none =>
      by_cases cb : c = b
      · simp [cb]
      · simp [cb, Ne.symm cb]
theorem fput_nd {fs : List (Bool × Int)} {b : Bool} {m : Int} (h : NdS fs) : NdS (fput fs b m) := by
  unfold fput
  by_cases c : (sget fs b).isSome = true
  · rw [if_pos c]; exact h
  · rw [if_neg c]
    have hn : sget fs b = none := by simpa using c
    rw [sget_none_iff] at hn
    unfold NdS
    rw [List.map_append, List.nodup_append]
    refine ⟨h, by simp, fun x hx y hy => ?_⟩
    obtain ⟨p, hp, rfl⟩ := List.mem_map.mp hx
    have : y = b := by simpa using hy
    rw [this]
    exact hn p hp
theorem wput_get (w : List WK0) (g j : Str) (b : Bool) (m : Int) : sget (wput w g b m) j = (sget w j).map fun x => if j = g then (x.1, fput x.2.1 b m, x.2.2) else x := by
  have e : wput w g b m = w.map fun x => (x.1, (fun (j : Str) (x : WKA) => if j = g then (x.1, fput x.2.1 b m, x.2.2) else x) x.1 x.2) := by
    unfold wput
    refine List.map_congr_left fun x _ => ?_
    by_cases c : x.1 = g
    · simp only [if_pos c]
    · simp only [if_neg c]
  rw [e]; exact sget_mapV (fun (j : Str) (x : WKA) => if j = g then (x.1, fput x.2.1 b m, x.2.2) else x) w j
theorem wput_names (w : List WK0) (g : Str) (b : Bool) (m : Int) : (wput w g b m).map (fun x => (x.1, x.2.1)) = w.map (fun x => (x.1, x.2.1)) := by
  unfold wput
  rw [List.map_map]
  refine List.map_congr_left fun x _ => ?_
  show ((if x.1 = g then (x.1, x.2.1, fput x.2.2.1 b m, x.2.2.2) else x).1, (if x.1 = g then (x.1, x.2.1, fput x.2.2.1 b m, x.2.2.2) else x).2.1) = _
  by_cases c : x.1 = g
  · rw [if_pos c]
  · rw [if_neg c]
--END
end K08
set_option Elab.async false
set_option linter.all false
set_option maxRecDepth 100000
set_option maxHeartbeats 800000
/-! K08q: deeds, plain: what holds, what is seen. -/
namespace K08
open PySem SW
--BEGIN
inductive LSt | non | num (k : Int) | gone
deriving DecidableEq
def numsS (S : DS) : List Int := S.wk.map (·.2.1)
def stOf (S : DS) (b : Bool) (e : PR) : LSt := match e.2.2.2.1 with
  | none => .non
  | some k => if k ∈ numsS S then .num k else if endOf (S.pa b) k = some leftS then .gone else .non
def rowsL (S : DS) (b : Bool) : List (Str × LSt) := ((S.pa b).filter isRow).map fun e => (e.2.2.1, stOf S b e)
structure DI (S : DS) : Prop where
  nk : (numsS S).Nodup
  nn : NdS S.wk
  le : ∀ w ∈ S.wk, w.2.1 ≤ S.ct
  ek : ∀ b, ∀ e ∈ S.pa b, ∀ k, e.2.2.2.1 = some k → k ≤ S.ct
  kd : ∀ b, ∀ e ∈ S.pa b, isRow e = false → (∃ k, e.2.2.2.1 = some k) ∧ (e.2.2.2.2 = keptS ∨ e.2.2.2.2 = leftS)
  en : ∀ b, ∀ e ∈ S.pa b, ∀ k, isAt k e = true → k ∈ numsS S ∨ endOf (S.pa b) k = some keptS ∨ endOf (S.pa b) k = some leftS
  wn : ∀ w ∈ S.wk, ∀ b, endOf (S.pa b) w.2.1 = none
  fs : ∀ w ∈ S.wk, NdS w.2.2.1 ∧ ∀ b, sget w.2.2.1 b = (fstAt (S.pa b) w.2.1).map fun i => ((i : Nat) : Int)
  ml : ∀ w ∈ S.wk, w.2.2.2.length ≤ 1
def DS.new : DS := ⟨fun _ => [], [], [], 0, []⟩
theorem DI.start {tu : List (Str × Int)} : DI { DS.new with tu := tu } := ⟨List.nodup_nil, List.nodup_nil, nofun, nofun, nofun, nofun, nofun, nofun, nofun⟩
theorem DI.tu {S : DS} (h : DI S) (tu : List (Str × Int)) : DI { S with tu := tu } := ⟨h.nk, h.nn, h.le, h.ek, h.kd, h.en, h.wn, h.fs, h.ml⟩
theorem isAt_ek {k : Int} {e : PR} (h : isAt k e = true) : isRow e = true ∧ e.2.2.2.1 = some k := by
  unfold isAt at h
  rw [Bool.and_eq_true] at h
  exact ⟨h.1, of_decide_eq_true h.2⟩
theorem DI.no_ek {S : DS} (h : DI S) {b : Bool} {k : Int} (hk : S.ct < k) : endOf (S.pa b) k = none ∧ fstAt (S.pa b) k = none := by
  refine ⟨endOf_none fun (e : PR) he c => ?_, fstAt_none.mpr fun (e : PR) he => ?_⟩
  · have := h.ek b e he k c; omega
  · cases c : isAt k e with
    | false => rfl
    | true => have := h.ek b e he k (isAt_ek c).2; omega
theorem DI.begin {S : DS} (h : DI S) {g : Str} (hg : sget S.wk g = none) : DI (S.begin g) ∧ ∀ b, rowsL (S.begin g) b = rowsL S b := by
  have fr : S.ct + 1 ∉ numsS S := fun z => by
    obtain ⟨w, hw, e⟩ := List.mem_map.mp z
    have := h.le w hw; omega
  have en : numsS (S.begin g) = numsS S ++ [S.ct + 1] := by simp [numsS, DS.begin]
  refine ⟨⟨?_, ?_, ?_, ?_, h.kd, ?_, ?_, ?_, ?_⟩, fun b => ?_⟩
  · rw [en, List.nodup_append]
    refine ⟨h.nk, by simp, fun x hx y hy => ?_⟩
    have e : y = S.ct + 1 := by simpa using hy
    rw [e]; intro z; exact fr (z ▸ hx)
  · rw [sget_none_iff] at hg
    show ((S.wk ++ ([(g, S.ct + 1, [], [])] : List WK0)).map (·.1)).Nodup
    rw [List.map_append, List.nodup_append]
    refine ⟨h.nn, by simp, fun x hx y hy => ?_⟩
    obtain ⟨p, hp, rfl⟩ := List.mem_map.mp hx
    have : y = g := by simpa using hy
    rw [this]
    exact hg p hp
  · intro w hw
    rcases List.mem_append.mp hw with hw | hw
    · have := h.le w hw; show w.2.1 ≤ S.ct + 1; omega
    · have : w = (g, S.ct + 1, [], []) := by simpa using hw
      rw [this]; exact Int.le_refl _
  · intro b e he k hk
    have := h.ek b e he k hk; show k ≤ S.ct + 1; omega
  · intro b e he k hk
    rcases h.en b e he k hk with q | q
    · exact .inl (by rw [en]; exact List.mem_append_left _ q)
    · exact .inr q
  · intro w hw b
    rcases List.mem_append.mp hw with hw | hw
    · exact h.wn w hw b
    · have : w = (g, S.ct + 1, [], []) := by simpa using hw
      rw [this]; exact (h.no_ek (by show S.ct < S.ct + 1; omega)).1
  · intro w hw
    rcases List.mem_append.mp hw with hw | hw
    · exact h.fs w hw
    · have : w = (g, S.ct + 1, [], []) := by simpa using hw
      rw [this]
      refine ⟨List.nodup_nil, fun b => ?_⟩
      show sget [] b = (fstAt (S.pa b) (S.ct + 1)).map _
      rw [(h.no_ek (by omega)).2]; rfl
  · intro w hw
    rcases List.mem_append.mp hw with hw | hw
    · exact h.ml w hw
    · have : w = (g, S.ct + 1, [], []) := by simpa using hw
      rw [this]; exact Nat.zero_le _
  · unfold rowsL
    refine List.map_congr_left fun e he => ?_
    have he2 := (List.mem_filter.mp he).1
    show (e.2.2.1, stOf (S.begin g) b e) = (e.2.2.1, stOf S b e)
    congr 1
    unfold stOf
    cases c : e.2.2.2.1 with
    | none => rfl
    | some k =>
      have hk := h.ek b e he2 k c
      have : k ∈ numsS (S.begin g) ↔ k ∈ numsS S := by
        rw [en, List.mem_append]
        refine ⟨fun z => z.elim id fun z => ?_, .inl⟩
        have : k = S.ct + 1 := by simpa using z
        omega
      simp only [this]
      rfl
theorem wput_mem {w : List WK0} {g : Str} {b : Bool} {m : Int} {x : WK0} (hx : x ∈ wput w g b m) : ∃ y ∈ w, (y.1 = g ∧ x = (y.1, y.2.1, fput y.2.2.1 b m, y.2.2.2)) ∨ (y.1 ≠ g ∧ x = y) := by
  unfold wput at hx
  obtain ⟨y, hy, e⟩ := List.mem_map.mp hx
  refine ⟨y, hy, ?_⟩
  by_cases c : y.1 = g
  · rw [if_pos c] at e; exact .inl ⟨c, e.symm⟩
  · rw [if_neg c] at e; exact .inr ⟨c, e.symm⟩
theorem nums_put (S : DS) (g : Str) (b : Bool) (k v : Str) : numsS (S.put g b k v) = numsS S := by
  have e := congrArg (List.map (·.2)) (wput_names S.wk g b (S.pa b).length)
  rw [List.map_map, List.map_map] at e
  exact e
theorem names_put (S : DS) (g : Str) (b : Bool) (k v : Str) : (S.put g b k v).wk.map (·.1) = S.wk.map (·.1) := by
  have e := congrArg (List.map (·.1)) (wput_names S.wk g b (S.pa b).length)
  rw [List.map_map, List.map_map] at e
  exact e
theorem num_of {S : DS} (h : DI S) {w w' : WK0} (hw : w ∈ S.wk) (hw' : w' ∈ S.wk) (e : w.2.1 = w'.2.1) : w = w' := by
  have nd := h.nk
  unfold numsS at nd
  induction hS : S.wk with
  | nil => rw [hS] at hw; cases hw
  | cons a l _ =>
    rw [List.nodup_iff_pairwise_ne, List.pairwise_map] at nd
    rcases List.mem_iff_getElem.mp hw with ⟨i, hi, e1⟩
    rcases List.mem_iff_getElem.mp hw' with ⟨j, hj, e2⟩
    rw [List.pairwise_iff_getElem] at nd
    rcases Nat.lt_trichotomy i j with c | c | c
    · exact absurd (by rw [e1, e2]; exact e) (nd i j hi hj c)
    · subst c; rw [← e1, ← e2]
    · exact absurd (by rw [e1, e2]; exact e.symm) (nd j i hj hi c)
def stNew (S : DS) (g : Str) : LSt := match sget S.wk g with | none => .non | some w => .num w.1
theorem DI.put {S : DS} (h : DI S) (g : Str) (b : Bool) (k v : Str) : DI (S.put g b k v) ∧ ∀ c, rowsL (S.put g b k v) c = if c = b then rowsL S b ++ [(v, stNew S g)] else rowsL S c := by
  have hn := nums_put S g b k v
  generalize hE : ((S.ct, k, v, (sget S.wk g).map (·.1), rowS) : PR) = E
  have hrow : isRow E = true := by subst hE; exact decide_eq_true rfl
  have hdeed : E.2.2.2.1 = (sget S.wk g).map (·.1) := by subst hE; rfl
  have hpa : ∀ c, (S.put g b k v).pa c = if c = b then S.pa b ++ [E] else S.pa c := fun c => by subst hE; rfl
  have hend : ∀ c j, endOf ((S.put g b k v).pa c) j = endOf (S.pa c) j := fun c j => by
    rw [hpa]
    by_cases cb : c = b
    · rw [if_pos cb, endOf_row hrow, cb]
    · rw [if_neg cb]
  have hmem : ∀ c e, e ∈ (S.put g b k v).pa c → e ∈ S.pa c ∨ (c = b ∧ e = E) := fun c e he => by
    rw [hpa] at he
    by_cases cb : c = b
    · rw [if_pos cb] at he
      rcases List.mem_append.mp he with he | he
      · exact .inl (cb ▸ he)
      · exact .inr ⟨cb, by simpa using he⟩
    · rw [if_neg cb] at he; exact .inl he
  have hst : ∀ c e, stOf (S.put g b k v) c e = stOf S c e := fun c e => by
    unfold stOf
    cases e.2.2.2.1 with
    | none => rfl
    | some j => simp only [hn, hend]
  refine ⟨⟨by rw [hn]; exact h.nk, by unfold NdS; rw [names_put]; exact h.nn, ?_, ?_, ?_, ?_, ?_, ?_, ?_⟩, fun c => ?_⟩
  · intro w hw
    obtain ⟨y, hy, ⟨_, e⟩ | ⟨_, e⟩⟩ := wput_mem hw
    · rw [e]; exact h.le y hy
    · rw [e]; exact h.le y hy
  · intro c e he j hj
    rcases hmem c e he with he | ⟨_, rfl⟩
    · exact h.ek c e he j hj
    · rw [hdeed] at hj
      cases hs : sget S.wk g with
      | none => rw [hs] at hj; cases hj
      | some w =>
        rw [hs] at hj
        have : w.1 = j := Option.some.inj hj
        rw [← this]
        exact h.le _ (mem_of_sget hs)
  · intro c e he hr
    rcases hmem c e he with he | ⟨_, rfl⟩
    · exact h.kd c e he hr
    · rw [hrow] at hr; cases hr
  · intro c e he j hj
    rw [hend, hn]
    rcases hmem c e he with he | ⟨_, rfl⟩
    · exact h.en c e he j hj
    · have hj := (isAt_ek hj).2
      rw [hdeed] at hj
      cases hs : sget S.wk g with
      | none => rw [hs] at hj; cases hj
      | some w =>
        rw [hs] at hj
        have : w.1 = j := Option.some.inj hj
        rw [← this]
        exact .inl (List.mem_map.mpr ⟨_, mem_of_sget hs, rfl⟩)
  · intro w hw c
    rw [hend]
    obtain ⟨y, hy, ⟨_, e⟩ | ⟨_, e⟩⟩ := wput_mem hw
    · rw [e]; exact h.wn y hy c
    · rw [e]; exact h.wn y hy c
  · intro w hw
    obtain ⟨y, hy, hyw⟩ := wput_mem hw
    obtain ⟨f1, f2⟩ := h.fs y hy
    have hk : w.2.1 = y.2.1 := by rcases hyw with ⟨_, e⟩ | ⟨_, e⟩ <;> rw [e]
    have hat : isAt y.2.1 E = decide (y.1 = g) := by
      unfold isAt
      rw [hrow, hdeed, Bool.true_and]
      by_cases c : y.1 = g
      · have := sget_of_mem h.nn hy
        rw [c] at this
        rw [this, decide_eq_true c]
        exact decide_eq_true rfl
      · rw [decide_eq_false c]
        refine decide_eq_false fun z => ?_
        cases hs : sget S.wk g with
        | none => rw [hs] at z; cases z
        | some u =>
          rw [hs] at z
          have e1 : u.1 = y.2.1 := Option.some.inj z
          have := num_of h (mem_of_sget hs) hy e1
          exact c (by rw [← this])
    have hf : ∀ c, fstAt ((S.put g b k v).pa c) y.2.1 = if c = b ∧ y.1 = g then (match fstAt (S.pa b) y.2.1 with | some m => some m | none => some (S.pa b).length) else fstAt (S.pa c) y.2.1 := fun c => by
      rw [hpa]
      by_cases cb : c = b
      · subst cb
        rw [if_pos rfl, fstAt_snoc, hat]
        by_cases cg : y.1 = g
        · rw [if_pos (⟨rfl, cg⟩ : c = c ∧ y.1 = g)]
          cases fstAt (S.pa c) y.2.1 with
          | some m => rfl
          | none => simp [cg]
        · rw [if_neg (fun z : c = c ∧ y.1 = g => cg z.2)]
          cases fstAt (S.pa c) y.2.1 with
          | some m => rfl
          | none => simp [cg]
      · rw [if_neg cb, if_neg (fun z : c = b ∧ y.1 = g => cb z.1)]
    rcases hyw with ⟨cg, e⟩ | ⟨cg, e⟩
    · rw [e]
      refine ⟨fput_nd f1, fun c => ?_⟩
      show sget (fput y.2.2.1 b _) c = _
      rw [fput_get, f2]
      show _ = (fstAt ((S.put g b k v).pa c) y.2.1).map _
      rw [hf]
      by_cases cb : c = b
      · subst cb
        rw [if_pos (⟨rfl, cg⟩ : c = c ∧ y.1 = g)]
        cases fstAt (S.pa c) y.2.1 with
        | some m => rfl
        | none => simp
      · rw [if_neg (fun z : c = b ∧ y.1 = g => cb z.1)]
        cases fstAt (S.pa c) y.2.1 with
        | some m => rfl
        | none => simp [cb]
    · rw [e]
      refine ⟨f1, fun c => ?_⟩
      rw [f2, hf, if_neg (fun z : c = b ∧ y.1 = g => cg z.2)]
  · intro w hw
    obtain ⟨y, hy, ⟨_, e⟩ | ⟨_, e⟩⟩ := wput_mem hw
    · rw [e]; exact h.ml y hy
    · rw [e]; exact h.ml y hy
  · by_cases cb : c = b
    · subst cb
      rw [if_pos rfl]
      unfold rowsL
      rw [hpa, if_pos rfl, List.filter_append, List.map_append]
      have e1 : [E].filter isRow = [E] := by rw [List.filter_cons, if_pos hrow]; rfl
      rw [e1]
      congr 1
      · exact List.map_congr_left fun e _ => by rw [hst]
      · show [(E.2.2.1, stOf (S.put g c k v) c E)] = _
        rw [hst]
        have : E.2.2.1 = v := by subst hE; rfl
        rw [this]
        have : stOf S c E = stNew S g := by
          unfold stOf stNew
          rw [hdeed]
          cases hs : sget S.wk g with
          | none => rfl
          | some w => exact if_pos (List.mem_map.mpr ⟨_, mem_of_sget hs, rfl⟩)
        rw [this]
    · rw [if_neg cb]
      unfold rowsL
      rw [hpa, if_neg cb]
      exact List.map_congr_left fun e _ => by rw [hst]
def stEnd (kind : Str) (k : Int) (r : Str × LSt) : Str × LSt := if r.2 = .num k then (r.1, if kind = leftS then .gone else .non) else r
theorem DI.endW {S : DS} (h : DI S) {g kind num : Str} {w : WKA} (hg : sget S.wk g = some w) (hkd : kind = keptS ∨ kind = leftS) : DI (S.endW g kind w num) ∧ ∀ c, rowsL (S.endW g kind w num) c = (rowsL S c).map (stEnd kind w.1) := by
  have hm := mem_of_sget hg
  have hkr : kind ≠ rowS := by
    rcases hkd with z | z
    · rw [z]; exact kind_ne.1
    · rw [z]; exact kind_ne.2.1
  generalize hE : endE S w.1 kind num = E
  have hrow : isRow E = false := by subst hE; exact decide_eq_false hkr
  have hdeed : E.2.2.2.1 = some w.1 := by subst hE; rfl
  have hkind : E.2.2.2.2 = kind := by subst hE; rfl
  have hpa : ∀ c, (S.endW g kind w num).pa c = if (sget w.2.1 c).isSome = true then S.pa c ++ [E] else S.pa c := fun c => by subst hE; rfl
  obtain ⟨f1, f2⟩ := h.fs _ hm
  have f2 : ∀ b, sget w.2.1 b = (fstAt (S.pa b) w.1).map fun i => ((i : Nat) : Int) := f2
  have hmem : ∀ c e, e ∈ (S.endW g kind w num).pa c → e ∈ S.pa c ∨ e = E := fun c e he => by
    rw [hpa] at he
    by_cases cb : (sget w.2.1 c).isSome = true
    · rw [if_pos cb] at he
      rcases List.mem_append.mp he with he | he
      · exact .inl he
      · exact .inr (by simpa using he)
    · rw [if_neg cb] at he; exact .inl he
  have hend : ∀ c j, j ≠ w.1 → endOf ((S.endW g kind w num).pa c) j = endOf (S.pa c) j := fun c j hj => by
    rw [hpa]
    by_cases cb : (sget w.2.1 c).isSome = true
    · rw [if_pos cb, endOf_snoc]
      unfold endStep
      rw [if_neg fun z => hj (by have := z.2; rw [hdeed] at this; exact (Option.some.inj this).symm)]
    · rw [if_neg cb]
  have hend2 : ∀ c e, e ∈ S.pa c → isAt w.1 e = true → endOf ((S.endW g kind w num).pa c) w.1 = some kind := fun c e he hat => by
    rw [hpa, if_pos, endOf_snoc]
    · unfold endStep
      rw [if_pos ⟨hrow, hdeed⟩, hkind]
    · rw [f2]
      cases hf : fstAt (S.pa c) w.1 with
      | some m => rfl
      | none => rw [fstAt_none] at hf; rw [hf e he] at hat; cases hat
  have hnum : ∀ j, j ∈ numsS (S.endW g kind w num) ↔ j ∈ numsS S ∧ j ≠ w.1 := fun j => by
    constructor
    · intro hj
      obtain ⟨y, hy, rfl⟩ := List.mem_map.mp hj
      obtain ⟨y1, y2⟩ := List.mem_filter.mp hy
      refine ⟨List.mem_map.mpr ⟨y, y1, rfl⟩, fun z => ?_⟩
      have := num_of h y1 hm z
      rw [this] at y2
      exact of_decide_eq_true y2 rfl
    · rintro ⟨hj, hne⟩
      obtain ⟨y, hy, rfl⟩ := List.mem_map.mp hj
      refine List.mem_map.mpr ⟨y, List.mem_filter.mpr ⟨hy, decide_eq_true fun z => hne ?_⟩, rfl⟩
      have := sget_of_mem h.nn hy
      rw [z, hg] at this
      rw [← Option.some.inj this]
  have hfst : ∀ c j, fstAt ((S.endW g kind w num).pa c) j = fstAt (S.pa c) j := fun c j => by
    rw [hpa]
    by_cases cb : (sget w.2.1 c).isSome = true
    · rw [if_pos cb, fstAt_snoc]
      have : isAt j E = false := by unfold isAt; rw [hrow]; rfl
      rw [this]
      cases fstAt (S.pa c) j <;> rfl
    · rw [if_neg cb]
  have hsub : ∀ y, y ∈ (S.endW g kind w num).wk → y ∈ S.wk ∧ y.2.1 ≠ w.1 := fun y hy => by
    have := (hnum y.2.1).mp (List.mem_map.mpr ⟨y, hy, rfl⟩)
    exact ⟨(List.mem_filter.mp hy).1, this.2⟩
  refine ⟨⟨?_, ?_, fun y hy => h.le y (hsub y hy).1, ?_, ?_, ?_, ?_, ?_, fun y hy => h.ml y (hsub y hy).1⟩, fun c => ?_⟩
  · exact h.nk.sublist (List.filter_sublist.map _)
  · exact List.Nodup.sublist (List.filter_sublist.map _) h.nn
  · intro c e he j hj
    rcases hmem c e he with he | rfl
    · exact h.ek c e he j hj
    · rw [hdeed] at hj
      rw [← Option.some.inj hj]
      exact h.le _ hm
  · intro c e he hr
    rcases hmem c e he with he | rfl
    · exact h.kd c e he hr
    · exact ⟨⟨_, hdeed⟩, by rw [hkind]; exact hkd⟩
  · intro c e he j hj
    rcases hmem c e he with he | rfl
    · by_cases cj : j = w.1
      · subst cj
        rw [hend2 c e he hj]
        rcases hkd with z | z
        · exact .inr (.inl (by rw [z]))
        · exact .inr (.inr (by rw [z]))
      · rw [hend c j cj, hnum]
        rcases h.en c e he j hj with q | q
        · exact .inl ⟨q, cj⟩
        · exact .inr q
    · have := (isAt_ek hj).1
      rw [hrow] at this; cases this
  · intro y hy c
    obtain ⟨y1, y2⟩ := hsub y hy
    rw [hend c _ y2]
    exact h.wn y y1 c
  · intro y hy
    obtain ⟨y1, y2⟩ := hsub y hy
    obtain ⟨g1, g2⟩ := h.fs y y1
    exact ⟨g1, fun c => by rw [g2, hfst]⟩
  · have hfl : ((S.endW g kind w num).pa c).filter isRow = (S.pa c).filter isRow := by
      rw [hpa]
      by_cases cb : (sget w.2.1 c).isSome = true
      · rw [if_pos cb, List.filter_append]
        have : [E].filter isRow = [] := by rw [List.filter_cons, if_neg (by rw [hrow]; exact Bool.false_ne_true)]; rfl
        rw [this, List.append_nil]
      · rw [if_neg cb]
    unfold rowsL
    rw [hfl, List.map_map]
    refine List.map_congr_left fun e he => ?_
    obtain ⟨he1, he2⟩ := List.mem_filter.mp he
    show (e.2.2.1, stOf (S.endW g kind w num) c e) = stEnd kind w.1 (e.2.2.1, stOf S c e)
    unfold stEnd
    cases ck : e.2.2.2.1 with
    | none =>
      have a1 : stOf (S.endW g kind w num) c e = .non := by unfold stOf; rw [ck]
      have a2 : stOf S c e = .non := by unfold stOf; rw [ck]
      rw [a1, a2, if_neg (by simp)]
    | some j =>
      have hat : isAt j e = true := by unfold isAt; rw [he2, ck]; simp
      by_cases cj : j = w.1
      · subst cj
        have hin : w.1 ∈ numsS S := List.mem_map.mpr ⟨_, hm, rfl⟩
        have hout : w.1 ∉ numsS (S.endW g kind w num) := fun z => ((hnum _).mp z).2 rfl
        have a2 : stOf S c e = .num w.1 := by unfold stOf; rw [ck]; exact if_pos hin
        have a1 : stOf (S.endW g kind w num) c e = if kind = leftS then .gone else .non := by
          unfold stOf
          rw [ck]
          show (if w.1 ∈ numsS (S.endW g kind w num) then _ else _) = _
          rw [if_neg hout, hend2 c e he1 hat]
          by_cases ck2 : kind = leftS
          · rw [if_pos ck2, if_pos (by rw [ck2])]
          · rw [if_neg ck2, if_neg fun z => ck2 (Option.some.inj z)]
        rw [a1, a2, if_pos rfl]
      · have a1 : stOf (S.endW g kind w num) c e = stOf S c e := by
          unfold stOf
          rw [ck]
          show (if j ∈ numsS (S.endW g kind w num) then _ else _) = (if j ∈ numsS S then _ else _)
          rw [hend c j cj]
          by_cases cn : j ∈ numsS S
          · rw [if_pos cn, if_pos ((hnum j).mpr ⟨cn, cj⟩)]
          · rw [if_neg cn, if_neg fun z => cn ((hnum j).mp z).1]
        rw [a1, if_neg]
        unfold stOf
        rw [ck]
        show ¬ (if j ∈ numsS S then LSt.num j else _) = LSt.num w.1
        by_cases cn : j ∈ numsS S
        · rw [if_pos cn]; intro z; exact cj (LSt.num.inj z)
        · rw [if_neg cn]
          by_cases ce : endOf (S.pa c) j = some leftS
          · rw [if_pos ce]; exact LSt.noConfusion
          · rw [if_neg ce]; exact LSt.noConfusion
--END
end K08
set_option Elab.async false
set_option linter.all false
set_option maxRecDepth 100000
set_option maxHeartbeats 800000
/-! K08r: deeds, plain: readers that wait. -/
namespace K08
open PySem SW
--BEGIN
def isN : LSt → Bool | .num _ => true | _ => false
def sureL (l : List (Str × LSt)) : List Str := ((l.takeWhile fun r => !isN r.2).filter fun r => decide (r.2 = .non)).map (·.1)
def firsts (S : DS) (b : Bool) : List Int := S.wk.filterMap fun w => sget w.2.2.1 b
theorem rd_lt (F : Nat) (P : PR → Bool) : ∀ (es : List PR) (k : Nat), ((es.zipIdx k).filter fun q => decide ((q.2 : Int) < (F : Int)) && P q.1).map (fun q => q.1.2.2.1) = ((es.take (F - k)).filter P).map (·.2.2.1)
  | [], k => by simp
  | e :: es, k => by
    rw [List.zipIdx_cons, List.filter_cons]
    have ih := rd_lt F P es (k + 1)
    by_cases c : k < F
    · rw [show F - k = (F - (k + 1)) + 1 by omega, List.take_succ_cons, List.filter_cons]
      have c2 : decide ((k : Int) < (F : Int)) = true := decide_eq_true (by omega)
      show List.map _ (if (decide ((k : Int) < (F : Int)) && P e) = true then _ else _) = _
      rw [c2, Bool.true_and]
      by_cases cp : P e = true
      · rw [if_pos cp, if_pos cp, List.map_cons, List.map_cons, ih]
      · rw [if_neg cp, if_neg cp, ih]
    · have c2 : decide ((k : Int) < (F : Int)) = false := decide_eq_false (by omega)
      show List.map _ (if (decide ((k : Int) < (F : Int)) && P e) = true then _ else _) = _
      rw [c2, Bool.false_and, if_neg Bool.false_ne_true, ih, show F - (k + 1) = 0 by omega, show F - k = 0 by omega]
      rfl
theorem readF_map (es : List PR) (F : Nat) (wt : Bool) : (readF es 0 (F : Int) wt).map (·.2.2) = ((es.take F).filter fun e => isRow e && (!wt || seenB es e)).map (·.2.2.1) := by
  unfold readF
  rw [List.map_map]
  have := rd_lt F (fun e => isRow e && (!wt || seenB es e)) es 0
  rw [Nat.sub_zero] at this
  rw [← this]
  congr 1
  refine List.filter_congr fun q _ => ?_
  have : decide ((0 : Int) ≤ (q.2 : Int)) = true := decide_eq_true (by omega)
  rw [this, Bool.true_and, Bool.and_assoc]
theorem take_find (p : PR → Bool) : ∀ es : List PR, es.take (es.findIdx p) = es.takeWhile fun e => !p e
  | [] => rfl
  | e :: es => by
    rw [List.findIdx_cons, List.takeWhile_cons]
    cases c : p e with
    | true => rfl
    | false =>
      show (e :: es).take (es.findIdx p + 1) = _
      rw [List.take_succ_cons, take_find p es]; rfl
theorem tw_filter {β : Type} (f : PR → β) (q : β → Bool) : ∀ es : List PR, ((es.filter isRow).map f).takeWhile q = ((es.takeWhile fun e => !(isRow e && !q (f e))).filter isRow).map f
  | [] => rfl
  | e :: es => by
    rw [List.takeWhile_cons, List.filter_cons]
    cases c : isRow e with
    | false =>
      rw [if_neg Bool.false_ne_true, tw_filter f q es]
      show _ = ((if (!(false && !q (f e))) = true then e :: es.takeWhile _ else []).filter isRow).map f
      rw [Bool.false_and, if_pos (show (!false) = true from rfl), List.filter_cons, if_neg (by rw [c]; exact Bool.false_ne_true)]
    | true =>
      rw [if_pos rfl, List.map_cons, List.takeWhile_cons]
      cases cq : q (f e) with
      | true =>
        show f e :: _ = ((if (!(true && !true)) = true then e :: es.takeWhile _ else []).filter isRow).map f
        rw [if_pos (show (!(true && !true)) = true from rfl), List.filter_cons, if_pos c, List.map_cons, tw_filter f q es]
      | false => rfl
theorem find_le {p : PR → Bool} {es : List PR} {i : Nat} {e : PR} (h : es[i]? = some e) (hp : p e = true) : es.findIdx p ≤ i := by
  obtain ⟨hi, e1⟩ := List.getElem?_eq_some_iff.mp h
  refine Nat.le_of_not_lt fun c => ?_
  have := List.not_of_lt_findIdx c
  rw [e1, hp] at this
  cases this
theorem fst_at {es : List PR} {k : Int} {m : Nat} (h : fstAt es k = some m) : ∃ e, es[m]? = some e ∧ isAt k e = true := by
  unfold fstAt at h
  obtain ⟨hm, h1, _⟩ := List.findIdx?_eq_some_iff_getElem.mp h
  exact ⟨es[m], List.getElem?_eq_getElem hm, h1⟩
theorem fst_le {es : List PR} {k : Int} {i : Nat} {e : PR} (h : es[i]? = some e) (hp : isAt k e = true) : ∃ m, fstAt es k = some m ∧ m ≤ i := by
  cases c : fstAt es k with
  | none =>
    rw [fstAt_none] at c
    rw [c e (List.mem_of_getElem? h)] at hp; cases hp
  | some m =>
    refine ⟨m, rfl, Nat.le_of_not_lt fun hlt => ?_⟩
    unfold fstAt at c
    obtain ⟨hm, _, h2⟩ := List.findIdx?_eq_some_iff_getElem.mp c
    obtain ⟨hi, e1⟩ := List.getElem?_eq_some_iff.mp h
    have := h2 i hlt
    rw [e1] at this
    exact this hp
theorem DI.end_eq {S : DS} (h : DI S) {b : Bool} {m : Int} (hm : m ∈ firsts S b ++ [((S.pa b).length : Int)]) (hle : ∀ y ∈ firsts S b ++ [((S.pa b).length : Int)], m ≤ y) :
    m = (((S.pa b).findIdx fun e => isRow e && isN (stOf S b e) : Nat) : Int) := by
  generalize hp : (fun e => isRow e && isN (stOf S b e)) = p
  have pn : ∀ e k, isAt k e = true → k ∈ numsS S → p e = true := fun e k he hk => by
    obtain ⟨h1, h2⟩ := isAt_ek he
    subst hp
    have : stOf S b e = .num k := by unfold stOf; rw [h2]; exact if_pos hk
    show (isRow e && isN (stOf S b e)) = true
    rw [h1, this]; rfl
  have np : ∀ e, p e = true → ∃ k, isAt k e = true ∧ k ∈ numsS S := fun e he => by
    subst hp
    obtain ⟨h1, h2⟩ := Bool.and_eq_true_iff.mp he
    unfold stOf at h2
    cases c : e.2.2.2.1 with
    | none => rw [c] at h2; cases h2
    | some k =>
      rw [c] at h2
      by_cases ck : k ∈ numsS S
      · exact ⟨k, by unfold isAt; rw [h1, c]; simp, ck⟩
      · have h3 : isN (if k ∈ numsS S then LSt.num k else if endOf (S.pa b) k = some leftS then .gone else .non) = true := h2
        rw [if_neg ck] at h3
        by_cases ce : endOf (S.pa b) k = some leftS
        · rw [if_pos ce] at h3; cases h3
        · rw [if_neg ce] at h3; cases h3
  have lo : ∀ y ∈ firsts S b ++ [((S.pa b).length : Int)], (((S.pa b).findIdx p : Nat) : Int) ≤ y := fun y hy => by
    rcases List.mem_append.mp hy with hy | hy
    · obtain ⟨w, hw, e⟩ := List.mem_filterMap.mp hy
      rw [(h.fs w hw).2 b] at e
      cases c : fstAt (S.pa b) w.2.1 with
      | none => rw [c] at e; cases e
      | some j =>
        rw [c] at e
        have : ((j : Nat) : Int) = y := Option.some.inj e
        rw [← this]
        obtain ⟨x, hx, hat⟩ := fst_at c
        have := find_le hx (pn x _ hat (List.mem_map.mpr ⟨w, hw, rfl⟩))
        omega
    · have : y = ((S.pa b).length : Int) := by simpa using hy
      rw [this]
      have := List.findIdx_le_length (p := p) (xs := S.pa b)
      omega
  refine Int.le_antisymm ?_ (lo m hm)
  by_cases c : (S.pa b).findIdx p < (S.pa b).length
  · have hx : (S.pa b)[(S.pa b).findIdx p]? = some ((S.pa b)[(S.pa b).findIdx p]) := List.getElem?_eq_getElem c
    have hpx := List.findIdx_getElem (w := c)
    obtain ⟨k, hat, hk⟩ := np _ hpx
    obtain ⟨j, hj, hjl⟩ := fst_le hx hat
    obtain ⟨w, hw, rfl⟩ := List.mem_map.mp hk
    have : ((j : Nat) : Int) ∈ firsts S b := List.mem_filterMap.mpr ⟨w, hw, by rw [(h.fs w hw).2 b, hj]; rfl⟩
    have := hle _ (List.mem_append_left _ this)
    omega
  · have := hle ((S.pa b).length : Int) (by simp)
    omega
theorem DI.seen {S : DS} (h : DI S) {b : Bool} {m : Int} (hm : m ∈ firsts S b ++ [((S.pa b).length : Int)]) (hle : ∀ y ∈ firsts S b ++ [((S.pa b).length : Int)], m ≤ y) :
    (readF (S.pa b) 0 m true).map (·.2.2) = sureL (rowsL S b) := by
  rw [h.end_eq hm hle, readF_map, take_find]
  unfold sureL rowsL
  rw [tw_filter (fun e => (e.2.2.1, stOf S b e)) (fun r => !isN r.2)]
  rw [List.filter_map, List.map_map, List.filter_filter]
  have e0 : (fun e => !(isRow e && !!isN (stOf S b e))) = fun e => !(isRow e && isN (stOf S b e)) := by
    funext e; rw [Bool.not_not]
  show _ = List.map _ (((S.pa b).takeWhile fun e => !(isRow e && !!isN (stOf S b e))).filter _)
  rw [e0]
  have tw : ∀ (q : PR → Bool) (l : List PR) x, x ∈ l.takeWhile q → q x = true := fun q l x hx => by
    induction l with
    | nil => cases hx
    | cons a l ih =>
      rw [List.takeWhile_cons] at hx
      by_cases c : q a = true
      · rw [if_pos c] at hx
        rcases List.mem_cons.mp hx with rfl | hx
        · exact c
        · exact ih hx
      · rw [if_neg c] at hx; cases hx
  show List.map _ _ = List.map _ _
  congr 1
  refine List.filter_congr fun e he => ?_
  have hq := tw _ _ _ he
  have hmem : e ∈ S.pa b := (List.takeWhile_sublist _).subset he
  show (isRow e && (!true || seenB (S.pa b) e)) = (decide (stOf S b e = .non) && isRow e)
  rw [Bool.not_true, Bool.false_or, Bool.and_comm]
  cases hr : isRow e with
  | false => rw [Bool.and_false, Bool.and_false]
  | true =>
    rw [Bool.and_true, Bool.and_true]
    rw [hr, Bool.true_and] at hq
    unfold seenB
    cases c : e.2.2.2.1 with
    | none =>
      have : stOf S b e = .non := by unfold stOf; rw [c]
      rw [this]; rfl
    | some k =>
      have hat : isAt k e = true := by unfold isAt; rw [hr, c]; simp
      have hk : k ∉ numsS S := fun hk => by
        have : stOf S b e = .num k := by unfold stOf; rw [c]; exact if_pos hk
        rw [this] at hq; cases hq
      have hst : stOf S b e = if endOf (S.pa b) k = some leftS then .gone else .non := by unfold stOf; rw [c]; exact if_neg hk
      rw [hst]
      show decide (endOf (S.pa b) k = some keptS) = _
      rcases h.en b e hmem k hat with q | q | q
      · exact absurd q hk
      · rw [q, if_neg fun z => kind_ne.2.2 (Option.some.inj z)]; simp
      · rw [q, if_pos rfl, decide_eq_false fun z => kind_ne.2.2 (Option.some.inj z).symm]; rfl
theorem read_all (S : DS) (b : Bool) : (readF (S.pa b) 0 ((S.pa b).length : Int) false).map (·.2.2) = (rowsL S b).map (·.1) := by
  rw [readF_map, List.take_length]
  unfold rowsL
  rw [List.map_map]
  have : (fun e => isRow e && (!false || seenB (S.pa b) e)) = isRow := by funext e; simp
  rw [this]; rfl
--END
end K08
set_option Elab.async false
set_option linter.all false
set_option maxRecDepth 100000
set_option maxHeartbeats 800000
/-! K08s: a chain of deeds, plain. -/
namespace K08
open PySem SW
--BEGIN
def chS : Str := "chain"
def grS : Str := "group"
def kS : Str := "k"
def wrS (v : Str) : Str := "<" ++ v ++ ">"
def loneR (v : Str) : PR := (0, kS, v, none, rowS)
theorem sure_nn {l : List (Str × LSt)} (h : ∀ r ∈ l, isN r.2 = false) : sureL l = (l.filter fun r => decide (r.2 = .non)).map (·.1) := by
  have : l.takeWhile (fun r => !isN r.2) = l := by
    induction l with
    | nil => rfl
    | cons a l ih => rw [List.takeWhile_cons, if_pos (by rw [h a List.mem_cons_self]; rfl), ih fun r hr => h r (List.mem_cons_of_mem _ hr)]
  unfold sureL
  rw [this]
def GmOk (gm : MkD) (m : Nat) : Prop := (gm = [] ∧ m = 0) ∨ gm = [((grS, 0), (m : Int))]
structure CI (vs : List Str) (S : DS) (m : Nat) : Prop where
  di : DI S
  wk : S.wk = []
  p0 : S.pa false = vs.map loneR
  gm : GmOk S.gm m
  le : m ≤ vs.length
  sn : sureL (rowsL S true) = (vs.take m).map wrS
structure CW (vs : List Str) (S : DS) (m j : Nat) (mm : MkD) : Prop where
  di : DI S
  p0 : S.pa false = vs.map loneR
  gm : GmOk S.gm m
  le : m + j ≤ vs.length
  ex : ∃ (k : Int) (fs : List (Bool × Int)) (R0 : List (Str × LSt)), S.wk = [(chS, k, fs, mm)] ∧ rowsL S true = R0 ++ (((vs.drop m).take j).map fun v => (wrS v, .num k)) ∧ (∀ r ∈ R0, isN r.2 = false) ∧ sureL R0 = (vs.take m).map wrS
theorem nn_rows {S : DS} (h : S.wk = []) {b : Bool} : ∀ r ∈ rowsL S b, isN r.2 = false := fun r hr => by
  obtain ⟨e, _, rfl⟩ := List.mem_map.mp hr
  show isN (stOf S b e) = false
  unfold stOf
  cases e.2.2.2.1 with
  | none => rfl
  | some k =>
    show isN (if k ∈ numsS S then LSt.num k else _) = false
    rw [if_neg (by unfold numsS; rw [h]; exact List.not_mem_nil)]
    by_cases c : endOf (S.pa b) k = some leftS
    · rw [if_pos c]; rfl
    · rw [if_neg c]; rfl
theorem CI.begin {vs : List Str} {S : DS} {m : Nat} (h : CI vs S m) : CW vs (S.begin chS) m 0 [] := by
  obtain ⟨d, r⟩ := h.di.begin (g := chS) (by rw [h.wk]; rfl)
  refine ⟨d, h.p0, h.gm, h.le, S.ct + 1, [], rowsL S true, ?_, by rw [r]; simp, nn_rows h.wk, h.sn⟩
  show S.wk ++ _ = _
  rw [h.wk]; rfl
theorem CW.put {vs : List Str} {S : DS} {m j : Nat} {mm : MkD} {v key : Str} (h : CW vs S m j mm) (hv : vs[m + j]? = some v) : CW vs (S.put chS true key (wrS v)) m (j + 1) mm := by
  obtain ⟨k, fs, R0, e1, e2, e3, e4⟩ := h.ex
  obtain ⟨d, r⟩ := h.di.put chS true key (wrS v)
  have hlt : m + j < vs.length := (List.getElem?_eq_some_iff.mp hv).1
  refine ⟨d, h.p0, h.gm, by omega, k, fput fs true (S.pa true).length, R0, ?_, ?_, e3, e4⟩
  · show wput S.wk chS true _ = _
    rw [e1]
    show [(if chS = chS then _ else _)] = _
    rw [if_pos rfl]
  · rw [r true, if_pos rfl, e2, List.append_assoc]
    congr 1
    have hd : (vs.drop m)[j]? = some v := by rw [List.getElem?_drop]; exact hv
    rw [List.take_add_one, hd, List.map_append]
    congr 1
    show [(wrS v, stNew S chS)] = [(wrS v, LSt.num k)]
    have : stNew S chS = .num k := by
      unfold stNew
      rw [e1, sget_cons, if_pos rfl]
    rw [this]
theorem DI.keep {S : DS} (h : DI S) {g grp : Str} {p x : Int} (hm : ∀ w ∈ S.wk, w.1 = g → w.2.2.2 = []) : DI (S.keep g grp p x) ∧ ∀ b, rowsL (S.keep g grp p x) b = rowsL S b := by
  have hmap : ∀ {β : Type} (f : WK0 → β), (∀ w mk, f (w.1, w.2.1, w.2.2.1, mk) = f w) → (S.keep g grp p x).wk.map f = S.wk.map f := fun f hf => by
    show (S.wk.map _).map f = _
    rw [List.map_map]
    refine List.map_congr_left fun w _ => ?_
    show f (if w.1 = g then _ else w) = f w
    by_cases c : w.1 = g
    · rw [if_pos c, hf]
    · rw [if_neg c]
  have hn : numsS (S.keep g grp p x) = numsS S := hmap (·.2.1) fun _ _ => rfl
  have hmem : ∀ w, w ∈ (S.keep g grp p x).wk → ∃ y ∈ S.wk, (w = y) ∨ (y.1 = g ∧ w = (y.1, y.2.1, y.2.2.1, sput y.2.2.2 (grp, p) x)) := fun w hw => by
    obtain ⟨y, hy, e⟩ := List.mem_map.mp hw
    refine ⟨y, hy, ?_⟩
    by_cases c : y.1 = g
    · rw [if_pos c] at e; exact .inr ⟨c, e.symm⟩
    · rw [if_neg c] at e; exact .inl e.symm
  refine ⟨⟨by rw [hn]; exact h.nk, ?_, ?_, h.ek, h.kd, ?_, ?_, ?_, ?_⟩, fun b => ?_⟩
  · unfold NdS; rw [hmap (·.1) fun _ _ => rfl]; exact h.nn
  · intro w hw
    obtain ⟨y, hy, e | ⟨_, e⟩⟩ := hmem w hw <;> rw [e] <;> exact h.le y hy
  · intro b e he k hk; rw [hn]; exact h.en b e he k hk
  · intro w hw
    obtain ⟨y, hy, e | ⟨_, e⟩⟩ := hmem w hw <;> rw [e] <;> exact h.wn y hy
  · intro w hw
    obtain ⟨y, hy, e | ⟨_, e⟩⟩ := hmem w hw <;> rw [e] <;> exact h.fs y hy
  · intro w hw
    obtain ⟨y, hy, rfl | ⟨c, rfl⟩⟩ := hmem w hw
    · exact h.ml _ hy
    · rw [hm y hy c]; exact Nat.le_refl _
  · unfold rowsL
    refine List.map_congr_left fun e _ => ?_
    show (e.2.2.1, stOf (S.keep g grp p x) b e) = (e.2.2.1, stOf S b e)
    congr 1
    unfold stOf
    rw [hn]; rfl
theorem CW.keep {vs : List Str} {S : DS} {m j : Nat} {x : Int} (h : CW vs S m j []) : CW vs (S.keep chS grS 0 x) m j [((grS, 0), x)] := by
  obtain ⟨k, fs, R0, e1, e2, e3, e4⟩ := h.ex
  obtain ⟨d, r⟩ := h.di.keep (g := chS) (grp := grS) (p := 0) (x := x) fun w hw _ => by rw [e1] at hw; rw [List.mem_singleton.mp hw]
  refine ⟨d, h.p0, h.gm, h.le, k, fs, R0, ?_, by rw [r]; exact e2, e3, e4⟩
  show S.wk.map _ = _
  rw [e1]
  show [(if chS = chS then _ else _)] = _
  rw [if_pos rfl]; rfl
theorem st_end {kind : Str} {k : Int} {R0 : List (Str × LSt)} (h : ∀ r ∈ R0, isN r.2 = false) : R0.map (stEnd kind k) = R0 := by
  refine (List.map_congr_left (g := id) fun r hr => ?_).trans (List.map_id _)
  unfold stEnd
  rw [if_neg fun z => by have := h r hr; rw [z] at this; cases this]; rfl
theorem fst_lone {vs : List Str} {k : Int} : fstAt (vs.map loneR) k = none := fstAt_none.mpr fun e he => by
  obtain ⟨v, _, rfl⟩ := List.mem_map.mp he
  show (isRow (loneR v) && decide ((none : Option Int) = some k)) = false
  rw [decide_eq_false (by simp), Bool.and_false]
theorem CW.fin {vs : List Str} {S : DS} {m j : Nat} {mm : MkD} {kind num : Str} {w : WKA} (h : CW vs S m j mm) (hk : kind = keptS ∨ kind = leftS) (hw : sget S.wk chS = some w) :
    DI (S.endW chS kind w num) ∧ (S.endW chS kind w num).wk = [] ∧ (S.endW chS kind w num).pa false = vs.map loneR ∧ w.2.2 = mm ∧
      sureL (rowsL (S.endW chS kind w num) true) = (vs.take m).map wrS ++ (if kind = leftS then [] else ((vs.drop m).take j).map wrS) := by
  obtain ⟨k, fs, R0, e1, e2, e3, e4⟩ := h.ex
  obtain ⟨d, r⟩ := h.di.endW (num := num) hw hk
  have ew : w = (k, fs, mm) := by
    rw [e1, sget_cons, if_pos rfl] at hw
    exact (Option.some.inj hw).symm
  subst ew
  have hwk : (S.endW chS kind (k, fs, mm) num).wk = [] := by
    show S.wk.filter _ = []
    rw [e1]; simp
  refine ⟨d, hwk, ?_, rfl, ?_⟩
  · have f := (h.di.fs _ (mem_of_sget hw)).2 false
    rw [h.p0, fst_lone] at f
    show (if (sget fs false).isSome = true then _ else S.pa false) = _
    have f : sget fs false = none := f
    rw [f, if_neg (by simp)]
    exact h.p0
  · rw [sure_nn (nn_rows hwk), r true, e2, List.map_append, st_end e3, List.filter_append, List.map_append]
    have e5 := e4
    rw [sure_nn e3] at e5
    rw [e5]
    congr 1
    rw [List.map_map]
    by_cases c : kind = leftS
    · rw [if_pos c, List.filter_eq_nil_iff.mpr]
      · rfl
      · intro x hx
        obtain ⟨v, _, rfl⟩ := List.mem_map.mp hx
        show ¬ decide ((stEnd kind k (wrS v, LSt.num k)).2 = .non) = true
        unfold stEnd
        rw [if_pos rfl]
        simp [c]
    · rw [if_neg c, List.filter_eq_self.mpr]
      · rw [List.map_map]
        refine List.map_congr_left fun v _ => ?_
        show (stEnd kind k (wrS v, LSt.num k)).1 = _
        unfold stEnd
        rw [if_pos rfl]
      · intro x hx
        obtain ⟨v, _, rfl⟩ := List.mem_map.mp hx
        show decide ((stEnd kind k (wrS v, LSt.num k)).2 = .non) = true
        unfold stEnd
        rw [if_pos rfl]
        simp [c]
theorem CW.left {vs : List Str} {S : DS} {m j : Nat} {mm : MkD} {num : Str} {w : WKA} (h : CW vs S m j mm) (hw : sget S.wk chS = some w) : CI vs (S.endW chS leftS w num) m := by
  obtain ⟨d, h1, h2, h3, h4⟩ := h.fin (num := num) (.inr rfl) hw
  refine ⟨d, h1, h2, ?_, by have := h.le; omega, by rw [h4, if_pos rfl, List.append_nil]⟩
  show GmOk (if leftS = keptS then mergeS S.gm w.2.2 else S.gm) m
  rw [if_neg fun z => kind_ne.2.2 z.symm]
  exact h.gm
theorem CW.kept {vs : List Str} {S : DS} {m j : Nat} {num : Str} {w : WKA} (h : CW vs S m j [((grS, 0), ((m + j : Nat) : Int))]) (hw : sget S.wk chS = some w) : CI vs (S.endW chS keptS w num) (m + j) := by
  obtain ⟨d, h1, h2, h3, h4⟩ := h.fin (num := num) (.inl rfl) hw
  refine ⟨d, h1, h2, ?_, h.le, ?_⟩
  · show GmOk (if keptS = keptS then mergeS S.gm w.2.2 else S.gm) (m + j)
    rw [if_pos rfl, h3]
    refine .inr ?_
    show sput S.gm (grS, 0) _ = _
    rcases h.gm with ⟨e, _⟩ | e
    · rw [e]; rfl
    · rw [e]; simp [sput]
  · rw [h4, if_neg kind_ne.2.2, ← List.map_append, ← List.take_add]
theorem lone_read (vs : List Str) (m : Nat) (wt : Bool) : readF (vs.map loneR) (m : Int) (vs.length : Int) wt = ((vs.zipIdx).drop m).map fun q => ((q.2 : Int), kS, q.1) := by
  unfold readF
  have key : ∀ (vs : List Str) (k : Nat), (((vs.map loneR).zipIdx k).filter fun q => decide ((m : Int) ≤ (q.2 : Int)) && decide ((q.2 : Int) < ((k + vs.length : Nat) : Int)) && isRow q.1 && (!wt || seenB (vs.map loneR) q.1)).map (fun q => ((q.2 : Int), q.1.2.1, q.1.2.2.1)) = ((vs.zipIdx k).drop (m - k)).map fun q => ((q.2 : Int), kS, q.1) := by
    intro vs
    have hs : ∀ es v, seenB es (loneR v) = true := fun _ _ => rfl
    have hr : ∀ v, isRow (loneR v) = true := fun _ => decide_eq_true rfl
    suffices g : ∀ (es : List PR) (vs : List Str) (k N : Nat), k + vs.length ≤ N → (((vs.map loneR).zipIdx k).filter fun q => decide ((m : Int) ≤ (q.2 : Int)) && decide ((q.2 : Int) < (N : Int)) && isRow q.1 && (!wt || seenB es q.1)).map (fun q => ((q.2 : Int), q.1.2.1, q.1.2.2.1)) = ((vs.zipIdx k).drop (m - k)).map fun q => ((q.2 : Int), kS, q.1) from
      fun k => g _ vs k _ (Nat.le_refl _)
    intro es vs
    induction vs with
    | nil => intro k N _; simp
    | cons v vs ih =>
      intro k N hN
      rw [List.length_cons] at hN
      rw [List.map_cons, List.zipIdx_cons, List.zipIdx_cons, List.filter_cons]
      show List.map _ (if (decide ((m : Int) ≤ (k : Int)) && decide ((k : Int) < (N : Int)) && isRow (loneR v) && (!wt || seenB es (loneR v))) = true then _ else _) = _
      rw [hr, hs, Bool.or_true, Bool.and_true, Bool.and_true, decide_eq_true (show (k : Int) < (N : Int) by omega), Bool.and_true]
      by_cases c : m ≤ k
      · rw [decide_eq_true (show (m : Int) ≤ (k : Int) by omega), if_pos rfl, List.map_cons, ih (k + 1) N (by omega), show m - k = 0 by omega, show m - (k + 1) = 0 by omega]
        rfl
      · rw [decide_eq_false (show ¬ (m : Int) ≤ (k : Int) by omega), if_neg Bool.false_ne_true, ih (k + 1) N (by omega), show m - k = (m - (k + 1)) + 1 by omega, List.drop_succ_cons]
  have := key vs 0
  rw [Nat.zero_add, Nat.sub_zero] at this
  exact this
theorem lone_at {vs : List Str} {m i : Nat} {q : Int × Str × Str} (h : ((vs.zipIdx.drop m).map fun q => ((q.2 : Int), kS, q.1))[i]? = some q) : ∃ v, vs[m + i]? = some v ∧ q = (((m + i : Nat) : Int), kS, v) := by
  rw [List.getElem?_map, List.getElem?_drop, List.getElem?_zipIdx] at h
  cases e : vs[m + i]? with
  | none => rw [e] at h; cases h
  | some v =>
    rw [e] at h
    refine ⟨v, rfl, ?_⟩
    have := Option.some.inj h
    rw [← this]
    show (((0 + (m + i) : Nat) : Int), kS, v) = _
    rw [Nat.zero_add]
theorem ci_start {vs : List Str} {tu : List (Str × Int)} : CI vs { DS.new with tu := tu, pa := fun b => if b = false then vs.map loneR else [] } 0 := by
  refine ⟨⟨List.nodup_nil, List.nodup_nil, nofun, ?_, ?_, ?_, nofun, nofun, nofun⟩, rfl, rfl, .inl ⟨rfl, rfl⟩, Nat.zero_le _, rfl⟩
  · intro b e he k hk
    cases b with
    | true => cases he
    | false =>
      obtain ⟨v, _, rfl⟩ := List.mem_map.mp he
      cases hk
  · intro b e he hr
    cases b with
    | true => cases he
    | false =>
      obtain ⟨v, _, rfl⟩ := List.mem_map.mp he
      rw [show isRow (loneR v) = true from decide_eq_true rfl] at hr; cases hr
  · intro b e he k hk
    cases b with
    | true => cases he
    | false =>
      obtain ⟨v, _, rfl⟩ := List.mem_map.mp he
      cases (isAt_ek hk).2
--END
end K08
set_option Elab.async false
set_option linter.all false
set_option maxRecDepth 100000
set_option maxHeartbeats 800000
/-! K08t: deeds, plain: bounds. -/
namespace K08
open PySem PySem.Spec SW
structure Bd (N : Nat) (S : DS) : Prop where
  pa : ∀ b, (S.pa b).length ≤ N
  ct : S.ct ≤ N
  tu : S.tu.length ≤ N
  wk : S.wk.length ≤ N
  gm : S.gm.length ≤ N
  nn : ∀ w ∈ S.wk, 0 ≤ w.2.1
  c0 : 0 ≤ S.ct
theorem Bd.new : Bd 0 DS.new := ⟨fun _ => Nat.le_refl _, Int.le_refl _, Nat.le_refl _, Nat.le_refl _, Nat.le_refl _, nofun, Int.le_refl _⟩
theorem Bd.mono {N M : Nat} {S : DS} (h : Bd N S) (hm : N ≤ M) : Bd M S := ⟨fun b => Nat.le_trans (h.pa b) hm, by have := h.ct; omega, Nat.le_trans h.tu hm, Nat.le_trans h.wk hm, Nat.le_trans h.gm hm, h.nn, h.c0⟩
theorem Bd.put {N : Nat} {S : DS} (h : Bd N S) (g : Str) (b : Bool) (k v : Str) : Bd (N + 1) (S.put g b k v) := by
  refine ⟨fun c => ?_, by have := h.ct; show S.ct ≤ _; omega, Nat.le_succ_of_le h.tu, ?_, Nat.le_succ_of_le h.gm, fun w hw => ?_, h.c0⟩
  · show (if c = b then S.pa b ++ [_] else S.pa c).length ≤ N + 1
    by_cases cb : c = b
    · rw [if_pos cb, List.length_append]; have := h.pa b; simp; omega
    · rw [if_neg cb]; have := h.pa c; omega
  · show (wput S.wk g b _).length ≤ N + 1
    unfold wput
    rw [List.length_map]; have := h.wk; omega
  · obtain ⟨y, hy, ⟨_, e⟩ | ⟨_, e⟩⟩ := wput_mem hw <;> rw [e] <;> exact h.nn y hy
theorem Bd.begin {N : Nat} {S : DS} (h : Bd N S) (g : Str) : Bd (N + 1) (S.begin g) := by
  refine ⟨fun c => Nat.le_succ_of_le (h.pa c), by have := h.ct; show S.ct + 1 ≤ _; omega, Nat.le_succ_of_le h.tu, ?_, Nat.le_succ_of_le h.gm, fun w hw => ?_, by have := h.c0; show 0 ≤ S.ct + 1; omega⟩
  · show (S.wk ++ [_]).length ≤ N + 1
    rw [List.length_append]; have := h.wk; simp; omega
  · rcases List.mem_append.mp hw with hw | hw
    · exact h.nn w hw
    · have : w = (g, S.ct + 1, [], []) := by simpa using hw
      rw [this]; have := h.c0; show 0 ≤ S.ct + 1; omega
theorem merge_len : ∀ (b a : MkD), (mergeS a b).length ≤ a.length + b.length
  | [], a => Nat.le_refl _
  | p :: b, a => by
    show (mergeS (sput a p.1 p.2) b).length ≤ _
    have h1 := merge_len b (sput a p.1 p.2)
    have h2 := len_sput a p.1 p.2
    rw [List.length_cons]; omega
theorem Bd.endW {N : Nat} {S : DS} (h : Bd N S) (g kind num : Str) (w : WKA) (hm : w.2.2.length ≤ 1) : Bd (N + 1) (S.endW g kind w num) := by
  refine ⟨fun c => ?_, by have := h.ct; show S.ct ≤ _; omega, Nat.le_succ_of_le h.tu, Nat.le_succ_of_le (Nat.le_trans (List.length_filter_le _ _) h.wk), ?_, fun w hw => h.nn w (List.mem_filter.mp hw).1, h.c0⟩
  · show (if (sget w.2.1 c).isSome = true then S.pa c ++ [_] else S.pa c).length ≤ N + 1
    by_cases cb : (sget w.2.1 c).isSome = true
    · rw [if_pos cb, List.length_append]; have := h.pa c; simp; omega
    · rw [if_neg cb]; have := h.pa c; omega
  · show (if kind = keptS then mergeS S.gm w.2.2 else S.gm).length ≤ N + 1
    have := h.gm
    by_cases c : kind = keptS
    · rw [if_pos c]; have := merge_len w.2.2 S.gm; omega
    · rw [if_neg c]; omega
theorem Bd.keep {N : Nat} {S : DS} (h : Bd N S) (g grp : Str) (p x : Int) : Bd N (S.keep g grp p x) := by
  refine ⟨h.pa, h.ct, h.tu, by show (S.wk.map _).length ≤ N; rw [List.length_map]; exact h.wk, h.gm, fun w hw => ?_, h.c0⟩
  obtain ⟨y, hy, e⟩ := List.mem_map.mp hw
  by_cases c : y.1 = g
  · rw [if_pos c] at e; rw [← e]; exact h.nn y hy
  · rw [if_neg c] at e; rw [← e]; exact h.nn y hy
def DS.tn (S : DS) (g : Str) : DS := { S with tu := sput S.tu g ((sget S.tu g).getD 0 + 1) }
theorem Bd.tn {N : Nat} {S : DS} (h : Bd N S) (g : Str) : Bd (N + 1) (S.tn g) := by
  refine ⟨fun c => Nat.le_succ_of_le (h.pa c), by have := h.ct; show S.ct ≤ _; omega, ?_, Nat.le_succ_of_le h.wk, Nat.le_succ_of_le h.gm, h.nn, h.c0⟩
  show (sput S.tu g _).length ≤ N + 1
  have := len_sput S.tu g ((sget S.tu g).getD 0 + 1)
  have := h.tu; omega
def numT (k : Int) : Str := Str.ofString (toString k)
theorem num_good {k : Int} (h : 0 ≤ k) (h2 : k ≤ 300) : strGood (numT k) ∧ k.natAbs.log2 < 1920 := by
  have q : ∀ n : Nat, n < 301 → (PyData.canLay0 (.str (numT (n : Int))) = true ∧ (n : Int).natAbs.log2 < 1920) := by decide +kernel
  have := q k.toNat (by omega)
  rw [Int.toNat_of_nonneg h] at this
  exact this
theorem fs_two {fs : List (Bool × Int)} (h : NdS fs) : fs.length ≤ 2 := by
  have h1 := len_le_of_sub h (b := [false, true]) fun x _ => by cases x <;> simp
  rwa [List.length_map] at h1
def DS.turn (S : DS) (g : Str) : DS := match sget S.wk g with
  | none => S.tn g
  | some w => (S.tn g).endW g leftS w (numT w.1)
end K08
set_option Elab.async false
set_option linter.all false
set_option maxRecDepth 100000
set_option maxHeartbeats 800000
/-! K08u: a chain's turns, plain. -/
namespace K08
open PySem PySem.Spec SW
theorem CI.tn {vs : List Str} {S : DS} {m : Nat} (h : CI vs S m) (g : Str) : CI vs (S.tn g) m := ⟨h.di.tu _, h.wk, h.p0, h.gm, h.le, h.sn⟩
theorem CW.tn {vs : List Str} {S : DS} {m j : Nat} {mm : MkD} (h : CW vs S m j mm) (g : Str) : CW vs (S.tn g) m j mm := ⟨h.di.tu _, h.p0, h.gm, h.le, h.ex⟩
theorem CI.turn {vs : List Str} {S : DS} {m : Nat} (h : CI vs S m) : CI vs (S.turn chS) m := by
  have e : S.turn chS = S.tn chS := by unfold DS.turn; rw [h.wk]; rfl
  rw [e]; exact h.tn _
theorem CW.get {vs : List Str} {S : DS} {m j : Nat} {mm : MkD} (h : CW vs S m j mm) : ∃ w, sget S.wk chS = some w ∧ w.2.2 = mm := by
  obtain ⟨k, fs, R0, e, _⟩ := h.ex
  exact ⟨(k, fs, mm), by rw [e, sget_cons, if_pos rfl], rfl⟩
theorem CW.turn {vs : List Str} {S : DS} {m j : Nat} {mm : MkD} (h : CW vs S m j mm) : CI vs (S.turn chS) m := by
  obtain ⟨w, hw, _⟩ := h.get
  have e : S.turn chS = (S.tn chS).endW chS leftS w (numT w.1) := by unfold DS.turn; rw [hw]
  rw [e]; exact (h.tn chS).left hw
theorem turn_tu (S : DS) (g : Str) : sget (S.turn g).tu g = some ((sget S.tu g).getD 0 + 1) := by
  have e : (S.turn g).tu = sput S.tu g ((sget S.tu g).getD 0 + 1) := by
    unfold DS.turn
    cases sget S.wk g <;> rfl
  rw [e, sget_put, if_pos rfl]
theorem Bd.turn {N : Nat} {S : DS} (h : Bd N S) (d : DI S) (g : Str) : Bd (N + 2) (S.turn g) := by
  unfold DS.turn
  cases e : sget S.wk g with
  | none => exact (h.tn g).mono (by omega)
  | some w => exact (h.tn g).endW g leftS _ w (d.ml _ (mem_of_sget e))
/-- a step of a chain: most q rows -/
def StepR (vs : List Str) (S : DS) (m q : Nat) (stop : Option Str) (S' : DS) (z : Nat) : Prop :=
  (m = vs.length ∧ S' = S ∧ z = 0) ∨ (m < vs.length ∧ stop ≠ none ∧ z = 0 ∧ ∃ j mm, CW vs S' m j mm) ∨ (m < vs.length ∧ stop = none ∧ z = min q (vs.length - m) ∧ CI vs S' (m + z))
end K08
set_option Elab.async false
set_option linter.all false
set_option maxRecDepth 100000
set_option maxHeartbeats 1600000
set_option pp.deepTerms false
set_option pp.deepTerms.threshold 10
set_option pp.maxSteps 500
namespace K08
open PySem PySem.Spec SW
open L2 hiding Apart GC GK GS GSs gs_while gss_cons gss_nil
open PyProof.Rows hiding St
local macro_rules | `(tactic| tm_at "sAt") => `(tactic| with_reducible (first | exact At.here | (apply At.there; tm_at "sAt")))
local macro_rules | `(tactic| tm_at "sSlot") => `(tactic| with_reducible (first | exact Slot.here | (apply Slot.there; tm_at "sSlot")))
local macro_rules | `(tactic| tm_at "sKd") => `(tactic| with_reducible (first | exact Kd.here | (apply Kd.there; tm_at "sKd")))
local macro_rules | `(tactic| tm_at "sSel") => `(tactic| with_reducible (first | exact Sel.here | (apply Sel.there; tm_at "sSel")))
local macro_rules | `(tactic| tm_at "sRpl") => `(tactic| with_reducible (first | exact Rpl.here | (apply Rpl.there; tm_at "sRpl")))
local macro_rules | `(tactic| tm_at "sTk") => `(tactic| (first | exact Tk.nil | (apply Tk.cons; (tm_at "sSel"); (tm_at "sTk"))))
local macro_rules | `(tactic| tm_at "sVk") => `(tactic| first
  | exact Vk.l
  | exact Vk.c
  | exact Vk.f)
local macro_rules | `(tactic| tm_at "sLk") => `(tactic| first
  | exact Lk.l
  | exact Lk.c)
local macro_rules | `(tactic| tm_at "sLf") => `(tactic| first
  | exact Or.inl rfl
  | exact Or.inr rfl)
local macro_rules | `(tactic| tm_at "sRoom") => `(tactic| first
  | assumption
  | exact L2.Room.mono (by assumption) (by decide))
local macro_rules | `(tactic| tm_at "sXok") => `(tactic| first
  | assumption
  | exact xok0)
local macro_rules | `(tactic| tm_at "sCv") => `(tactic| (first | with_reducible exact Cv.id | with_reducible exact Cv.lst0 | ((with_reducible refine Cv.pt ?_); tm_at "sEq") | ((with_reducible refine Cv.lst ?_); tm_at "sEq") | ((with_reducible refine Cv.val ?_); tm_at "sEq")))
local macro_rules | `(tactic| tm_at "sEq") => `(tactic| (first | rfl | assumption | (simp; done)))
local macro_rules | `(tactic| tm_at "sSelC") => `(tactic| (first | ((with_reducible apply SelC.here); tm_at "sCv") | ((with_reducible apply SelC.there); tm_at "sSelC")))
local macro_rules | `(tactic| tm_at "fit") => `(tactic| (first | with_reducible exact Fit.refl | with_reducible exact Fit.nil | ((with_reducible apply Fit.find); (case s => tm_at "sSelC"); (case t => tm_at "fit")) | ((with_reducible apply Fit.drop); tm_at "fit")))
local macro_rules | `(tactic| tm_at "sLkF") => `(tactic| with_reducible (first | exact LkF.here | (apply LkF.there (by with_unfolding_all rfl); tm_at "sLkF")))
local macro_rules | `(tactic| tm_at "sNoF") => `(tactic| with_reducible (first | exact NoF.nil | (apply NoF.cons (by with_unfolding_all rfl); tm_at "sNoF")))
local macro_rules | `(tactic| tm_at "sPutF") => `(tactic| with_reducible (first | exact PutF.here | exact PutF.nil | (apply PutF.there (by with_unfolding_all rfl); tm_at "sPutF")))
local macro_rules | `(tactic| tm_at "sHasL") => `(tactic| (first | exact hasL_pt (by tm_at "sSel") | exact hasL_R (by tm_at "sSel")))
local macro_rules | `(tactic| tm_at "sZ") => `(tactic| (first | assumption | (simp only [List.length_cons, List.length_nil, List.length_append, PySem.sizeLine_eq]; omega) | (rw [PySem.sizeLine_eq]; simp; done)))
local macro_rules | `(tactic| tm_at "sIx") => `(tactic| with_unfolding_all rfl)
local macro_rules | `(tactic| tm_at "sSet") => `(tactic| (first | exact SetR.here | (apply SetR.there; tm_at "sSet")))
local macro_rules | `(tactic| tm_at "sPut") => `(tactic| first
  | exact PutAt.c 0 (by with_unfolding_all rfl) (by tm_at "sSet")
  | exact PutAt.c 1 (by with_unfolding_all rfl) (by tm_at "sSet")
  | exact PutAt.c 2 (by with_unfolding_all rfl) (by tm_at "sSet")
  | exact PutAt.c 3 (by with_unfolding_all rfl) (by tm_at "sSet")
  | exact PutAt.c 4 (by with_unfolding_all rfl) (by tm_at "sSet")
  | exact PutAt.c 5 (by with_unfolding_all rfl) (by tm_at "sSet"))
local macro_rules | `(tactic| tm_at "gECall") => `(tactic| first
  | ((guard_target = GE _ _ (Expr.Call (Expr.Name "len" _) _ _ _) _ _ _); (with_reducible refine gb_len (by assumption) (by tm_at "sKd") ?hm ?he ?hpl ?_); (case hm => assumption); (case he => rfl); (case hpl => rfl))
  | ((guard_target = GE _ _ (Expr.Call (Expr.Name "int" _) _ _ _) _ _ _); (with_reducible refine gb_int (by assumption) (by tm_at "sKd") ?hm ?he ?hpl ?_); (case hm => assumption); (case he => rfl); (case hpl => rfl))
  | ((guard_target = GE _ _ (Expr.Call (Expr.Name "str" _) _ _ _) _ _ _); (with_reducible refine gb_str (by assumption) (by tm_at "sKd") ?hm ?he ?hpl ?_); (case hm => assumption); (case he => rfl); (case hpl => rfl))
  | ((guard_target = GE _ _ (Expr.Call (Expr.Name "list" _) _ _ _) _ _ _); (with_reducible refine gb_list (by assumption) (by tm_at "sKd") ?hm ?he ?hpl ?_); (case hm => assumption); (case he => rfl); (case hpl => rfl))
  | ((guard_target = GE _ _ (Expr.Call (Expr.Name "tuple" _) _ _ _) _ _ _); (with_reducible refine gb_tuple (by assumption) (by tm_at "sKd") ?hm ?he ?hpl ?_); (case hm => assumption); (case he => rfl); (case hpl => rfl))
  | ((guard_target = GE _ _ (Expr.Call (Expr.Name "min" _) _ _ _) _ _ _); (with_reducible refine gb_min (by assumption) (by tm_at "sKd") ?hm ?he ?hpl ?_); (case hm => assumption); (case he => rfl); (case hpl => rfl))
  | ((guard_target = GE _ _ (Expr.Call (Expr.Name "max" _) _ _ _) _ _ _); (with_reducible refine gb_max (by assumption) (by tm_at "sKd") ?hm ?he ?hpl ?_); (case hm => assumption); (case he => rfl); (case hpl => rfl))
  | ((guard_target = GE _ _ (Expr.Call (Expr.Name "sum" _) _ _ _) _ _ _); (with_reducible refine gb_sum (by assumption) (by tm_at "sKd") ?hm ?he ?hpl ?_); (case hm => assumption); (case he => rfl); (case hpl => rfl))
  | ((guard_target = GE _ _ (Expr.Call (Expr.Name "sorted" _) _ _ _) _ _ _); (with_reducible refine gb_sorted (by assumption) (by tm_at "sKd") ?hm ?he ?hpl ?_); (case hm => assumption); (case he => rfl); (case hpl => rfl))
  | ((guard_target = GE _ _ (Expr.Call (Expr.Name "abs" _) _ _ _) _ _ _); (with_reducible refine gb_abs (by assumption) (by tm_at "sKd") ?hm ?he ?hpl ?_); (case hm => assumption); (case he => rfl); (case hpl => rfl))
  | ((guard_target = GE _ _ (Expr.Call (Expr.Name "range" _) _ _ _) _ _ _); (with_reducible refine gb_range (by assumption) (by tm_at "sKd") ?hm ?he ?hpl ?_); (case hm => assumption); (case he => rfl); (case hpl => rfl))
  | ((guard_target = GE _ _ (Expr.Call (Expr.Name "any" _) _ _ _) _ _ _); (with_reducible refine gb_any (by assumption) (by tm_at "sKd") ?hm ?he ?hpl ?_); (case hm => assumption); (case he => rfl); (case hpl => rfl))
  | ((guard_target = GE _ _ (Expr.Call (Expr.Name "all" _) _ _ _) _ _ _); (with_reducible refine gb_all (by assumption) (by tm_at "sKd") ?hm ?he ?hpl ?_); (case hm => assumption); (case he => rfl); (case hpl => rfl))
  | ((guard_target = GE _ _ (Expr.Call (Expr.Name "dict" _) _ _ _) _ _ _); (with_reducible refine gb_dict (by assumption) (by tm_at "sKd") ?hm ?he ?hpl ?_); (case hm => assumption); (case he => rfl); (case hpl => rfl))
  | ((guard_target = GE _ _ (Expr.Call (Expr.Name "set" _) _ _ _) _ _ _); (with_reducible refine gb_set (by assumption) (by tm_at "sKd") ?hm ?he ?hpl ?_); (case hm => assumption); (case he => rfl); (case hpl => rfl)))
local macro_rules | `(tactic| tm_at "gECall") => `(tactic| (guard_target = GE _ _ (Expr.Call (Expr.Name "_law_roll" _) (_ :: _) [] _) _ _ _; (refine ge_call (FnAt.e (x := "_law_roll") (by assumption)) (by tm_at "sRoom") (by tm_at "sXok") (Nm.gl (by assumption) (by tm_at "sKd")) ?hdb ?he ?hpl ?_); (case hdb => rfl); (case he => rfl); (case hpl => rfl)))
local macro_rules | `(tactic| tm_at "gECall") => `(tactic| (guard_target = GE _ _ (Expr.Call (Expr.Name "_law_dice" _) (_ :: _) [] _) _ _ _; (refine ge_call (FnAt.e (x := "_law_dice") (by assumption)) (by tm_at "sRoom") (by tm_at "sXok") (Nm.gl (by assumption) (by tm_at "sKd")) ?hdb ?he ?hpl ?_); (case hdb => rfl); (case he => rfl); (case hpl => rfl)))
local macro_rules | `(tactic| tm_at "gECall") => `(tactic| (guard_target = GE _ _ (Expr.Call (Expr.Name "_law_rounds" _) (_ :: _) [] _) _ _ _; (refine ge_call (FnAt.e (x := "_law_rounds") (by assumption)) (by tm_at "sRoom") (by tm_at "sXok") (Nm.gl (by assumption) (by tm_at "sKd")) ?hdb ?he ?hpl ?_); (case hdb => rfl); (case he => rfl); (case hpl => rfl)))
local macro_rules | `(tactic| tm_at "gECall") => `(tactic| (guard_target = GE _ _ (Expr.Call (Expr.Name "_law_deed" _) (_ :: _) [] _) _ _ _; (refine ge_call (FnAt.e (x := "_law_deed") (by assumption)) (by tm_at "sRoom") (by tm_at "sXok") (Nm.gl (by assumption) (by tm_at "sKd")) ?hdb ?he ?hpl ?_); (case hdb => rfl); (case he => rfl); (case hpl => rfl)))
local macro_rules | `(tactic| tm_at "gE") => `(tactic| first
  | ((guard_target = GE _ _ (Expr.Name _ _) _ _ _); (with_reducible refine ge_name (by assumption) (by tm_at "sAt") (by tm_at "sKd") (by tm_at "sVk") rfl ?_))
  | ((guard_target = GE _ _ (Expr.Constant (Const.int _) _ _) _ _ _); (with_reducible refine ge_int ?_))
  | ((guard_target = GE _ _ (Expr.Attribute _ _ _) _ _ _); (with_reducible refine ge_fld ?hb ?_); (case hb => rfl))
  | ((guard_target = GE _ _ (Expr.Subscript _ (Expr.Slice _ _ none _) _) _ _ _); (with_reducible refine ge_slice ?_))
  | ((guard_target = GE _ _ (Expr.Call (Expr.Attribute _ _ _) _ _ _) _ _ _); tm_at "gEMeth")
  | ((guard_target = GE _ _ (Expr.Subscript _ _ _) _ _ _); (with_reducible refine ge_sub ?hs ?_); (case hs => exact fun _ _ => rfl))
  | ((guard_target = GE _ _ (Expr.BinOp _ _ _ _) _ _ _); (with_reducible refine ge_bin ?_))
  | ((guard_target = GE _ _ (Expr.Constant (Const.str _) _ _) _ _ _); (with_reducible refine ge_str ?_))
  | ((guard_target = GE _ _ (Expr.Call (Expr.Name _ _) _ _ _) _ _ _); tm_at "gECall")
  | ((guard_target = GE _ _ (Expr.List _ _) _ _ _); (with_reducible refine ge_lst ?_))
  | ((guard_target = GE _ _ (Expr.Tuple _ _ _) _ _ _); (with_reducible refine ge_tup ?_))
  | ((guard_target = GE _ _ (Expr.Constant Const.none _ _) _ _ _); (with_reducible refine ge_none ?_))
  | ((guard_target = GE _ _ (Expr.Constant (Const.bool _) _ _) _ _ _); (with_reducible refine ge_bl ?_))
  | ((guard_target = GE _ _ (Expr.Compare _ [_] [_] _) _ _ _); (with_reducible refine ge_cmp ?hm ?_); (case hm => first | exact nomark _ | rfl))
  | ((guard_target = GE _ _ (Expr.UnaryOp UnaryOp.Not _ _) _ _ _); (with_reducible refine ge_not ?_))
  | ((guard_target = GE _ _ (Expr.UnaryOp _ _ _) _ _ _); (with_reducible refine ge_un ?_))
  | ((guard_target = GE _ _ (Expr.IfExp _ _ _ _) _ _ _); (with_reducible refine ge_if ?_))
  | ((guard_target = GE _ _ (Expr.Compare _ [_, _] [_, _] _) _ _ _); (with_reducible refine ge_chain ?hm ?_); (case hm => with_unfolding_all rfl))
  | ((guard_target = GE _ _ (Expr.BoolOp _ [_] _) _ _ _); (with_reducible refine ge_one ?_))
  | ((guard_target = GE _ _ (Expr.BoolOp BoolOp.And _ _) _ _ _); (with_reducible refine ge_and ?_))
  | ((guard_target = GE _ _ (Expr.BoolOp BoolOp.Or _ _) _ _ _); (with_reducible refine ge_or ?_)))
local macro_rules | `(tactic| tm_at "gEMeth") => `(tactic| first
  | ((guard_target = GE _ _ (Expr.Call (Expr.Attribute _ "append" _) [_] [] _) _ _ _); (with_reducible refine ge_append ?h1 ?h2 ?h3 ?h4 ?h5 ?_); (case h1 => rfl); (case h2 => rfl); (case h3 => rfl); (case h4 => rfl); (case h5 => rfl))
  | ((guard_target = GE _ _ (Expr.Call (Expr.Attribute _ "extend" _) [_] [] _) _ _ _); (with_reducible refine ge_extend ?h1 ?h2 ?h3 ?h4 ?h5 ?_); (case h1 => rfl); (case h2 => rfl); (case h3 => rfl); (case h4 => rfl); (case h5 => rfl))
  | ((guard_target = GE _ _ (Expr.Call (Expr.Attribute _ "remove" _) [_] [] _) _ _ _); (with_reducible refine ge_remove ?h1 ?h2 ?h3 ?h4 ?h5 ?_); (case h1 => rfl); (case h2 => rfl); (case h3 => rfl); (case h4 => rfl); (case h5 => rfl))
  | ((guard_target = GE _ _ (Expr.Call (Expr.Attribute _ "pop" _) [_] [] _) _ _ _); (with_reducible refine ge_popAt ?h1 ?h2 ?h3 ?h4 ?h5 ?_); (case h1 => rfl); (case h2 => rfl); (case h3 => rfl); (case h4 => rfl); (case h5 => rfl)))
local macro_rules | `(tactic| tm_at "gT") => `(tactic| first
  | ((guard_target = GT _ _ (Expr.Compare _ [_] [_] _) _ _ _); (with_reducible refine gt_cmp ?hm ?_); (case hm => first | exact nomark _ | rfl))
  | ((guard_target = GT _ _ (Expr.UnaryOp UnaryOp.Not _ _) _ _ _); (with_reducible refine gt_not ?_))
  | ((guard_target = GT _ _ (Expr.BoolOp _ _ _) _ _ _); (with_reducible refine gt_bool ?_))
  | ((guard_target = GT _ _ (Expr.Compare _ [_, _] [_, _] _) _ _ _); (with_reducible refine gt_chain ?hm ?_); (case hm => with_unfolding_all rfl))
  | ((guard_target = GT _ _ (Expr.Call _ _ _ _) _ _ _); (with_reducible refine gt_val ?he ?_); (case he => intro _; rfl))
  | ((guard_target = GT _ _ (Expr.Subscript _ _ _) _ _ _); (with_reducible refine gt_val ?he ?_); (case he => intro _; rfl))
  | ((guard_target = GT _ _ (Expr.Name _ _) _ _ _); (with_reducible refine gt_val ?he ?_); (case he => intro _; rfl))
  | ((guard_target = GT _ _ (Expr.Attribute _ _ _) _ _ _); (with_reducible refine gt_val ?he ?_); (case he => intro _; rfl)))
local macro_rules | `(tactic| tm_at "gB") => `(tactic| first
  | ((guard_target = GB _ _ (Expr.BoolOp BoolOp.And [_] _) _ _ _); (with_reducible refine gb_and1 ?_))
  | ((guard_target = GB _ _ (Expr.BoolOp BoolOp.Or [_] _) _ _ _); (with_reducible refine gb_or1 ?_))
  | ((guard_target = GB _ _ (Expr.BoolOp BoolOp.And _ _) _ _ _); (with_reducible refine gb_and ?_))
  | ((guard_target = GB _ _ (Expr.BoolOp BoolOp.Or _ _) _ _ _); (with_reducible refine gb_or ?_)))
local macro_rules | `(tactic| tm_at "gA") => `(tactic| first
  | ((guard_target = GA _ _ ([]) _ _ _); (with_reducible refine ga_nil ?_))
  | ((guard_target = GA _ _ (_ :: _) _ _ _); (with_reducible refine ga_cons ?hst ?_); (case hst => rfl)))
local macro_rules | `(tactic| tm_at "gOp") => `(tactic| first
  | ((guard_target = GOp _ _ (binaryOp Operator.Add) (V.int _) (V.int _) _ _); (with_reducible refine go_add ?_))
  | ((guard_target = GOp _ _ (binaryOp Operator.Sub) (V.int _) (V.int _) _ _); (with_reducible refine go_sub ?_))
  | ((guard_target = GOp _ _ (compareOp CmpOp.Eq) (V.int _) (V.int _) _ _); (with_reducible refine go_eqI ?_))
  | ((guard_target = GOp _ _ (compareOp CmpOp.Lt) (V.int _) (V.int _) _ _); (with_reducible refine go_lt ?_))
  | ((guard_target = GOp _ _ (compareOp CmpOp.LtE) (V.int _) (V.int _) _ _); (with_reducible refine go_le ?_))
  | ((guard_target = GOp _ _ (compareOp CmpOp.Gt) (V.int _) (V.int _) _ _); (with_reducible refine go_gt ?_))
  | ((guard_target = GOp _ _ (compareOp CmpOp.GtE) (V.int _) (V.int _) _ _); (with_reducible refine go_ge ?_))
  | ((guard_target = GOp _ _ (compareOp CmpOp.NotEq) (V.int _) (V.int _) _ _); (with_reducible refine go_neI ?_))
  | ((guard_target = GOp _ _ (binaryOp Operator.Mult) (V.int _) (V.int _) _ _); (with_reducible refine go_mul ?c ?_); (case c => first | (left; constructor <;> omega) | (right; constructor <;> omega)))
  | ((guard_target = GOp _ _ (binaryOp Operator.FloorDiv) (V.int _) (V.int _) _ _); (with_reducible refine go_div ?c ?_); (case c => constructor <;> omega))
  | ((guard_target = GOp _ _ (binaryOp Operator.Mod) (V.int _) (V.int _) _ _); (with_reducible refine go_mod ?c ?_); (case c => omega))
  | ((guard_target = GOp _ _ (compareOp CmpOp.Eq) (V.str _) (V.str _) _ _); (with_reducible refine go_eqT ?_))
  | ((guard_target = GOp _ _ (compareOp CmpOp.NotEq) (V.str _) (V.str _) _ _); (with_reducible refine go_neT ?_))
  | ((guard_target = GOp _ _ (compareOp CmpOp.Eq) (V.bl _) (V.bl _) _ _); (with_reducible refine go_eqB ?_))
  | ((guard_target = GOp _ _ (compareOp CmpOp.NotEq) (V.bl _) (V.bl _) _ _); (with_reducible refine go_neB ?_))
  | ((guard_target = GOp _ _ (compareOp CmpOp.In) (V.int _) (V.ref _) _ _); (with_reducible refine go_inI (by tm_at "sSel") ?_))
  | ((guard_target = GOp _ _ (compareOp CmpOp.NotIn) (V.int _) (V.ref _) _ _); (with_reducible refine go_ninI (by tm_at "sSel") ?_))
  | ((guard_target = GOp _ _ (compareOp CmpOp.In) (V.str _) (V.ref _) _ _); (with_reducible refine go_inT (by tm_at "sSel") ?_))
  | ((guard_target = GOp _ _ (compareOp CmpOp.NotIn) (V.str _) (V.ref _) _ _); (with_reducible refine go_ninT (by tm_at "sSel") ?_))
  | ((guard_target = GOp _ _ (compareOp CmpOp.Eq) (_) (V.non) _ _); (with_reducible refine go_eqS rfl ?_))
  | ((guard_target = GOp _ _ (compareOp CmpOp.NotEq) (_) (V.non) _ _); (with_reducible refine go_neS rfl ?_))
  | ((guard_target = GOp _ _ (compareOp CmpOp.Is) (_) (V.non) _ _); (with_reducible refine go_isN ?_))
  | ((guard_target = GOp _ _ (compareOp CmpOp.IsNot) (_) (V.non) _ _); (with_reducible refine go_notN ?_)))
local macro_rules | `(tactic| tm_at "gC") => `(tactic| first
  | ((guard_target = GC _ _ (Value.type "int") [V.int _] _ _); (with_reducible refine gc_intI ?_))
  | ((guard_target = GC _ _ (Value.type "int") [V.bl _] _ _); (with_reducible refine gc_intB ?_))
  | ((guard_target = GC _ _ (Value.builtin "abs") [V.int _] _ _); (with_reducible refine gc_abs ?_))
  | ((guard_target = GC _ _ (Value.builtin "max") [V.int _, V.int _] _ _); (with_reducible refine gc_max2 ?hc ?_); (case hc => rfl))
  | ((guard_target = GC _ _ (Value.builtin "min") [V.int _, V.int _] _ _); (with_reducible refine gc_min2 ?hc ?_); (case hc => rfl))
  | ((guard_target = GC _ _ (Value.type "range") [V.int _] _ _); (with_reducible refine gc_rng1 ?_))
  | ((guard_target = GC _ _ (Value.type "range") [V.int _, V.int _] _ _); (with_reducible refine gc_rng2 ?_))
  | ((guard_target = GC _ _ (Value.builtin "len") [V.ref _] _ _); (with_reducible refine gc_lenR (by tm_at "sSel") ?_))
  | ((guard_target = GC _ _ (Value.builtin "len") [V.ref _] _ _); (with_reducible refine gc_len (by tm_at "sSel") ?_))
  | ((guard_target = GC _ _ (Value.builtin "len") [V.ref _] _ _); (with_reducible refine gc_lenT (by tm_at "sSel") ?_)))
local macro_rules | `(tactic| tm_at "gF") => `(tactic| first
  | ((guard_target = GF _ _ _ _ _ _); (with_reducible refine gf (by tm_at "sSel") (by tm_at "sLkF") ?hc ?hn ?_); (case hc => assumption); (case hn => assumption))
  | ((guard_target = GFS _ _ _ _ _ _); (with_reducible refine gfs (by tm_at "sRpl") (by tm_at "sPutF") ?hc ?hn ?hz ?_); (case hc => assumption); (case hn => assumption); (case hz => exact Nat.le_of_ble_eq_true rfl))
  | ((guard_target = GFA _ _ _ _ _ _ _ _ _); (with_reducible refine gfa (by tm_at "sSel") (by tm_at "sLkF") ?hc ?hn ?_); (case hc => assumption); (case hn => assumption))
  | ((guard_target = Exists fun _ => Exists fun _ => Exists fun _ => (Rpl _ _ _ _ ∧ _ ∧ _)); (with_reducible refine gfaE (by tm_at "sRpl") (by tm_at "sPutF") ?hz ?_); (case hz => exact Nat.le_of_ble_eq_true rfl))
  | ((guard_target = GAS _ _ _ _ _ _ _ _ _); (with_reducible refine gas (by tm_at "sSel") (by tm_at "sIx") ?_))
  | ((guard_target = (HasL _ _ _ ∧ _)); (with_reducible refine And.intro ?hh ?_); (case hh => tm_at "sHasL"))
  | ((guard_target = (IsIns _ _ _ _ _ ∧ _)); (with_reducible refine And.intro ?hh ?_); (case hh => exact isIns (by tm_at "sSel") (by tm_at "sNoF") (by rfl)))
  | ((guard_target = GApp _ _ _ _ _); (with_reducible refine gapp_pt (by tm_at "sRpl") ?hz ?_); (case hz => tm_at "sZ"))
  | ((guard_target = (List.length _ ≤ PySem.sizeLine ∧ _)); (with_reducible refine And.intro ?hz ?_); (case hz => tm_at "sZ"); intro _)
  | ((guard_target = GIp _ _ Operator.Add (V.int _) (V.int _) _ _); (with_reducible refine gip_add ?_))
  | ((guard_target = GIp _ _ Operator.Sub (V.int _) (V.int _) _ _); (with_reducible refine gip_sub ?_))
  | ((guard_target = GRem _ _ _ _ _); (with_reducible refine grem (by tm_at "sRpl") ?hm ?_); (case hm => assumption))
  | ((guard_target = GO _ _ none _ _ _); (with_reducible refine goN ?_))
  | ((guard_target = GO _ _ (some _) _ _ _); (with_reducible refine goS ?_)))
local macro_rules | `(tactic| tm_at "gIx") => `(tactic| first
  | (with_reducible refine gi_lst (by tm_at "sSel") (by tm_at "sIx") ?_)
  | (with_reducible refine gi_tup (by tm_at "sSel") (by tm_at "sIx") ?_))
local macro_rules | `(tactic| tm_at "gS") => `(tactic| first
  | ((guard_target = GS _ _ (Stmt.Assign [Expr.Name _ _] _ _) _ _ _); (with_reducible refine gs_name (by assumption) (by tm_at "sSlot") (by tm_at "sKd") (by tm_at "sLk") (by tm_at "sLf") ?hsw ?_); (case hsw => rfl))
  | ((guard_target = GS _ _ (Stmt.If _ _ _ _) _ _ _); (with_reducible refine gs_if ?_))
  | ((guard_target = GS _ _ (Stmt.AugAssign (Expr.Name _ _) _ _ _) _ _ _); (with_reducible refine gs_aug (by assumption) (by tm_at "sAt") (by tm_at "sSlot") (by tm_at "sKd") (by tm_at "sLk") (by tm_at "sLf") ?_))
  | ((guard_target = GS _ _ (Stmt.AugAssign (Expr.Attribute _ _ _) _ _ _) _ _ _); (with_reducible refine gs_fldaug ?_))
  | ((guard_target = GS _ _ (Stmt.AugAssign (Expr.Subscript _ _ _) _ _ _) _ _ _); (with_reducible refine gs_augS ?ha ?_); (case ha => intros; rfl))
  | ((guard_target = GS _ _ (Stmt.Return (some _) _) _ _ _); (with_reducible refine gs_ret ?_))
  | ((guard_target = GS _ _ (Stmt.Expr (Expr.Constant _ _ _) _) _ _ _); (with_reducible refine gs_doc ?_))
  | ((guard_target = GS _ _ (Stmt.Expr _ _) _ _ _); (with_reducible refine gs_expr ?hsw ?_); (case hsw => rfl))
  | ((guard_target = GS _ _ (Stmt.Assign [Expr.Attribute _ _ _] _ _) _ _ _); (with_reducible refine gs_fld ?hsw ?_); (case hsw => rfl))
  | ((guard_target = GS _ _ (Stmt.Assign [Expr.Subscript _ _ _] _ _) _ _ _); (with_reducible refine gs_asg ?hsw ?hw ?h1 ?_); (case hsw => rfl); (case hw => rfl); (case h1 => rfl))
  | ((guard_target = GS _ _ (Stmt.Assign [Expr.Tuple _ _ _] _ _) _ _ _); (with_reducible refine gs_asg ?hsw ?hw ?h1 ?_); (case hsw => rfl); (case hw => rfl); (case h1 => rfl))
  | ((guard_target = GS _ _ (Stmt.Return none _) _ _ _); (with_reducible refine gs_retN ?_))
  | ((guard_target = GS _ _ (Stmt.Pass _) _ _ _); (with_reducible refine gs_pass ?_))
  | ((guard_target = GS _ _ (Stmt.Break _) _ _ _); (with_reducible refine gs_break ?_))
  | ((guard_target = GS _ _ (Stmt.Continue _) _ _ _); (with_reducible refine gs_continue ?_)))
local macro_rules | `(tactic| tm_at "gG") => `(tactic| first
  | ((guard_target = GG _ _ (Expr.Name _ _) _ _ _ _); (with_reducible refine gg_name (by assumption) (by tm_at "sSlot") (by tm_at "sKd") (by tm_at "sLk") (by tm_at "sLf") ?_))
  | ((guard_target = GG _ _ (Expr.Subscript _ _ _) _ _ _ _); (with_reducible refine gg_sub ?ha ?_); (case ha => intro _; rfl))
  | ((guard_target = GG _ _ (Expr.Tuple _ _ _) _ _ _ _); (with_reducible refine gg_tup ?hc (by tm_at "sSel") ?hn ?hst ?_); (case hc => rfl); (case hn => rfl); (case hst => rfl)))
local macro_rules | `(tactic| tm_at "g") => `(tactic| first
  | ((guard_target = GE _ _ _ _ _ _); tm_at "gE")
  | ((guard_target = GOp _ _ _ _ _ _ _); tm_at "gOp")
  | ((guard_target = GIx _ _ _ _ _ _); tm_at "gIx")
  | tm_at "gF"
  | ((guard_target = (wipe _ _ = wipe _ _ ∧ _)); refine And.intro rfl ?_)
  | ((guard_target = GGs _ _ [] _ _ _ _); (with_reducible refine ggs_nil ?_))
  | ((guard_target = GGs _ _ (_ :: _) _ _ _ _); (with_reducible refine ggs_cons ?hst ?_); (case hst => rfl))
  | ((guard_target = GTs _ _ [] _ _ _); (with_reducible refine gts_nil ?_))
  | ((guard_target = GTs _ _ [_] _ _ _); (with_reducible refine gts_one ?_))
  | ((guard_target = KB _ _ _); (with_reducible refine KB.mk ?_))
  | ((guard_target = GA _ _ _ _ _ _); tm_at "gA")
  | ((guard_target = GS _ _ _ _ _ _); tm_at "gS")
  | ((guard_target = GSs _ _ (_ :: _) _ _ _); (with_reducible refine gss_cons ?_))
  | ((guard_target = GSs _ _ ([]) _ _ _); (with_reducible refine gss_nil ?_))
  | ((guard_target = GT _ _ _ _ _ _); tm_at "gT")
  | ((guard_target = GB _ _ _ _ _ _); tm_at "gB")
  | ((guard_target = GC _ _ _ _ _ _); tm_at "gC")
  | ((guard_target = GG _ _ _ _ _ _ _); tm_at "gG")
  | ((guard_target = GPutL _ _ _ _ _); (with_reducible refine gput (by tm_at "sRpl") (by tm_at "sPut") ?_))
  | ((guard_target = if true = true then _ else _); (with_reducible refine iteT ?_))
  | ((guard_target = if (!true) = true then _ else _); (with_reducible refine iteNT ?_))
  | ((guard_target = if (!false) = true then _ else _); (with_reducible refine iteNF ?_))
  | ((guard_target = if false = true then _ else _); (with_reducible refine iteF ?_))
  | ((guard_target = Exists _); (with_reducible refine Exists.intro _ (And.intro rfl ?_)))
  | (first | with_reducible refine ite_nI ?_ | with_reducible refine ite_nN ?_ | with_reducible refine ite_nnI ?_ | with_reducible refine ite_nnN ?_ | with_reducible refine ite_nR ?_ | with_reducible refine ite_nnR ?_))
local macro_rules | `(tactic| tm_at "sSetN") => `(tactic| (first | exact SetN.here | (apply SetN.there; tm_at "sSetN")))
local macro_rules | `(tactic| tm_at "sWp") => `(tactic| (first | exact Wp.nil | (apply Wp.cons; (tm_at "sWp"); (tm_at "sSetN"))))
local macro_rules | `(tactic| tm_at "fits") => `(tactic| (first | apply Fits.mk | apply FitL.mk))
local macro_rules | `(tactic| tm_at "ent") => `(tactic| (apply Fit.ent; tm_at "fit"))
local macro_rules | `(tactic| tm_at "go") => `(tactic| repeat (tm_at "g"))
local macro_rules | `(tactic| tm_at "gs") => `(tactic| repeat ((fail_if_success (guard_target = GSs _ _ (_ :: _) _ _ _)); tm_at "g"))
local macro_rules | `(tactic| tm_at "if") => `(tactic| first
  | (with_reducible refine ite_ndec (fun _ => ?_) (fun _ => ?_))
  | (with_reducible refine ite_dec (fun _ => ?_) (fun _ => ?_))
  | (with_reducible refine ite_nb (fun _ => ?_) (fun _ => ?_))
  | (with_reducible refine ite_b (fun _ => ?_) (fun _ => ?_)))
section
variable {T : List (Addr × Str)} {P : Program} {w : World} {Kf : PySem.W.Frag} {mg : Str → Option Value} {base : Heap} {f : Addr} {fd : FuncData}
theorem ok_dice (f_int : mg "int" = none) (f_abs : mg "abs" = none) (F : FunD Kf "_law_dice" "_law_dice" (defArgs s_law_dice) (defBody s_law_dice) (defScope s_law_dice) [] [] f fd) : FnOk P w Kf mg base (L2.CX P w) 1 f fd ["cell"] (spOf T spDice) := by
  refine def_in F sc_law_dice (fun vs L K kx h => ?_) (fun A outer s H E hr n vs L KK kx h hx σ hσ => ?_)
  · obtain ⟨c, rfl, _⟩ := h; rfl
  · obtain ⟨c, rfl, k⟩ := h
    obtain rfl : σ = [some (.int c)] := hσ
    refine gss_cons ?_
    tm_at "go"
    tm_at "if"
    · tm_at "go"
      tm_at "if"
      · tm_at "go"
        apply Clo.mk (k _)
        apply Fit.ent
        exact Fit.cons .here Cv.dc Fit.refl
      · tm_at "go"
        refine go_pow ⟨by decide, by decide, by decide⟩ ?_
        tm_at "go"
        apply Clo.mk (k _)
        apply Fit.ent
        exact Fit.cons .here Cv.dc Fit.refl
    · tm_at "go"
      refine go_pow ⟨by decide, by decide, by decide⟩ ?_
      tm_at "go"
      apply Clo.mk (k _)
      apply Fit.ent
      exact Fit.cons .here Cv.dc Fit.refl
theorem ok_roll (f_int : mg "int" = none) (F : FunD Kf "_law_roll" "_law_roll" (defArgs s_law_roll) (defBody s_law_roll) (defScope s_law_roll) [] [] f fd) : FnOk P w Kf mg base (L2.CX P w) 1 f fd ["dice", "many"] (spOf T spRoll) := by
  refine def_in F sc_law_roll (fun vs L K kx h => ?_) (fun A outer s H E hr n vs L KK kx h hx σ hσ => ?_)
  · obtain ⟨d, m, R, rfl, _⟩ := h; rfl
  · obtain ⟨d, m, R, rfl, m0, m1, rfl, k⟩ := h
    obtain rfl : σ = [some (.ref d), some (.int m), none] := hσ
    refine dc_in (by tm_at "sSel") fun x y z => ?_
    refine gss_cons ?_
    tm_at "go"
    tm_at "if"
    · tm_at "go"
      apply Clo.mk (k _ (Int.emod_nonneg _ (by omega)) (Int.emod_lt_of_pos _ m0))
      apply Fit.ent
      exact Fit.cons .here Cv.dc Fit.refl
    · tm_at "go"
      tm_at "if"
      · tm_at "go"
        tm_at "if"
        · tm_at "go"
          apply Clo.mk (k _ (Int.emod_nonneg _ (by omega)) (Int.emod_lt_of_pos _ m0))
          apply Fit.ent
          exact Fit.cons .here Cv.dc Fit.refl
        · tm_at "go"
          apply Clo.mk (k _ (Int.emod_nonneg _ (by omega)) (Int.emod_lt_of_pos _ m0))
          apply Fit.ent
          exact Fit.cons .here Cv.dc Fit.refl
      · tm_at "go"
        apply Clo.mk (k _ (Int.emod_nonneg _ (by omega)) (Int.emod_lt_of_pos _ m0))
        apply Fit.ent
        exact Fit.cons .here Cv.dc Fit.refl
theorem ok_rounds (hdi : FnAt T P w Kf mg base 1 "_law_dice" spDice) (F : FunD Kf "_law_rounds" "_law_rounds" (defArgs s_law_rounds) (defBody s_law_rounds) (defScope s_law_rounds) [] [] f fd) : FnOk P w Kf mg base (L2.CX P w) 2 f fd ["script", "most"] (spOf T (spRounds Kf)) := by
  refine def_in F sc_law_rounds (fun vs L K kx h => ?_) (fun A outer s H E hr n vs L KK kx h hx σ hσ => ?_)
  · obtain ⟨s, ns, m, R, rfl, _⟩ := h; rfl
  · obtain ⟨s0, ns, m, R, rfl, rfl, hz, k⟩ := h
    obtain rfl : σ = [some (.ref s0), some (.int (m : Int)), none, none] := hσ
    refine gss_cons ?_
    tm_at "go"
    refine gsl_scr (ns := ns) .here fun q => ?_
    rw [SW.cutD_map]
    have hcl : (SW.cutD ns none (some (m : Int))).length ≤ 1000 := by
      unfold SW.cutD
      rw [List.length_take, List.length_drop]; omega
    generalize SW.cutD ns none (some (m : Int)) = cs at *
    tm_at "gs"
    refine gss_cons ?_
    refine gs_join (fun σ' L' => ∃ (q : Addr) (cs : List Int), cs.length ≤ 1000 ∧ σ' = [some (.ref s0), some (.int (m : Int)), some (.ref q), none] ∧ Ent T L' (pt q (.lst (cs.map V.int)) :: R)) ?_ ?_
    · tm_at "go"
      refine go_eqE hr (sees_pt cInt (by tm_at "sSel") (fun _ _ => True.intro) (by decide)) (sees_nil (by tm_at "sSel")) (eqv_nil cs) ?_
      tm_at "go"
      tm_at "if"
      · tm_at "go"
        refine ⟨_, [0], by simp, rfl, ?_⟩
        tm_at "ent"
      · tm_at "go"
        refine ⟨_, cs, hcl, rfl, ?_⟩
        tm_at "ent"
    · rintro σ' L' ⟨q, cs, hcl, rfl, t1⟩
      refine GSs.ent t1 ?_
      tm_at "go"
      refine ge_lcL ow0_law_rounds rfl n.ndN (blkOk_by (N := n_law_rounds) (sc := defScope s_law_rounds) (by decide +kernel)) (by tm_at "sWp") (fun _ => rfl) ?_
      tm_at "go"
      refine ⟨_, _, rfl, ⟨_, by tm_at "sSel"⟩, lcgo (ObL dcP) (fun i as => as.length = i) [] rfl (fun D h e => obl_nil e) ?_ ?_⟩
      · rintro D i x Lx as hi ⟨hx', rfl⟩ e s' H' C cl fp
        simp only [List.nil_append]
        refine gg_blk (kc := kc0_law_rounds) n rfl (by decide) fun nb => ?_
        obtain ⟨y, hy, rfl⟩ : ∃ y, cs[i]? = some y ∧ x = V.int y := by
          rw [List.getElem?_map] at hx'
          cases hq : cs[i]? with
          | none => rw [hq] at hx'; cases hx'
          | some y => rw [hq] at hx'; cases hx'; exact ⟨y, rfl, rfl⟩
        tm_at "go"
        intro s' H' C cl fp
        refine gts_blk (kc := kc0_law_rounds) n rfl (by decide) fun nb => ?_
        tm_at "go"
        intro s' H' C cl fp
        refine ge_blk (kc := kc0_law_rounds) n rfl (by decide) fun nb => ?_
        refine ge_call hdi (by tm_at "sRoom") (by tm_at "sXok") (nb.gl (by tm_at "sKd")) rfl rfl rfl ?_
        tm_at "go"
        refine ⟨y, rfl, fun d => ?_⟩
        refine lcend_ent (L' := pt D (.lst (as.map V.ref)) :: ObS dcP as :: dcP d :: pt q (.lst (cs.map V.int)) :: R) ?_ (lcend_pt .here ?_ ⟨as ++ [d], by simp [e], ?_⟩)
        · exact Ent.trans (Ent.perm (List.Perm.swap _ _ _)) obl_out
        · rw [List.length_map] at hi ⊢
          rw [e, sizeLine_eq]; omega
        · exact Ent.trans (Ent.perm ((List.Perm.swap _ _ _).cons _)) obl_in
      · intro D as e
        tm_at "go"
        apply Clo.mk (k D as)
        apply Fit.ent
        exact Fit.cons .here Cv.id (Fit.drop Fit.refl)
end
end K08
set_option Elab.async false
set_option linter.all false
set_option maxRecDepth 100000
set_option maxHeartbeats 1600000
set_option pp.deepTerms false
set_option pp.deepTerms.threshold 10
set_option pp.maxSteps 500
namespace K08
open PySem PySem.Spec SW
open L2 hiding Apart GC GK GS GSs gs_while gss_cons gss_nil
open PyProof.Rows hiding St
local macro_rules | `(tactic| tm_at "sAt") => `(tactic| with_reducible (first | exact At.here | (apply At.there; tm_at "sAt")))
local macro_rules | `(tactic| tm_at "sSlot") => `(tactic| with_reducible (first | exact Slot.here | (apply Slot.there; tm_at "sSlot")))
local macro_rules | `(tactic| tm_at "sKd") => `(tactic| with_reducible (first | exact Kd.here | (apply Kd.there; tm_at "sKd")))
local macro_rules | `(tactic| tm_at "sSel") => `(tactic| with_reducible (first | exact Sel.here | (apply Sel.there; tm_at "sSel")))
local macro_rules | `(tactic| tm_at "sRpl") => `(tactic| with_reducible (first | exact Rpl.here | (apply Rpl.there; tm_at "sRpl")))
local macro_rules | `(tactic| tm_at "sTk") => `(tactic| (first | exact Tk.nil | (apply Tk.cons; (tm_at "sSel"); (tm_at "sTk"))))
local macro_rules | `(tactic| tm_at "sVk") => `(tactic| first
  | exact Vk.l
  | exact Vk.c
  | exact Vk.f)
local macro_rules | `(tactic| tm_at "sLk") => `(tactic| first
  | exact Lk.l
  | exact Lk.c)
local macro_rules | `(tactic| tm_at "sLf") => `(tactic| first
  | exact Or.inl rfl
  | exact Or.inr rfl)
local macro_rules | `(tactic| tm_at "sRoom") => `(tactic| first
  | assumption
  | exact L2.Room.mono (by assumption) (by decide))
local macro_rules | `(tactic| tm_at "sXok") => `(tactic| first
  | assumption
  | exact xok0)
local macro_rules | `(tactic| tm_at "sCv") => `(tactic| (first | with_reducible exact Cv.id | with_reducible exact Cv.lst0 | ((with_reducible refine Cv.pt ?_); tm_at "sEq") | ((with_reducible refine Cv.lst ?_); tm_at "sEq") | ((with_reducible refine Cv.val ?_); tm_at "sEq")))
local macro_rules | `(tactic| tm_at "sEq") => `(tactic| (first | rfl | assumption | (simp; done)))
local macro_rules | `(tactic| tm_at "sSelC") => `(tactic| (first | ((with_reducible apply SelC.here); tm_at "sCv") | ((with_reducible apply SelC.there); tm_at "sSelC")))
local macro_rules | `(tactic| tm_at "fit") => `(tactic| (first | with_reducible exact Fit.refl | with_reducible exact Fit.nil | ((with_reducible apply Fit.find); (case s => tm_at "sSelC"); (case t => tm_at "fit")) | ((with_reducible apply Fit.drop); tm_at "fit")))
local macro_rules | `(tactic| tm_at "sLkF") => `(tactic| with_reducible (first | exact LkF.here | (apply LkF.there (by with_unfolding_all rfl); tm_at "sLkF")))
local macro_rules | `(tactic| tm_at "sNoF") => `(tactic| with_reducible (first | exact NoF.nil | (apply NoF.cons (by with_unfolding_all rfl); tm_at "sNoF")))
local macro_rules | `(tactic| tm_at "sPutF") => `(tactic| with_reducible (first | exact PutF.here | exact PutF.nil | (apply PutF.there (by with_unfolding_all rfl); tm_at "sPutF")))
local macro_rules | `(tactic| tm_at "sHasL") => `(tactic| (first | exact hasL_pt (by tm_at "sSel") | exact hasL_R (by tm_at "sSel")))
local macro_rules | `(tactic| tm_at "sZ") => `(tactic| (first | assumption | (simp only [List.length_cons, List.length_nil, List.length_append, PySem.sizeLine_eq]; omega) | (rw [PySem.sizeLine_eq]; simp; done)))
local macro_rules | `(tactic| tm_at "sIx") => `(tactic| with_unfolding_all rfl)
local macro_rules | `(tactic| tm_at "sSet") => `(tactic| (first | exact SetR.here | (apply SetR.there; tm_at "sSet")))
local macro_rules | `(tactic| tm_at "sPut") => `(tactic| first
  | exact PutAt.c 0 (by with_unfolding_all rfl) (by tm_at "sSet")
  | exact PutAt.c 1 (by with_unfolding_all rfl) (by tm_at "sSet")
  | exact PutAt.c 2 (by with_unfolding_all rfl) (by tm_at "sSet")
  | exact PutAt.c 3 (by with_unfolding_all rfl) (by tm_at "sSet")
  | exact PutAt.c 4 (by with_unfolding_all rfl) (by tm_at "sSet")
  | exact PutAt.c 5 (by with_unfolding_all rfl) (by tm_at "sSet"))
local macro_rules | `(tactic| tm_at "gECall") => `(tactic| first
  | ((guard_target = GE _ _ (Expr.Call (Expr.Name "len" _) _ _ _) _ _ _); (with_reducible refine gb_len (by assumption) (by tm_at "sKd") ?hm ?he ?hpl ?_); (case hm => assumption); (case he => rfl); (case hpl => rfl))
  | ((guard_target = GE _ _ (Expr.Call (Expr.Name "int" _) _ _ _) _ _ _); (with_reducible refine gb_int (by assumption) (by tm_at "sKd") ?hm ?he ?hpl ?_); (case hm => assumption); (case he => rfl); (case hpl => rfl))
  | ((guard_target = GE _ _ (Expr.Call (Expr.Name "str" _) _ _ _) _ _ _); (with_reducible refine gb_str (by assumption) (by tm_at "sKd") ?hm ?he ?hpl ?_); (case hm => assumption); (case he => rfl); (case hpl => rfl))
  | ((guard_target = GE _ _ (Expr.Call (Expr.Name "list" _) _ _ _) _ _ _); (with_reducible refine gb_list (by assumption) (by tm_at "sKd") ?hm ?he ?hpl ?_); (case hm => assumption); (case he => rfl); (case hpl => rfl))
  | ((guard_target = GE _ _ (Expr.Call (Expr.Name "tuple" _) _ _ _) _ _ _); (with_reducible refine gb_tuple (by assumption) (by tm_at "sKd") ?hm ?he ?hpl ?_); (case hm => assumption); (case he => rfl); (case hpl => rfl))
  | ((guard_target = GE _ _ (Expr.Call (Expr.Name "min" _) _ _ _) _ _ _); (with_reducible refine gb_min (by assumption) (by tm_at "sKd") ?hm ?he ?hpl ?_); (case hm => assumption); (case he => rfl); (case hpl => rfl))
  | ((guard_target = GE _ _ (Expr.Call (Expr.Name "max" _) _ _ _) _ _ _); (with_reducible refine gb_max (by assumption) (by tm_at "sKd") ?hm ?he ?hpl ?_); (case hm => assumption); (case he => rfl); (case hpl => rfl))
  | ((guard_target = GE _ _ (Expr.Call (Expr.Name "sum" _) _ _ _) _ _ _); (with_reducible refine gb_sum (by assumption) (by tm_at "sKd") ?hm ?he ?hpl ?_); (case hm => assumption); (case he => rfl); (case hpl => rfl))
  | ((guard_target = GE _ _ (Expr.Call (Expr.Name "sorted" _) _ _ _) _ _ _); (with_reducible refine gb_sorted (by assumption) (by tm_at "sKd") ?hm ?he ?hpl ?_); (case hm => assumption); (case he => rfl); (case hpl => rfl))
  | ((guard_target = GE _ _ (Expr.Call (Expr.Name "abs" _) _ _ _) _ _ _); (with_reducible refine gb_abs (by assumption) (by tm_at "sKd") ?hm ?he ?hpl ?_); (case hm => assumption); (case he => rfl); (case hpl => rfl))
  | ((guard_target = GE _ _ (Expr.Call (Expr.Name "range" _) _ _ _) _ _ _); (with_reducible refine gb_range (by assumption) (by tm_at "sKd") ?hm ?he ?hpl ?_); (case hm => assumption); (case he => rfl); (case hpl => rfl))
  | ((guard_target = GE _ _ (Expr.Call (Expr.Name "any" _) _ _ _) _ _ _); (with_reducible refine gb_any (by assumption) (by tm_at "sKd") ?hm ?he ?hpl ?_); (case hm => assumption); (case he => rfl); (case hpl => rfl))
  | ((guard_target = GE _ _ (Expr.Call (Expr.Name "all" _) _ _ _) _ _ _); (with_reducible refine gb_all (by assumption) (by tm_at "sKd") ?hm ?he ?hpl ?_); (case hm => assumption); (case he => rfl); (case hpl => rfl))
  | ((guard_target = GE _ _ (Expr.Call (Expr.Name "dict" _) _ _ _) _ _ _); (with_reducible refine gb_dict (by assumption) (by tm_at "sKd") ?hm ?he ?hpl ?_); (case hm => assumption); (case he => rfl); (case hpl => rfl))
  | ((guard_target = GE _ _ (Expr.Call (Expr.Name "set" _) _ _ _) _ _ _); (with_reducible refine gb_set (by assumption) (by tm_at "sKd") ?hm ?he ?hpl ?_); (case hm => assumption); (case he => rfl); (case hpl => rfl)))
local macro_rules | `(tactic| tm_at "gECall") => `(tactic| (guard_target = GE _ _ (Expr.Call (Expr.Name "_law_roll" _) (_ :: _) [] _) _ _ _; (refine ge_call (FnAt.e (x := "_law_roll") (by assumption)) (by tm_at "sRoom") (by tm_at "sXok") (Nm.gl (by assumption) (by tm_at "sKd")) ?hdb ?he ?hpl ?_); (case hdb => rfl); (case he => rfl); (case hpl => rfl)))
local macro_rules | `(tactic| tm_at "gECall") => `(tactic| (guard_target = GE _ _ (Expr.Call (Expr.Name "_law_dice" _) (_ :: _) [] _) _ _ _; (refine ge_call (FnAt.e (x := "_law_dice") (by assumption)) (by tm_at "sRoom") (by tm_at "sXok") (Nm.gl (by assumption) (by tm_at "sKd")) ?hdb ?he ?hpl ?_); (case hdb => rfl); (case he => rfl); (case hpl => rfl)))
local macro_rules | `(tactic| tm_at "gECall") => `(tactic| (guard_target = GE _ _ (Expr.Call (Expr.Name "_law_rounds" _) (_ :: _) [] _) _ _ _; (refine ge_call (FnAt.e (x := "_law_rounds") (by assumption)) (by tm_at "sRoom") (by tm_at "sXok") (Nm.gl (by assumption) (by tm_at "sKd")) ?hdb ?he ?hpl ?_); (case hdb => rfl); (case he => rfl); (case hpl => rfl)))
local macro_rules | `(tactic| tm_at "gECall") => `(tactic| (guard_target = GE _ _ (Expr.Call (Expr.Name "_law_deed" _) (_ :: _) [] _) _ _ _; (refine ge_call (FnAt.e (x := "_law_deed") (by assumption)) (by tm_at "sRoom") (by tm_at "sXok") (Nm.gl (by assumption) (by tm_at "sKd")) ?hdb ?he ?hpl ?_); (case hdb => rfl); (case he => rfl); (case hpl => rfl)))
local macro_rules | `(tactic| tm_at "gE") => `(tactic| first
  | ((guard_target = GE _ _ (Expr.Name _ _) _ _ _); (with_reducible refine ge_name (by assumption) (by tm_at "sAt") (by tm_at "sKd") (by tm_at "sVk") rfl ?_))
  | ((guard_target = GE _ _ (Expr.Constant (Const.int _) _ _) _ _ _); (with_reducible refine ge_int ?_))
  | ((guard_target = GE _ _ (Expr.Attribute _ _ _) _ _ _); (with_reducible refine ge_fld ?hb ?_); (case hb => rfl))
  | ((guard_target = GE _ _ (Expr.Subscript _ (Expr.Slice _ _ none _) _) _ _ _); (with_reducible refine ge_slice ?_))
  | ((guard_target = GE _ _ (Expr.Call (Expr.Attribute _ _ _) _ _ _) _ _ _); tm_at "gEMeth")
  | ((guard_target = GE _ _ (Expr.Subscript _ _ _) _ _ _); (with_reducible refine ge_sub ?hs ?_); (case hs => exact fun _ _ => rfl))
  | ((guard_target = GE _ _ (Expr.BinOp _ _ _ _) _ _ _); (with_reducible refine ge_bin ?_))
  | ((guard_target = GE _ _ (Expr.Constant (Const.str _) _ _) _ _ _); (with_reducible refine ge_str ?_))
  | ((guard_target = GE _ _ (Expr.Call (Expr.Name _ _) _ _ _) _ _ _); tm_at "gECall")
  | ((guard_target = GE _ _ (Expr.List _ _) _ _ _); (with_reducible refine ge_lst ?_))
  | ((guard_target = GE _ _ (Expr.Tuple _ _ _) _ _ _); (with_reducible refine ge_tup ?_))
  | ((guard_target = GE _ _ (Expr.Constant Const.none _ _) _ _ _); (with_reducible refine ge_none ?_))
  | ((guard_target = GE _ _ (Expr.Constant (Const.bool _) _ _) _ _ _); (with_reducible refine ge_bl ?_))
  | ((guard_target = GE _ _ (Expr.Compare _ [_] [_] _) _ _ _); (with_reducible refine ge_cmp ?hm ?_); (case hm => first | exact nomark _ | rfl))
  | ((guard_target = GE _ _ (Expr.UnaryOp UnaryOp.Not _ _) _ _ _); (with_reducible refine ge_not ?_))
  | ((guard_target = GE _ _ (Expr.UnaryOp _ _ _) _ _ _); (with_reducible refine ge_un ?_))
  | ((guard_target = GE _ _ (Expr.IfExp _ _ _ _) _ _ _); (with_reducible refine ge_if ?_))
  | ((guard_target = GE _ _ (Expr.Compare _ [_, _] [_, _] _) _ _ _); (with_reducible refine ge_chain ?hm ?_); (case hm => with_unfolding_all rfl))
  | ((guard_target = GE _ _ (Expr.BoolOp _ [_] _) _ _ _); (with_reducible refine ge_one ?_))
  | ((guard_target = GE _ _ (Expr.BoolOp BoolOp.And _ _) _ _ _); (with_reducible refine ge_and ?_))
  | ((guard_target = GE _ _ (Expr.BoolOp BoolOp.Or _ _) _ _ _); (with_reducible refine ge_or ?_)))
local macro_rules | `(tactic| tm_at "gEMeth") => `(tactic| first
  | ((guard_target = GE _ _ (Expr.Call (Expr.Attribute _ "append" _) [_] [] _) _ _ _); (with_reducible refine ge_append ?h1 ?h2 ?h3 ?h4 ?h5 ?_); (case h1 => rfl); (case h2 => rfl); (case h3 => rfl); (case h4 => rfl); (case h5 => rfl))
  | ((guard_target = GE _ _ (Expr.Call (Expr.Attribute _ "extend" _) [_] [] _) _ _ _); (with_reducible refine ge_extend ?h1 ?h2 ?h3 ?h4 ?h5 ?_); (case h1 => rfl); (case h2 => rfl); (case h3 => rfl); (case h4 => rfl); (case h5 => rfl))
  | ((guard_target = GE _ _ (Expr.Call (Expr.Attribute _ "remove" _) [_] [] _) _ _ _); (with_reducible refine ge_remove ?h1 ?h2 ?h3 ?h4 ?h5 ?_); (case h1 => rfl); (case h2 => rfl); (case h3 => rfl); (case h4 => rfl); (case h5 => rfl))
  | ((guard_target = GE _ _ (Expr.Call (Expr.Attribute _ "pop" _) [_] [] _) _ _ _); (with_reducible refine ge_popAt ?h1 ?h2 ?h3 ?h4 ?h5 ?_); (case h1 => rfl); (case h2 => rfl); (case h3 => rfl); (case h4 => rfl); (case h5 => rfl)))
local macro_rules | `(tactic| tm_at "gT") => `(tactic| first
  | ((guard_target = GT _ _ (Expr.Compare _ [_] [_] _) _ _ _); (with_reducible refine gt_cmp ?hm ?_); (case hm => first | exact nomark _ | rfl))
  | ((guard_target = GT _ _ (Expr.UnaryOp UnaryOp.Not _ _) _ _ _); (with_reducible refine gt_not ?_))
  | ((guard_target = GT _ _ (Expr.BoolOp _ _ _) _ _ _); (with_reducible refine gt_bool ?_))
  | ((guard_target = GT _ _ (Expr.Compare _ [_, _] [_, _] _) _ _ _); (with_reducible refine gt_chain ?hm ?_); (case hm => with_unfolding_all rfl))
  | ((guard_target = GT _ _ (Expr.Call _ _ _ _) _ _ _); (with_reducible refine gt_val ?he ?_); (case he => intro _; rfl))
  | ((guard_target = GT _ _ (Expr.Subscript _ _ _) _ _ _); (with_reducible refine gt_val ?he ?_); (case he => intro _; rfl))
  | ((guard_target = GT _ _ (Expr.Name _ _) _ _ _); (with_reducible refine gt_val ?he ?_); (case he => intro _; rfl))
  | ((guard_target = GT _ _ (Expr.Attribute _ _ _) _ _ _); (with_reducible refine gt_val ?he ?_); (case he => intro _; rfl)))
local macro_rules | `(tactic| tm_at "gB") => `(tactic| first
  | ((guard_target = GB _ _ (Expr.BoolOp BoolOp.And [_] _) _ _ _); (with_reducible refine gb_and1 ?_))
  | ((guard_target = GB _ _ (Expr.BoolOp BoolOp.Or [_] _) _ _ _); (with_reducible refine gb_or1 ?_))
  | ((guard_target = GB _ _ (Expr.BoolOp BoolOp.And _ _) _ _ _); (with_reducible refine gb_and ?_))
  | ((guard_target = GB _ _ (Expr.BoolOp BoolOp.Or _ _) _ _ _); (with_reducible refine gb_or ?_)))
local macro_rules | `(tactic| tm_at "gA") => `(tactic| first
  | ((guard_target = GA _ _ ([]) _ _ _); (with_reducible refine ga_nil ?_))
  | ((guard_target = GA _ _ (_ :: _) _ _ _); (with_reducible refine ga_cons ?hst ?_); (case hst => rfl)))
local macro_rules | `(tactic| tm_at "gOp") => `(tactic| first
  | ((guard_target = GOp _ _ (binaryOp Operator.Add) (V.int _) (V.int _) _ _); (with_reducible refine go_add ?_))
  | ((guard_target = GOp _ _ (binaryOp Operator.Sub) (V.int _) (V.int _) _ _); (with_reducible refine go_sub ?_))
  | ((guard_target = GOp _ _ (compareOp CmpOp.Eq) (V.int _) (V.int _) _ _); (with_reducible refine go_eqI ?_))
  | ((guard_target = GOp _ _ (compareOp CmpOp.Lt) (V.int _) (V.int _) _ _); (with_reducible refine go_lt ?_))
  | ((guard_target = GOp _ _ (compareOp CmpOp.LtE) (V.int _) (V.int _) _ _); (with_reducible refine go_le ?_))
  | ((guard_target = GOp _ _ (compareOp CmpOp.Gt) (V.int _) (V.int _) _ _); (with_reducible refine go_gt ?_))
  | ((guard_target = GOp _ _ (compareOp CmpOp.GtE) (V.int _) (V.int _) _ _); (with_reducible refine go_ge ?_))
  | ((guard_target = GOp _ _ (compareOp CmpOp.NotEq) (V.int _) (V.int _) _ _); (with_reducible refine go_neI ?_))
  | ((guard_target = GOp _ _ (binaryOp Operator.Mult) (V.int _) (V.int _) _ _); (with_reducible refine go_mul ?c ?_); (case c => first | (left; constructor <;> omega) | (right; constructor <;> omega)))
  | ((guard_target = GOp _ _ (binaryOp Operator.FloorDiv) (V.int _) (V.int _) _ _); (with_reducible refine go_div ?c ?_); (case c => constructor <;> omega))
  | ((guard_target = GOp _ _ (binaryOp Operator.Mod) (V.int _) (V.int _) _ _); (with_reducible refine go_mod ?c ?_); (case c => omega))
  | ((guard_target = GOp _ _ (compareOp CmpOp.Eq) (V.str _) (V.str _) _ _); (with_reducible refine go_eqT ?_))
  | ((guard_target = GOp _ _ (compareOp CmpOp.NotEq) (V.str _) (V.str _) _ _); (with_reducible refine go_neT ?_))
  | ((guard_target = GOp _ _ (compareOp CmpOp.Eq) (V.bl _) (V.bl _) _ _); (with_reducible refine go_eqB ?_))
  | ((guard_target = GOp _ _ (compareOp CmpOp.NotEq) (V.bl _) (V.bl _) _ _); (with_reducible refine go_neB ?_))
  | ((guard_target = GOp _ _ (compareOp CmpOp.In) (V.int _) (V.ref _) _ _); (with_reducible refine go_inI (by tm_at "sSel") ?_))
  | ((guard_target = GOp _ _ (compareOp CmpOp.NotIn) (V.int _) (V.ref _) _ _); (with_reducible refine go_ninI (by tm_at "sSel") ?_))
  | ((guard_target = GOp _ _ (compareOp CmpOp.In) (V.str _) (V.ref _) _ _); (with_reducible refine go_inT (by tm_at "sSel") ?_))
  | ((guard_target = GOp _ _ (compareOp CmpOp.NotIn) (V.str _) (V.ref _) _ _); (with_reducible refine go_ninT (by tm_at "sSel") ?_))
  | ((guard_target = GOp _ _ (compareOp CmpOp.Eq) (_) (V.non) _ _); (with_reducible refine go_eqS rfl ?_))
  | ((guard_target = GOp _ _ (compareOp CmpOp.NotEq) (_) (V.non) _ _); (with_reducible refine go_neS rfl ?_))
  | ((guard_target = GOp _ _ (compareOp CmpOp.Is) (_) (V.non) _ _); (with_reducible refine go_isN ?_))
  | ((guard_target = GOp _ _ (compareOp CmpOp.IsNot) (_) (V.non) _ _); (with_reducible refine go_notN ?_)))
local macro_rules | `(tactic| tm_at "gC") => `(tactic| first
  | ((guard_target = GC _ _ (Value.type "int") [V.int _] _ _); (with_reducible refine gc_intI ?_))
  | ((guard_target = GC _ _ (Value.type "int") [V.bl _] _ _); (with_reducible refine gc_intB ?_))
  | ((guard_target = GC _ _ (Value.builtin "abs") [V.int _] _ _); (with_reducible refine gc_abs ?_))
  | ((guard_target = GC _ _ (Value.builtin "max") [V.int _, V.int _] _ _); (with_reducible refine gc_max2 ?hc ?_); (case hc => rfl))
  | ((guard_target = GC _ _ (Value.builtin "min") [V.int _, V.int _] _ _); (with_reducible refine gc_min2 ?hc ?_); (case hc => rfl))
  | ((guard_target = GC _ _ (Value.type "range") [V.int _] _ _); (with_reducible refine gc_rng1 ?_))
  | ((guard_target = GC _ _ (Value.type "range") [V.int _, V.int _] _ _); (with_reducible refine gc_rng2 ?_))
  | ((guard_target = GC _ _ (Value.builtin "len") [V.ref _] _ _); (with_reducible refine gc_lenR (by tm_at "sSel") ?_))
  | ((guard_target = GC _ _ (Value.builtin "len") [V.ref _] _ _); (with_reducible refine gc_len (by tm_at "sSel") ?_))
  | ((guard_target = GC _ _ (Value.builtin "len") [V.ref _] _ _); (with_reducible refine gc_lenT (by tm_at "sSel") ?_)))
local macro_rules | `(tactic| tm_at "gF") => `(tactic| first
  | ((guard_target = GF _ _ _ _ _ _); (with_reducible refine gf (by tm_at "sSel") (by tm_at "sLkF") ?hc ?hn ?_); (case hc => assumption); (case hn => assumption))
  | ((guard_target = GFS _ _ _ _ _ _); (with_reducible refine gfs (by tm_at "sRpl") (by tm_at "sPutF") ?hc ?hn ?hz ?_); (case hc => assumption); (case hn => assumption); (case hz => exact Nat.le_of_ble_eq_true rfl))
  | ((guard_target = GFA _ _ _ _ _ _ _ _ _); (with_reducible refine gfa (by tm_at "sSel") (by tm_at "sLkF") ?hc ?hn ?_); (case hc => assumption); (case hn => assumption))
  | ((guard_target = Exists fun _ => Exists fun _ => Exists fun _ => (Rpl _ _ _ _ ∧ _ ∧ _)); (with_reducible refine gfaE (by tm_at "sRpl") (by tm_at "sPutF") ?hz ?_); (case hz => exact Nat.le_of_ble_eq_true rfl))
  | ((guard_target = GAS _ _ _ _ _ _ _ _ _); (with_reducible refine gas (by tm_at "sSel") (by tm_at "sIx") ?_))
  | ((guard_target = (HasL _ _ _ ∧ _)); (with_reducible refine And.intro ?hh ?_); (case hh => tm_at "sHasL"))
  | ((guard_target = (IsIns _ _ _ _ _ ∧ _)); (with_reducible refine And.intro ?hh ?_); (case hh => exact isIns (by tm_at "sSel") (by tm_at "sNoF") (by rfl)))
  | ((guard_target = GApp _ _ _ _ _); (with_reducible refine gapp_pt (by tm_at "sRpl") ?hz ?_); (case hz => tm_at "sZ"))
  | ((guard_target = (List.length _ ≤ PySem.sizeLine ∧ _)); (with_reducible refine And.intro ?hz ?_); (case hz => tm_at "sZ"); intro _)
  | ((guard_target = GIp _ _ Operator.Add (V.int _) (V.int _) _ _); (with_reducible refine gip_add ?_))
  | ((guard_target = GIp _ _ Operator.Sub (V.int _) (V.int _) _ _); (with_reducible refine gip_sub ?_))
  | ((guard_target = GRem _ _ _ _ _); (with_reducible refine grem (by tm_at "sRpl") ?hm ?_); (case hm => assumption))
  | ((guard_target = GO _ _ none _ _ _); (with_reducible refine goN ?_))
  | ((guard_target = GO _ _ (some _) _ _ _); (with_reducible refine goS ?_)))
local macro_rules | `(tactic| tm_at "gIx") => `(tactic| first
  | (with_reducible refine gi_lst (by tm_at "sSel") (by tm_at "sIx") ?_)
  | (with_reducible refine gi_tup (by tm_at "sSel") (by tm_at "sIx") ?_))
local macro_rules | `(tactic| tm_at "gS") => `(tactic| first
  | ((guard_target = GS _ _ (Stmt.Assign [Expr.Name _ _] _ _) _ _ _); (with_reducible refine gs_name (by assumption) (by tm_at "sSlot") (by tm_at "sKd") (by tm_at "sLk") (by tm_at "sLf") ?hsw ?_); (case hsw => rfl))
  | ((guard_target = GS _ _ (Stmt.If _ _ _ _) _ _ _); (with_reducible refine gs_if ?_))
  | ((guard_target = GS _ _ (Stmt.AugAssign (Expr.Name _ _) _ _ _) _ _ _); (with_reducible refine gs_aug (by assumption) (by tm_at "sAt") (by tm_at "sSlot") (by tm_at "sKd") (by tm_at "sLk") (by tm_at "sLf") ?_))
  | ((guard_target = GS _ _ (Stmt.AugAssign (Expr.Attribute _ _ _) _ _ _) _ _ _); (with_reducible refine gs_fldaug ?_))
  | ((guard_target = GS _ _ (Stmt.AugAssign (Expr.Subscript _ _ _) _ _ _) _ _ _); (with_reducible refine gs_augS ?ha ?_); (case ha => intros; rfl))
  | ((guard_target = GS _ _ (Stmt.Return (some _) _) _ _ _); (with_reducible refine gs_ret ?_))
  | ((guard_target = GS _ _ (Stmt.Expr (Expr.Constant _ _ _) _) _ _ _); (with_reducible refine gs_doc ?_))
  | ((guard_target = GS _ _ (Stmt.Expr _ _) _ _ _); (with_reducible refine gs_expr ?hsw ?_); (case hsw => rfl))
  | ((guard_target = GS _ _ (Stmt.Assign [Expr.Attribute _ _ _] _ _) _ _ _); (with_reducible refine gs_fld ?hsw ?_); (case hsw => rfl))
  | ((guard_target = GS _ _ (Stmt.Assign [Expr.Subscript _ _ _] _ _) _ _ _); (with_reducible refine gs_asg ?hsw ?hw ?h1 ?_); (case hsw => rfl); (case hw => rfl); (case h1 => rfl))
  | ((guard_target = GS _ _ (Stmt.Assign [Expr.Tuple _ _ _] _ _) _ _ _); (with_reducible refine gs_asg ?hsw ?hw ?h1 ?_); (case hsw => rfl); (case hw => rfl); (case h1 => rfl))
  | ((guard_target = GS _ _ (Stmt.Return none _) _ _ _); (with_reducible refine gs_retN ?_))
  | ((guard_target = GS _ _ (Stmt.Pass _) _ _ _); (with_reducible refine gs_pass ?_))
  | ((guard_target = GS _ _ (Stmt.Break _) _ _ _); (with_reducible refine gs_break ?_))
  | ((guard_target = GS _ _ (Stmt.Continue _) _ _ _); (with_reducible refine gs_continue ?_)))
local macro_rules | `(tactic| tm_at "gG") => `(tactic| first
  | ((guard_target = GG _ _ (Expr.Name _ _) _ _ _ _); (with_reducible refine gg_name (by assumption) (by tm_at "sSlot") (by tm_at "sKd") (by tm_at "sLk") (by tm_at "sLf") ?_))
  | ((guard_target = GG _ _ (Expr.Subscript _ _ _) _ _ _ _); (with_reducible refine gg_sub ?ha ?_); (case ha => intro _; rfl))
  | ((guard_target = GG _ _ (Expr.Tuple _ _ _) _ _ _ _); (with_reducible refine gg_tup ?hc (by tm_at "sSel") ?hn ?hst ?_); (case hc => rfl); (case hn => rfl); (case hst => rfl)))
local macro_rules | `(tactic| tm_at "g") => `(tactic| first
  | ((guard_target = GE _ _ _ _ _ _); tm_at "gE")
  | ((guard_target = GOp _ _ _ _ _ _ _); tm_at "gOp")
  | ((guard_target = GIx _ _ _ _ _ _); tm_at "gIx")
  | tm_at "gF"
  | ((guard_target = (wipe _ _ = wipe _ _ ∧ _)); refine And.intro rfl ?_)
  | ((guard_target = GGs _ _ [] _ _ _ _); (with_reducible refine ggs_nil ?_))
  | ((guard_target = GGs _ _ (_ :: _) _ _ _ _); (with_reducible refine ggs_cons ?hst ?_); (case hst => rfl))
  | ((guard_target = GTs _ _ [] _ _ _); (with_reducible refine gts_nil ?_))
  | ((guard_target = GTs _ _ [_] _ _ _); (with_reducible refine gts_one ?_))
  | ((guard_target = KB _ _ _); (with_reducible refine KB.mk ?_))
  | ((guard_target = GA _ _ _ _ _ _); tm_at "gA")
  | ((guard_target = GS _ _ _ _ _ _); tm_at "gS")
  | ((guard_target = GSs _ _ (_ :: _) _ _ _); (with_reducible refine gss_cons ?_))
  | ((guard_target = GSs _ _ ([]) _ _ _); (with_reducible refine gss_nil ?_))
  | ((guard_target = GT _ _ _ _ _ _); tm_at "gT")
  | ((guard_target = GB _ _ _ _ _ _); tm_at "gB")
  | ((guard_target = GC _ _ _ _ _ _); tm_at "gC")
  | ((guard_target = GG _ _ _ _ _ _ _); tm_at "gG")
  | ((guard_target = GPutL _ _ _ _ _); (with_reducible refine gput (by tm_at "sRpl") (by tm_at "sPut") ?_))
  | ((guard_target = if true = true then _ else _); (with_reducible refine iteT ?_))
  | ((guard_target = if (!true) = true then _ else _); (with_reducible refine iteNT ?_))
  | ((guard_target = if (!false) = true then _ else _); (with_reducible refine iteNF ?_))
  | ((guard_target = if false = true then _ else _); (with_reducible refine iteF ?_))
  | ((guard_target = Exists _); (with_reducible refine Exists.intro _ (And.intro rfl ?_)))
  | (first | with_reducible refine ite_nI ?_ | with_reducible refine ite_nN ?_ | with_reducible refine ite_nnI ?_ | with_reducible refine ite_nnN ?_ | with_reducible refine ite_nR ?_ | with_reducible refine ite_nnR ?_))
local macro_rules | `(tactic| tm_at "sSetN") => `(tactic| (first | exact SetN.here | (apply SetN.there; tm_at "sSetN")))
local macro_rules | `(tactic| tm_at "sWp") => `(tactic| (first | exact Wp.nil | (apply Wp.cons; (tm_at "sWp"); (tm_at "sSetN"))))
local macro_rules | `(tactic| tm_at "fits") => `(tactic| (first | apply Fits.mk | apply FitL.mk))
local macro_rules | `(tactic| tm_at "ent") => `(tactic| (apply Fit.ent; tm_at "fit"))
local macro_rules | `(tactic| tm_at "go") => `(tactic| repeat (tm_at "g"))
local macro_rules | `(tactic| tm_at "gs") => `(tactic| repeat ((fail_if_success (guard_target = GSs _ _ (_ :: _) _ _ _)); tm_at "g"))
local macro_rules | `(tactic| tm_at "if") => `(tactic| first
  | (with_reducible refine ite_ndec (fun _ => ?_) (fun _ => ?_))
  | (with_reducible refine ite_dec (fun _ => ?_) (fun _ => ?_))
  | (with_reducible refine ite_nb (fun _ => ?_) (fun _ => ?_))
  | (with_reducible refine ite_b (fun _ => ?_) (fun _ => ?_)))
local macro_rules | `(tactic| tm_at "gC") => `(tactic| ((guard_target = GC _ _ (Value.builtin "len") [_] _ _); (with_reducible refine gc_lenTl (rv_val (by tm_at "sSel")) ?_)))
local macro_rules | `(tactic| tm_at "gIx") => `(tactic| (with_reducible refine gi_tl (rv_val (by tm_at "sSel")) (by assumption) (fun _ => ?_)))
local macro_rules | `(tactic| tm_at "gF") => `(tactic| first
  | ((guard_target = GIp _ _ Operator.Mult (V.int _) (V.int _) _ _); (with_reducible refine gip_mul ?c ?_); (case c => first | (left; constructor <;> omega) | (right; constructor <;> omega)))
  | ((guard_target = GIp _ _ Operator.FloorDiv (V.int _) (V.int _) _ _); (with_reducible refine gip_div ?c ?_); (case c => constructor <;> omega))
  | ((guard_target = GIp _ _ Operator.Mod (V.int _) (V.int _) _ _); (with_reducible refine gip_mod ?c ?_); (case c => omega)))
local macro_rules | `(tactic| tm_at "g") => `(tactic| ((guard_target = GU _ _ (unaryOp UnaryOp.USub) (V.int _) _ _); (with_reducible refine gu_neg ?_)))
local macro_rules | `(tactic| tm_at "gS") => `(tactic| ((guard_target = GS _ _ (Stmt.Assign [Expr.Tuple [Expr.Name _ _, Expr.Name _ _] _ _] (Expr.Tuple [_, _] _ _) _) _ _ _); (refine gs_par2 (by assumption) (by tm_at "sSlot") (fun _ => by tm_at "sSlot") (by tm_at "sKd") (by tm_at "sKd") ?hne ?hc ?hw ?hs ?_); (case hne => with_unfolding_all rfl); (case hc => rfl); (case hw => rfl); (case hs => rfl)))
local macro_rules | `(tactic| tm_at "gOp") => `(tactic| ((guard_target = GOp _ _ (binaryOp Operator.Pow) (V.int _) (V.int _) _ _); (with_reducible refine go_pow ?c ?_); (case c => refine ⟨?_, ?_, ?_⟩ <;> decide)))
local macro_rules | `(tactic| tm_at "g") => `(tactic| ((guard_target = K2 _ [_, _] _); (with_reducible refine K2.mk ?_)))
local macro_rules | `(tactic| tm_at "gOp") => `(tactic| ((guard_target = GOp _ _ (compareOp CmpOp.NotIn) (V.str ⟨#[_]⟩) (V.str _) _ _); (with_reducible refine go_ninSign ?_)))
local macro_rules | `(tactic| tm_at "gEMeth") => `(tactic| ((guard_target = GE _ _ (Expr.Call (Expr.Attribute _ "index" _) [_] [] _) _ _ _); (with_reducible refine ge_index ?h1 ?h2 ?h3 ?_); (case h1 => rfl); (case h2 => rfl); (case h3 => rfl)))
local macro_rules | `(tactic| tm_at "gEMeth") => `(tactic| ((guard_target = GE _ _ (Expr.Call (Expr.Attribute _ "join" _) [_] [] _) _ _ _); (with_reducible refine ge_join ?h1 ?h2 ?h3 ?_); (case h1 => rfl); (case h2 => rfl); (case h3 => rfl)))
local macro_rules | `(tactic| tm_at "g") => `(tactic| (first | with_reducible refine ite_nT ?_ | with_reducible refine ite_nnT ?_))
local macro_rules | `(tactic| tm_at "gC") => `(tactic| ((guard_target = GC _ _ (Value.builtin "len") [V.str _] _ _); (refine gc_lenS ?hz ?_); (case hz => rw [sizeLine_eq]; omega)))
local macro_rules | `(tactic| tm_at "gIx") => `(tactic| (with_reducible refine gi_tlS cInt (rv_val (by tm_at "sSel")) (by assumption) ?_))
local macro_rules | `(tactic| tm_at "gF") => `(tactic| ((guard_target = (IsIns _ _ _ _ _ ∧ _)); (with_reducible refine And.intro ?hh ?_); (case hh => exact isIns (by tm_at "sSel") (by tm_at "sNoF") (by rfl))))
local macro_rules | `(tactic| tm_at "sKit") => `(tactic| first | exact kb_ii | exact kb_ib | exact kb_is | exact kb_si | exact kb_ss | exact kb_ns | exact kb_ni | exact kb_tt | exact kb_it)
local macro_rules | `(tactic| tm_at "gECall") => `(tactic| ((guard_target = GE _ _ (Expr.Call (Expr.Name "isinstance" _) _ _ _) _ _ _); (with_reducible refine gb_isinstance (by assumption) (by tm_at "sKd") ?hm ?he ?hpl ?_); (case hm => assumption); (case he => rfl); (case hpl => rfl)))
local macro_rules | `(tactic| tm_at "gECall") => `(tactic| ((guard_target = GE _ _ (Expr.Call (Expr.Name "ord" _) _ _ _) _ _ _); (with_reducible refine gb_ord (by assumption) (by tm_at "sKd") ?hm ?he ?hpl ?_); (case hm => assumption); (case he => rfl); (case hpl => rfl)))
local macro_rules | `(tactic| tm_at "gE") => `(tactic| first
  | ((guard_target = GE _ _ (Expr.Name "int" _) _ _ _); (refine ge_ty (n := "int") (by assumption) (by tm_at "sKd") (by assumption) (by decide +kernel) (by decide) rfl ?_))
  | ((guard_target = GE _ _ (Expr.Name "bool" _) _ _ _); (refine ge_ty (n := "bool") (by assumption) (by tm_at "sKd") (by assumption) (by decide +kernel) (by decide) rfl ?_))
  | ((guard_target = GE _ _ (Expr.Name "str" _) _ _ _); (refine ge_ty (n := "str") (by assumption) (by tm_at "sKd") (by assumption) (by decide +kernel) (by decide) rfl ?_))
  | ((guard_target = GE _ _ (Expr.Name "tuple" _) _ _ _); (refine ge_ty (n := "tuple") (by assumption) (by tm_at "sKd") (by assumption) (by decide +kernel) (by decide) rfl ?_)))
local macro_rules | `(tactic| tm_at "gC") => `(tactic| first
  | ((guard_target = GC _ _ (Value.builtin "isinstance") [V.ref _, V.ty _] _ _); (refine gc_isiT (by tm_at "sSel") (by tm_at "sKit") ?_))
  | ((guard_target = GC _ _ (Value.builtin "isinstance") [_, V.ty _] _ _); (refine gc_isi (by constructor) (by tm_at "sKit") ?_))
  | ((guard_target = GC _ _ (Value.builtin "ord") [V.str ⟨#[_]⟩] _ _); (with_reducible refine gc_ord ?_)))
local macro_rules | `(tactic| tm_at "sInsV") => `(tactic| exact insV_pt (by tm_at "sSel") (by tm_at "sLkF"))
local macro_rules | `(tactic| tm_at "gE") => `(tactic| ((guard_target = GE _ _ (Expr.Attribute _ _ _) _ _ _); (with_reducible refine ge_fldG ?hb ?_); (case hb => rfl)))
local macro_rules | `(tactic| tm_at "gF") => `(tactic| ((guard_target = GFI _ _ _ _ _ _); (refine gfi (by tm_at "sInsV") ?hc ?hn ?_); (case hc => assumption); (case hn => assumption)))
local macro_rules | `(tactic| tm_at "gE") => `(tactic| ((guard_target = GE _ _ (Expr.Dict [] [] _) _ _ _); (with_reducible refine ge_dnew ?_); intro _))
local macro_rules | `(tactic| tm_at "gG") => `(tactic| ((guard_target = GG _ _ (Expr.Subscript _ _ _) _ _ _ _); (with_reducible refine gg_subG ?ha ?_); (case ha => intro _; rfl)))
local macro_rules | `(tactic| tm_at "g") => `(tactic| ((guard_target = GPut _ _ _ _ _ _ _); first | (with_reducible refine gput_l (by tm_at "sRpl") (by tm_at "sPut") ?_) | (refine gput_d (k := .inr _) (by assumption) (by tm_at "sRpl") rfl (by assumption) ?_) | (refine gput_d (k := .inl _) (by assumption) (by tm_at "sRpl") rfl (by assumption) ?_)))
local macro_rules | `(tactic| tm_at "sDF") => `(tactic| first | exact dfact_k (k := .inr _) (by tm_at "sSel") rfl | exact dfact_k (k := .inl _) (by tm_at "sSel") rfl | exact dfact_kf (k := .inr _) (by tm_at "sSel") rfl | exact dfact_kf (k := .inl _) (by tm_at "sSel") rfl)
local macro_rules | `(tactic| tm_at "sHasDD") => `(tactic| first | exact hasDD_k (by tm_at "sSel") | exact hasDD_t (by tm_at "sSel") | exact hasDD_kf (by tm_at "sSel"))
local macro_rules | `(tactic| tm_at "gF") => `(tactic| first
  | ((guard_target = (HasDD _ _ _ ∧ _)); (with_reducible refine And.intro ?hh ?_); (case hh => tm_at "sHasDD"))
  | ((guard_target = GGet _ _ _ _ _ _); (refine gget (by tm_at "sDF") ?_)))
local macro_rules | `(tactic| tm_at "gEMeth") => `(tactic| first
  | ((guard_target = GE _ _ (Expr.Call (Expr.Attribute _ "get" _) [_] [] _) _ _ _); (refine ge_get1 (by assumption) ?m ?_); (case m => exact ⟨rfl, rfl, rfl, rfl⟩))
  | ((guard_target = GE _ _ (Expr.Call (Expr.Attribute _ "get" _) [_, _] [] _) _ _ _); (refine ge_get2 (by assumption) ?m ?_); (case m => exact ⟨rfl, rfl, rfl, rfl⟩))
  | ((guard_target = GE _ _ (Expr.Call (Expr.Attribute _ "pop" _) [_, _] [] _) _ _ _); (refine ge_pop2 ?m ?_); (case m => exact ⟨rfl, rfl, rfl, rfl⟩)))
local macro_rules | `(tactic| tm_at "gOp") => `(tactic| first
  | ((guard_target = GOp _ _ (compareOp CmpOp.In) _ (V.ref _) _ _); (refine go_inDD (by assumption) (by tm_at "sDF") ?_))
  | ((guard_target = GOp _ _ (compareOp CmpOp.NotIn) _ (V.ref _) _ _); (refine go_ninDD (by assumption) (by tm_at "sDF") ?_)))
local macro_rules | `(tactic| tm_at "gS") => `(tactic| ((guard_target = GS _ _ (Stmt.Assign [Expr.Tuple [Expr.Name _ _, Expr.Name _ _, Expr.Name _ _] _ _] (Expr.Tuple [_, _, _] _ _) _) _ _ _); (refine gs_par3 (by assumption) (by tm_at "sSlot") (fun _ => by tm_at "sSlot") (fun _ _ => by tm_at "sSlot") (by tm_at "sKd") (by tm_at "sKd") (by tm_at "sKd") ?n1 ?n2 ?n3 ?hc ?hw ?hs ?_); (case n1 => with_unfolding_all rfl); (case n2 => with_unfolding_all rfl); (case n3 => with_unfolding_all rfl); (case hc => rfl); (case hw => rfl); (case hs => rfl)))
local macro_rules | `(tactic| tm_at "g") => `(tactic| ((guard_target = K3 _ [_, _, _] _); (with_reducible refine K3.mk ?_)))
abbrev rRec : PRep Rec := rQuad rInt rInt rOpt rOpt
abbrev QD := Addr × Addr × PD
abbrev tupF (q : QD) : Addr × List V := (q.1, [.int q.2.2.1, .ref q.2.1])
abbrev rowF (q : QD) : SA := LstR rRec q.2.1 q.2.2.2
abbrev refsQ (qs : List QD) : List V := qs.map fun q => .ref q.1
abbrev psQ (qs : List QD) : List PD := qs.map fun q => q.2.2
abbrev lgo (K : PySem.W.Frag) (dx lp : Addr) (pc st fin : Int) : HO := .ins (He.ga K "Log") dx [("piece", .int pc), ("pieces", .ref lp), ("start", .int st), ("end", .int fin)]
abbrev lgP (K : PySem.W.Frag) (o dx lp : Addr) (pc st fin : Int) (qs : List QD) (R : List SA) : List SA := pt o (lgo K dx lp pc st fin) :: pt lp (.lst (refsQ qs)) :: TupsP tupF qs :: ObD rowF qs :: R
/-- a log, its pieces hidden -/
def LogP (K : PySem.W.Frag) (o : Addr) (n : Nat) (pc st fin : Int) (rows : List Rec) : SA := fun h => ∃ q : Addr × Addr × List QD, (LInv n ⟨pc, st, fin, psQ q.2.2⟩ ∧ fl (psQ q.2.2) = rows) ∧ Pcs (lgP K o q.1 q.2.1 pc st fin q.2.2 []) h
abbrev BR (K : PySem.W.Frag) : Value := .ref (He.ga K "BadRecord")
abbrev OL (K : PySem.W.Frag) : Value := .ref (He.ga K "OutOfLog")
structure Fx (K : PySem.W.Frag) (mg : Str → Option Value) : Prop where
  int : mg "int" = none
  bool : mg "bool" = none
  str : mg "str" = none
  isi : mg "isinstance" = none
  len : mg "len" = none
  range : mg "range" = none
  tuple : mg "tuple" = none
  list : mg "list" = none
  dict : mg "dict" = none
  ord : mg "ord" = none
  sum : mg "sum" = none
  cL : Cls K (He.ga K "Log")
  sorted : mg "sorted" = none
  min : mg "min" = none
  cD : Cls K (He.ga K "Deeds")
  d1 : NoAttr K (He.ga K "Deeds") "logs"
  d2 : NoAttr K (He.ga K "Deeds") "what"
  d3 : NoAttr K (He.ga K "Deeds") "turns"
  d4 : NoAttr K (He.ga K "Deeds") "at_work"
  d5 : NoAttr K (He.ga K "Deeds") "count"
  d6 : NoAttr K (He.ga K "Deeds") "marks"
  cC : Cls K (He.ga K "Chain")
  c1 : NoAttr K (He.ga K "Chain") "deeds"
  c2 : NoAttr K (He.ga K "Chain") "giver"
  c3 : NoAttr K (He.ga K "Chain") "goal"
  c4 : NoAttr K (He.ga K "Chain") "group"
  c5 : NoAttr K (He.ga K "Chain") "turn"
  nd : ExAt K mg "NotDue"
  fe : ExAt K mg "Fenced"
  n1 : NoAttr K (He.ga K "Log") "piece"
  n2 : NoAttr K (He.ga K "Log") "pieces"
  n3 : NoAttr K (He.ga K "Log") "start"
  n4 : NoAttr K (He.ga K "Log") "end"
section
variable {T : List (Addr × Str)} {X : Cx} {σ : St} {D : EndsL} {sts : List Stmt} {K : PySem.W.Frag} {o dx lp : Addr} {n : Nat} {pc st fin : Int} {rows : List Rec} {qs : List QD} {L R : List SA}
theorem log_unf (h : Hs T (LogP K o n pc st fin rows :: R) H) : ∃ dx lp qs, LInv n ⟨pc, st, fin, psQ qs⟩ ∧ fl (psQ qs) = rows ∧ Hs T (lgP K o dx lp pc st fin qs R) H := by
  obtain ⟨q, h1⟩ := h.pcs.ex
  obtain ⟨⟨a, b⟩, h2⟩ := h1.pure
  exact ⟨q.1, q.2.1, q.2.2, a, b, h.tabs, h2.unf⟩
theorem log_in (s : Sel L (LogP K o n pc st fin rows) R) (h : ∀ dx lp qs, LInv n ⟨pc, st, fin, psQ qs⟩ → fl (psQ qs) = rows → GSs T X sts D σ (lgP K o dx lp pc st fin qs R)) : GSs T X sts D σ L := GSs.via fun H hs => by
  obtain ⟨dx, lp, qs, a, b, h'⟩ := log_unf (hs.sel s)
  exact ⟨_, h', h dx lp qs a b⟩
theorem log_fold (a : LInv n ⟨pc, st, fin, psQ qs⟩) (b : fl (psQ qs) = rows) : Fit (lgP K o dx lp pc st fin qs R) (LogP K o n pc st fin rows :: R) := fun H h => by
  have h1 : Pcs ((fun g => Pcs (lgP K o dx lp pc st fin qs []) g) :: R) H := Pcs.fold (L1 := lgP K o dx lp pc st fin qs []) h
  exact h1.imp fun g k => ⟨(dx, lp, qs), ⟨a, b⟩, k⟩
theorem log_want (a : LInv n ⟨pc, st, fin, psQ qs⟩) (b : fl (psQ qs) = rows) (f : Fit L (lgP K o dx lp pc st fin qs R)) : Fit L (LogP K o n pc st fin rows :: R) := Fit.trans f (log_fold a b)
theorem log_at (h : Hs T (LogP K o n pc st fin rows :: R) H) : ∃ dx lp, H o = some (lgo K dx lp pc st fin) := by
  obtain ⟨dx, lp, qs, _, _, h'⟩ := log_unf h
  exact ⟨dx, lp, h'.get⟩
theorem ins_log {C : Addr} {m : Str} (s : Sel L (LogP K o n pc st fin rows) R) (hm : ∀ v1 v2 v3 v4 : V, NoF [("piece", v1), ("pieces", v2), ("start", v3), ("end", v4)] m) (e : He.ga K "Log" = C) : IsIns T C (.ref o) m L := ⟨o, rfl, fun H h => by
  obtain ⟨dx, lp, h'⟩ := log_at (h.sel s)
  subst e
  exact ⟨dx, _, h', (hm _ _ _ _).eq⟩⟩
theorem fld_log {C : Addr} {f : Str} {v : V} (s : Sel L (LogP K o n pc st fin rows) R) (hm : ∀ v2 : V, LkF [("piece", .int pc), ("pieces", v2), ("start", .int st), ("end", .int fin)] f v) (e : He.ga K "Log" = C) : InsV T C o f v L := fun H h => by
  obtain ⟨dx, lp, h'⟩ := log_at (h.sel s)
  subst e
  exact ⟨dx, _, h', (hm _).eq⟩
theorem pg_tupQ {es : List Expr} {k : Nat} {p : Pos} {q : QD} {Kk : St → List SA → Prop} (s : Sel L (TupsP tupF qs) R) (hq : q ∈ qs) (hc : X.calm = true) (hn : (assignEach es X.env).length = 2) (hst : (assignEach es X.env).findIdx? (·.1) = none) (h : GGs T X es [.int q.2.2.1, .ref q.2.1] σ L Kk) : GG T X (.Tuple es k p) (.ref q.1) σ L Kk :=
  gg_tupF (xs := [.int q.2.2.1, .ref q.2.1]) hc hn hst (fun H hs => tups_at s hq hs) h
theorem gi_tupQ0 {q : QD} {Kk : GK} (s : Sel L (TupsP tupF qs) R) (hq : q ∈ qs) (h : Kk (.int q.2.2.1) L) : GIx T X (.ref q.1) (.int 0) L Kk := gi_of (fun H hs => tups_at s hq hs) rfl h
theorem gi_tupQ1 {q : QD} {Kk : GK} (s : Sel L (TupsP tupF qs) R) (hq : q ∈ qs) (h : Kk (.ref q.2.1) L) : GIx T X (.ref q.1) (.int 1) L Kk := gi_of (fun H hs => tups_at s hq hs) rfl h
end
local macro_rules | `(tactic| tm_at "gECall") => `(tactic| (guard_target = GE _ _ (Expr.Call (Expr.Name "check_record" _) (_ :: _) [] _) _ _ _; (refine ge_call (FnAt.e (x := "check_record") (by assumption)) (by tm_at "sRoom") (by tm_at "sXok") (Nm.gl (by assumption) (by tm_at "sKd")) ?hdb ?he ?hpl ?_); (case hdb => rfl); (case he => rfl); (case hpl => rfl)))
local macro_rules | `(tactic| tm_at "gECall") => `(tactic| (guard_target = GE _ _ (Expr.Call (Expr.Name "_law_chain" _) (_ :: _) [] _) _ _ _; (refine ge_call (FnAt.e (x := "_law_chain") (by assumption)) (by tm_at "sRoom") (by tm_at "sXok") (Nm.gl (by assumption) (by tm_at "sKd")) ?hdb ?he ?hpl ?_); (case hdb => rfl); (case he => rfl); (case hpl => rfl)))
local macro_rules | `(tactic| tm_at "gECall") => `(tactic| (guard_target = GE _ _ (Expr.Call (Expr.Name "_law_elder" _) (_ :: _) [] _) _ _ _; (refine ge_call (FnAt.e (x := "_law_elder") (by assumption)) (by tm_at "sRoom") (by tm_at "sXok") (Nm.gl (by assumption) (by tm_at "sKd")) ?hdb ?he ?hpl ?_); (case hdb => rfl); (case he => rfl); (case hpl => rfl)))
local macro_rules | `(tactic| tm_at "gECall") => `(tactic| (guard_target = GE _ _ (Expr.Call (Expr.Name "_law_seen" _) (_ :: _) [] _) _ _ _; (refine ge_call (FnAt.e (x := "_law_seen") (by assumption)) (by tm_at "sRoom") (by tm_at "sXok") (Nm.gl (by assumption) (by tm_at "sKd")) ?hdb ?he ?hpl ?_); (case hdb => rfl); (case he => rfl); (case hpl => rfl)))
local macro_rules | `(tactic| tm_at "gEMeth") => `(tactic| (guard_target = GE _ _ (Expr.Call (Expr.Attribute _ "kept" _) [] _ _) _ _ _; (refine ge_meth0 (MeAt.e (C := "Log") (m := "kept") (by assumption)) (by tm_at "sRoom") (by tm_at "sXok") ?ht ?_); (case ht => exact ⟨_, rfl⟩)))
local macro_rules | `(tactic| tm_at "gEMeth") => `(tactic| (guard_target = GE _ _ (Expr.Call (Expr.Attribute _ "piece_at" _) (_ :: _) _ _) _ _ _; (refine ge_meth (MeAt.e (C := "Log") (m := "piece_at") (by assumption)) (by tm_at "sRoom") (by tm_at "sXok") ?hst ?hpl ?ht ?_); (case hst => rfl); (case hpl => rfl); (case ht => exact ⟨_, rfl⟩)))
local macro_rules | `(tactic| tm_at "gEMeth") => `(tactic| (guard_target = GE _ _ (Expr.Call (Expr.Attribute (Expr.Subscript _ _ _) "put" _) (_ :: _) _ _) _ _ _; (refine ge_meth (MeAt.e (C := "Log") (m := "put") (by assumption)) (by tm_at "sRoom") (by tm_at "sXok") ?hst ?hpl ?ht ?_); (case hst => rfl); (case hpl => rfl); (case ht => exact ⟨_, rfl⟩)))
local macro_rules | `(tactic| tm_at "gEMeth") => `(tactic| (guard_target = GE _ _ (Expr.Call (Expr.Attribute _ "begin_turn" _) (_ :: _) _ _) _ _ _; (refine ge_meth (MeAt.e (C := "Deeds") (m := "begin_turn") (by assumption)) (by tm_at "sRoom") (by tm_at "sXok") ?hst ?hpl ?ht ?_); (case hst => rfl); (case hpl => rfl); (case ht => exact ⟨_, rfl⟩)))
local macro_rules | `(tactic| tm_at "gEMeth") => `(tactic| (guard_target = GE _ _ (Expr.Call (Expr.Attribute _ "check" _) (_ :: _) _ _) _ _ _; (refine ge_meth (MeAt.e (C := "Deeds") (m := "check") (by assumption)) (by tm_at "sRoom") (by tm_at "sXok") ?hst ?hpl ?ht ?_); (case hst => rfl); (case hpl => rfl); (case ht => exact ⟨_, rfl⟩)))
local macro_rules | `(tactic| tm_at "gEMeth") => `(tactic| (guard_target = GE _ _ (Expr.Call (Expr.Attribute _ "begin" _) (_ :: _) _ _) _ _ _; (refine ge_meth (MeAt.e (C := "Deeds") (m := "begin") (by assumption)) (by tm_at "sRoom") (by tm_at "sXok") ?hst ?hpl ?ht ?_); (case hst => rfl); (case hpl => rfl); (case ht => exact ⟨_, rfl⟩)))
local macro_rules | `(tactic| tm_at "gEMeth") => `(tactic| (guard_target = GE _ _ (Expr.Call (Expr.Attribute _ "keep_mark" _) (_ :: _) _ _) _ _ _; (refine ge_meth (MeAt.e (C := "Deeds") (m := "keep_mark") (by assumption)) (by tm_at "sRoom") (by tm_at "sXok") ?hst ?hpl ?ht ?_); (case hst => rfl); (case hpl => rfl); (case ht => exact ⟨_, rfl⟩)))
local macro_rules | `(tactic| tm_at "gEMeth") => `(tactic| (guard_target = GE _ _ (Expr.Call (Expr.Attribute _ "finish" _) (_ :: _) _ _) _ _ _; (refine ge_meth (MeAt.e (C := "Deeds") (m := "finish") (by assumption)) (by tm_at "sRoom") (by tm_at "sXok") ?hst ?hpl ?ht ?_); (case hst => rfl); (case hpl => rfl); (case ht => exact ⟨_, rfl⟩)))
local macro_rules | `(tactic| tm_at "gEMeth") => `(tactic| (guard_target = GE _ _ (Expr.Call (Expr.Attribute _ "end_at" _) (_ :: _) _ _) _ _ _; (refine ge_meth (MeAt.e (C := "Deeds") (m := "end_at") (by assumption)) (by tm_at "sRoom") (by tm_at "sXok") ?hst ?hpl ?ht ?_); (case hst => rfl); (case hpl => rfl); (case ht => exact ⟨_, rfl⟩)))
local macro_rules | `(tactic| tm_at "gEMeth") => `(tactic| (guard_target = GE _ _ (Expr.Call (Expr.Attribute _ "sure_end" _) (_ :: _) _ _) _ _ _; (refine ge_meth (MeAt.e (C := "Deeds") (m := "sure_end") (by assumption)) (by tm_at "sRoom") (by tm_at "sXok") ?hst ?hpl ?ht ?_); (case hst => rfl); (case hpl => rfl); (case ht => exact ⟨_, rfl⟩)))
local macro_rules | `(tactic| tm_at "gEMeth") => `(tactic| (guard_target = GE _ _ (Expr.Call (Expr.Attribute _ "read" _) (_ :: _) _ _) _ _ _; (refine ge_meth (MeAt.e (C := "Deeds") (m := "read") (by assumption)) (by tm_at "sRoom") (by tm_at "sXok") ?hst ?hpl ?ht ?_); (case hst => rfl); (case hpl => rfl); (case ht => exact ⟨_, rfl⟩)))
local macro_rules | `(tactic| tm_at "gEMeth") => `(tactic| (guard_target = GE _ _ (Expr.Call (Expr.Attribute _ "ends_of" _) (_ :: _) _ _) _ _ _; (refine ge_meth (MeAt.e (C := "Deeds") (m := "ends_of") (by assumption)) (by tm_at "sRoom") (by tm_at "sXok") ?hst ?hpl ?ht ?_); (case hst => rfl); (case hpl => rfl); (case ht => exact ⟨_, rfl⟩)))
local macro_rules | `(tactic| tm_at "gEMeth") => `(tactic| (guard_target = GE _ _ (Expr.Call (Expr.Attribute (Expr.Name "deeds" _) "put" _) (_ :: _) _ _) _ _ _; (refine ge_meth (MeAt.e (C := "Deeds") (m := "put") (by assumption)) (by tm_at "sRoom") (by tm_at "sXok") ?hst ?hpl ?ht ?_); (case hst => rfl); (case hpl => rfl); (case ht => exact ⟨_, rfl⟩)))
local macro_rules | `(tactic| tm_at "gEMeth") => `(tactic| (guard_target = GE _ _ (Expr.Call (Expr.Attribute _ "step" _) (_ :: _) _ _) _ _ _; (refine ge_meth (MeAt.e (C := "Chain") (m := "step") (by assumption)) (by tm_at "sRoom") (by tm_at "sXok") ?hst ?hpl ?ht ?_); (case hst => rfl); (case hpl => rfl); (case ht => exact ⟨_, rfl⟩)))
local macro_rules | `(tactic| tm_at "gEMeth") => `(tactic| (guard_target = GE _ _ (Expr.Call (Expr.Attribute _ "again" _) [] _ _) _ _ _; (refine ge_meth0 (MeAt.e (C := "Chain") (m := "again") (by assumption)) (by tm_at "sRoom") (by tm_at "sXok") ?ht ?_); (case ht => exact ⟨_, rfl⟩)))
local macro_rules | `(tactic| tm_at "gECall") => `(tactic| (guard_target = GE _ _ (Expr.Call (Expr.Name "Log" _) (_ :: _) [] _) _ _ _; (refine ge_make (MkAt.e (C := "Log") (by assumption)) (by tm_at "sRoom") (by tm_at "sXok") (Nm.gl (by assumption) (by tm_at "sKd")) ?hdb ?he ?hpl ?_); (case hdb => rfl); (case he => rfl); (case hpl => rfl); skip))
local macro_rules | `(tactic| tm_at "gECall") => `(tactic| (guard_target = GE _ _ (Expr.Call (Expr.Name "Deeds" _) (_ :: _) [] _) _ _ _; (refine ge_make (MkAt.e (C := "Deeds") (by assumption)) (by tm_at "sRoom") (by tm_at "sXok") (Nm.gl (by assumption) (by tm_at "sKd")) ?hdb ?he ?hpl ?_); (case hdb => rfl); (case he => rfl); (case hpl => rfl); skip))
local macro_rules | `(tactic| tm_at "gECall") => `(tactic| (guard_target = GE _ _ (Expr.Call (Expr.Name "Chain" _) (_ :: _) [] _) _ _ _; (refine ge_make (MkAt.e (C := "Chain") (by assumption)) (by tm_at "sRoom") (by tm_at "sXok") (Nm.gl (by assumption) (by tm_at "sKd")) ?hdb ?he ?hpl ?_); (case hdb => rfl); (case he => rfl); (case hpl => rfl); skip))
local macro_rules | `(tactic| tm_at "gIx") => `(tactic| first | (refine gi_quad (u := V.non) cInt cInt cOpt cOpt (rv_val (by tm_at "sSel")) (by with_unfolding_all rfl) ?_) | (refine gi_quad (u := V.str _) cInt cInt cOpt cOpt (rv_val (by tm_at "sSel")) (by with_unfolding_all rfl) ?_) | (refine gi_quad cInt cInt cOpt cOpt (rv_val (by tm_at "sSel")) (by with_unfolding_all rfl) ?_))
local macro_rules | `(tactic| tm_at "gF") => `(tactic| ((guard_target = (IsIns _ _ _ _ _ ∧ _)); (with_reducible refine And.intro ?hh ?_); (case hh => exact ins_log (by tm_at "sSel") (fun _ _ _ _ => by tm_at "sNoF") (by rfl))))
local macro_rules | `(tactic| tm_at "sInsV") => `(tactic| exact fld_log (by tm_at "sSel") (fun _ => by tm_at "sLkF") rfl)
local macro_rules | `(tactic| tm_at "gOp") => `(tactic| first
  | ((guard_target = GOp _ _ (compareOp CmpOp.Lt) (V.str _) (V.str _) _ _); (with_reducible refine go_ltS ?_))
  | ((guard_target = GOp _ _ (compareOp CmpOp.LtE) (V.str _) (V.str _) _ _); (with_reducible refine go_leS ?_))
  | ((guard_target = GOp _ _ (compareOp CmpOp.Gt) (V.str _) (V.str _) _ _); (with_reducible refine go_gtS ?_))
  | ((guard_target = GOp _ _ (compareOp CmpOp.GtE) (V.str _) (V.str _) _ _); (with_reducible refine go_geS ?_)))
local macro_rules | `(tactic| tm_at "gEMeth") => `(tactic| first
  | ((guard_target = GE _ _ (Expr.Call (Expr.Attribute _ "setdefault" _) [_, _] [] _) _ _ _); (refine ge_setdef ?m ?_); (case m => exact ⟨rfl, rfl, rfl, rfl⟩))
  | ((guard_target = GE _ _ (Expr.Call (Expr.Attribute _ "pop" _) [_] [] _) _ _ _); (refine ge_dpop1 ?m ?_); (case m => exact ⟨rfl, rfl, rfl, rfl⟩)))
section
variable {T : List (Addr × Str)} {P : Program} {w : World} {Kf : PySem.W.Frag} {mg : Str → Option Value} {base : Heap} {f : Addr} {fd : FuncData}
def spCR (Kf : PySem.W.Frag) : SpL := fun vs L K kx => (∃ (t : Int) (k v : Option Str), vs = [.int t, vOpt k, vOpt v] ∧ (¬ (k = none ∧ v = none) → K .non L) ∧ ((k = none ∧ v = none) → ∀ d, kx (BR Kf) (some d) L)) ∨ ∃ (s : Str) (x y : V), vs = [.str s, x, y] ∧ ∀ d, kx (BR Kf) (some d) L
theorem ok_cr (fx : Fx Kf mg) (br : ExiAt P w Kf mg base 1 "BadRecord" ["place"]) (F : FunD Kf "check_record" "check_record" (defArgs s_check_record) (defBody s_check_record) (defScope s_check_record) [] [] f fd) : FnOk P w Kf mg base (L2.CX P w) 3 f fd ["time", "key", "value"] (spOf T (spCR Kf)) := by
  refine def_in F sc_check_record (fun vs L K kx h => ?_) (fun A outer s H E hr n vs L KK kx h hx σ hσ => ?_)
  · rcases h with ⟨t, k, v, rfl, _⟩ | ⟨s, x, y, rfl, _⟩ <;> rfl
  · cases fx
    rcases h with ⟨t, k, v, rfl, k1, k2⟩ | ⟨s, x, y, rfl, k2⟩
    · cases k with
      | none =>
        cases v with
        | none =>
          obtain rfl : σ = [some (.int t), some .non, some .non] := hσ
          refine gss_cons ?_
          tm_at "go"
          refine gs_raiseI n (by tm_at "sKd") rfl br (by tm_at "sRoom") hx rfl rfl rfl ?_
          tm_at "go"
          refine ⟨rfl, Nat.le_of_ble_eq_true rfl, fun d => ?_⟩
          apply Clo.mk (k2 ⟨rfl, rfl⟩ d)
          tm_at "ent"
        | some v =>
          obtain rfl : σ = [some (.int t), some .non, some (.str v)] := hσ
          refine gss_cons ?_
          tm_at "go"
          exact Clo.id (k1 (by simp))
      | some k =>
        cases v with
        | none =>
          obtain rfl : σ = [some (.int t), some (.str k), some .non] := hσ
          refine gss_cons ?_
          tm_at "go"
          exact Clo.id (k1 (by simp))
        | some v =>
          obtain rfl : σ = [some (.int t), some (.str k), some (.str v)] := hσ
          refine gss_cons ?_
          tm_at "go"
          exact Clo.id (k1 (by simp))
    · obtain rfl : σ = [some (.str s), some x, some y] := hσ
      refine gss_cons ?_
      tm_at "go"
      refine gs_raiseI n (by tm_at "sKd") rfl br (by tm_at "sRoom") hx rfl rfl rfl ?_
      tm_at "go"
      refine ⟨rfl, Nat.le_of_ble_eq_true rfl, fun d => ?_⟩
      apply Clo.mk (k2 d)
      tm_at "ent"
def spLI (Kf : PySem.W.Frag) : SpL := fun vs L K kx => ∃ (o dx : Addr) (pc : Int) (R : List SA), vs = [.ref o, .int pc] ∧ L = pt o (.ins (He.ga Kf "Log") dx []) :: R ∧ 1 ≤ pc ∧ K .non (LogP Kf o 0 pc 0 0 [] :: R)
theorem ok_li (fx : Fx Kf mg) (F : FunD Kf "__init__" "Log.__init__" (defArgs s_Log__init) (defBody s_Log__init) (defScope s_Log__init) [] [] f fd) : FnOk P w Kf mg base (L2.CX P w) 1 f fd ["self", "piece"] (spOf T (spLI Kf)) := by
  refine def_in F sc_Log__init (fun vs L K kx h => ?_) (fun A outer s H E hr n vs L KK kx h hx σ hσ => ?_)
  · obtain ⟨o, dx, pc, R, rfl, _⟩ := h; rfl
  · obtain ⟨o, dx, pc, R, rfl, rfl, hp, k⟩ := h
    obtain rfl : σ = [some (.ref o), some (.int pc)] := hσ
    cases fx
    refine gss_cons ?_
    tm_at "go"
    rename_i r t lp
    apply Clo.mk k
    refine Fit.ent (Fit.trans ?_ (log_fold (dx := dx) (lp := lp) (qs := [(t, r, 0, [])]) (inv_new hp) rfl))
    refine Fit.trans (L1 := pt o (lgo Kf dx lp pc 0 0) :: pt lp (.lst [.ref t]) :: pt t (.tup [.int 0, .ref r]) :: LstR rRec r [] :: R) (by tm_at "fit") ?_
    refine Fit.tl (Fit.tl ?_)
    refine Fit.trans (tups_nil (F := tupF)) ?_
    refine Fit.trans (tups_snoc (p := ((t, r, 0, []) : QD)) .here (.there .here) rfl) ?_
    refine Fit.tl ?_
    refine Fit.drop (Fit.drop ?_)
    exact obd_one (F := rowF) (p := ((t, r, 0, []) : QD))
end
section
variable {T : List (Addr × Str)} {P : Program} {w : World} {Kf : PySem.W.Frag} {mg : Str → Option Value} {base : Heap} {f : Addr} {fd : FuncData}
theorem psQ_at {qs : List QD} {i : Nat} {q : QD} (h : qs[i]? = some q) : (psQ qs)[i]? = some q.2.2 := by simp [psQ, List.getElem?_map, h]
theorem refs_at {qs : List QD} {i : Nat} {q : QD} (h : qs[i]? = some q) : (refsQ qs)[i]? = some (.ref q.1) := by simp [refsQ, List.getElem?_map, h]
theorem refs_get {qs : List QD} {i : Nat} {x : V} (h : (refsQ qs)[i]? = some x) : ∃ q, qs[i]? = some q ∧ x = .ref q.1 := by
  rw [List.getElem?_map] at h
  cases e : qs[i]? with
  | none => rw [e] at h; cases h
  | some q => rw [e] at h; cases h; exact ⟨q, rfl, rfl⟩
def spPA (Kf : PySem.W.Frag) : SpL := fun vs L K kx => ∃ (o dx lp : Addr) (pc st fin mark : Int) (qs : List QD) (R : List SA), vs = [.ref o, .int mark] ∧ L = lgP Kf o dx lp pc st fin qs R ∧ 0 < qs.length ∧ qs.length < 10000 ∧
  (psQ qs).Pairwise (fun a b => a.1 < b.1 ∧ ∀ r ∈ a.2, r.1 < b.1) ∧ ∀ k, PAt (psQ qs) mark k → K (.int (k : Nat)) (lgP Kf o dx lp pc st fin qs R)
theorem ok_pa (fx : Fx Kf mg) (F : FunD Kf "piece_at" "Log.piece_at" (defArgs s_Log_piece_at) (defBody s_Log_piece_at) (defScope s_Log_piece_at) [] [] f fd) : FnOk P w Kf mg base (L2.CX P w) 1 f fd ["self", "mark"] (spOf T (spPA Kf)) := by
  refine def_in F sc_Log_piece_at (fun vs L K kx h => ?_) (fun A outer s H E hr n vs L KK kx h hx σ hσ => ?_)
  · obtain ⟨o, dx, lp, pc, st, fin, mark, qs, R, rfl, _⟩ := h; rfl
  · obtain ⟨o, dx, lp, pc, st, fin, mark, qs, R, rfl, rfl, h0, hz, hpw, k⟩ := h
    obtain rfl : σ = [some (.ref o), some (.int mark), none, none, none] := hσ
    cases fx
    refine gss_cons ?_
    tm_at "gs"
    refine gss_cons ?_
    refine gs_while (fun m σ' L' => ∃ (lo hi : Nat) (a b : Int) (u : Option V), (hi - lo = m ∧ lo ≤ hi ∧ hi < qs.length) ∧ (a = lo ∧ b = hi) ∧ (lo = 0 ∨ ∀ p, (psQ qs)[lo]? = some p → p.1 ≤ mark) ∧ (∀ j p, hi < j → (psQ qs)[j]? = some p → mark < p.1) ∧ σ' = [some (.ref o), some (.int mark), some (.int a), some (.int b), u] ∧ L' = lgP Kf o dx lp pc st fin qs R) (passes_of rfl) (qs.length - 1)
      ⟨0, qs.length - 1, 0, _, none, ⟨rfl, Nat.zero_le _, by omega⟩, ⟨rfl, by simp; omega⟩, .inl rfl, fun j p hj hp => ?_, rfl, rfl⟩ ?_
    · rw [List.getElem?_eq_none (by simp; omega)] at hp; cases hp
    rintro m σ' L' ⟨lo, hi, a, b, u, ⟨hm, hlh, hlt⟩, ⟨rfl, rfl⟩, h1, h2, rfl, rfl⟩
    tm_at "go"
    tm_at "if"
    · rename_i hlt2
      have hlt2 : lo < hi := by omega
      refine gss_cons ?_
      tm_at "gs"
      obtain ⟨mid, e, m1, m2⟩ : ∃ mid : Nat, ((lo : Int) + hi + 1) / 2 = (mid : Int) ∧ lo < mid ∧ mid ≤ hi := ⟨(lo + hi + 1) / 2, by omega, by omega, by omega⟩
      rw [e]
      have hq : qs[mid]? = some (qs[mid]'(by omega)) := List.getElem?_eq_getElem _
      generalize qs[mid]'(by omega) = q at hq
      refine gss_cons ?_
      tm_at "go"
      refine gi_lst (by tm_at "sSel") (atI_nat (refs_at hq)) ?_
      tm_at "go"
      refine gi_tupQ0 (by tm_at "sSel") (List.mem_of_getElem? hq) ?_
      tm_at "go"
      tm_at "if"
      · rename_i hle
        tm_at "go"
        refine ⟨hi - mid, by omega, ?_⟩
        tm_at "fits"
        · exact ⟨mid, hi, _, _, _, ⟨rfl, m2, hlt⟩, ⟨rfl, rfl⟩, .inr fun p hp => by rw [psQ_at hq] at hp; cases hp; exact hle, h2, rfl, rfl⟩
        · tm_at "ent"
      · rename_i hle
        tm_at "go"
        refine ⟨mid - 1 - lo, by omega, ?_⟩
        tm_at "fits"
        · refine ⟨lo, mid - 1, _, _, _, ⟨rfl, by omega, by omega⟩, ⟨rfl, by omega⟩, h1, fun j p hj hp => ?_, rfl, rfl⟩
          by_cases c : j = mid
          · subst c; rw [psQ_at hq] at hp; cases hp; omega
          · have := (pw_at hpw (show mid < j by omega) (psQ_at hq) hp).1
            omega
        · tm_at "ent"
    · rename_i hge
      have : lo = hi := by omega
      subst this
      tm_at "go"
      apply Clo.mk (k lo ⟨by simpa using hlt, h1, h2⟩)
      tm_at "ent"
def PutJ (T : List (Addr × Str)) (Kf : PySem.W.Frag) (o dx lp : Addr) (pc st fin : Int) (m : Nat) (rows : List Rec) (R : List SA) (σ : Addr → St) : St → List SA → Prop := fun σ' L' => ∃ (qs' : List QD) (t1 r1 : Addr) (f1 : Int) (row1 : List Rec), σ' = σ r1 ∧
  Ent T L' (pt o (lgo Kf dx lp pc st fin) :: pt lp (.lst (refsQ qs' ++ [.ref t1])) :: TupsP tupF (qs' ++ [(t1, r1, f1, row1)]) :: LstR rRec r1 row1 :: ObD rowF qs' :: R) ∧ row1.length ≤ 1000 ∧
  ∀ r : Rec, r.1 = fin → LInv (m + 1) ⟨pc, st, fin + 1, psQ qs' ++ [(f1, row1 ++ [r])]⟩ ∧ fl (psQ qs' ++ [(f1, row1 ++ [r])]) = rows ++ [r]
def spPut (Kf : PySem.W.Frag) : SpL := fun vs L K kx => ∃ (o : Addr) (n : Nat) (pc st fin t : Int) (k v : Option Str) (rows : List Rec) (R : List SA), vs = [.ref o, .int t, vOpt k, vOpt v] ∧ L = LogP Kf o n pc st fin rows :: R ∧ ¬ (k = none ∧ v = none) ∧ optGood k ∧ optGood v ∧ n < 1000 ∧
  K (.int fin) (LogP Kf o (n + 1) pc st (fin + 1) (rows ++ [(fin, t, k, v)]) :: R)
theorem call_cr {t : Int} {k v : Option Str} {x y : V} {L : List SA} {K : GK} {kx : KX} (ex : x = vOpt k) (ey : y = vOpt v) (h : ¬ (k = none ∧ v = none)) (q : K .non L) : spE T (spCR Kf) [.int t, x, y] L K kx := by
  subst ex ey
  exact CallS.mk (.inl ⟨t, k, v, rfl, fun _ => q, fun z => absurd z h⟩) Ent.refl
theorem ok_put (fx : Fx Kf mg) (hcr : FnAt T P w Kf mg base 3 "check_record" (spCR Kf)) (F : FunD Kf "put" "Log.put" (defArgs s_Log_put) (defBody s_Log_put) (defScope s_Log_put) [] [] f fd) : FnOk P w Kf mg base (L2.CX P w) 4 f fd ["self", "time", "key", "value"] (spOf T (spPut Kf)) := by
  refine def_in F sc_Log_put (fun vs L K kx h => ?_) (fun A outer s H E hr n vs L KK kx h hx σ hσ => ?_)
  · obtain ⟨o, n, pc, st, fin, t, k, v, rows, R, rfl, _⟩ := h; rfl
  · obtain ⟨o, m, pc, st, fin, t, k, v, rows, R, rfl, rfl, hkv, gk, gv, hm, q⟩ := h
    obtain rfl : σ = [some (.ref o), some (.int t), some (vOpt k), some (vOpt v), none, none] := hσ
    cases fx
    refine log_in .here fun dx lp qs hi hf => ?_
    obtain ⟨A0, q0, rfl⟩ : ∃ A0 q0, qs = A0 ++ [q0] := by
      have := hi.ne
      rcases List.eq_nil_or_concat qs with h | ⟨A0, q0, h⟩
      · subst h; exact absurd rfl this
      · exact ⟨A0, q0, by rw [h, List.concat_eq_append]⟩
    obtain ⟨t0, r0, f0, row⟩ := q0
    have e1 : psQ (A0 ++ [(t0, r0, f0, row)]) = psQ A0 ++ [(f0, row)] := by simp [psQ]
    have hrow : row.length ≤ 1000 := by
      have h1 := hi.zr
      have h2 := hi.zn
      simp only [e1, fl_app, fl_one, List.length_append] at h1
      omega
    have hp := hi.zp
    rw [e1] at hi hf hp
    have hlenA : (A0.length : Nat) ≤ 1000 := by simp at hp; omega
    refine GSs.ent (L' := pt o (lgo Kf dx lp pc st fin) :: pt lp (.lst (refsQ A0 ++ [.ref t0])) :: TupsP tupF (A0 ++ [(t0, r0, f0, row)]) :: LstR rRec r0 row :: ObD rowF A0 :: R) ?_ ?_
    · refine Fit.ent (Fit.tl ?_)
      refine Fit.cons .here (Cv.pt (by simp [refsQ])) (Fit.tl ?_)
      refine Fit.trans obd_app (Fit.trans (Fit.of (List.Perm.swap _ _ _)) ?_)
      refine Fit.trans obd_cons (Fit.tl obd_nil)
    refine gss_cons ?_
    tm_at "go"
    refine call_cr rfl rfl hkv ?_
    tm_at "go"
    refine gi_lst (by tm_at "sSel") atI_last ?_
    tm_at "gs"
    refine pg_tupQ (q := ((t0, r0, f0, row) : QD)) (by tm_at "sSel") (by simp) rfl rfl rfl ?_
    tm_at "gs"
    refine gss_cons ?_
    refine gs_join (PutJ T Kf o dx lp pc st fin m rows R fun r1 => [some (.ref o), some (.int t), some (vOpt k), some (vOpt v), some (.int f0), some (.ref r1)]) ?_ ?_
    · refine gs_ifJ (pc ≤ row.length ∨ row ≠ [] ∧ 4 * pc ≤ fin - f0) (pt o (lgo Kf dx lp pc st fin) :: pt lp (.lst (refsQ A0 ++ [.ref t0])) :: TupsP tupF (A0 ++ [(t0, r0, f0, row)]) :: LstR rRec r0 row :: ObD rowF A0 :: R) ?_ (fun hc => ?_) (fun hc => ?_)
      · tm_at "go"
        tm_at "if"
        · rename_i h1
          exact ⟨by simp [h1], by tm_at "ent"⟩
        · rename_i h1
          tm_at "go"
          refine go_neE hr (sees_lst (by tm_at "sSel") (by decide)) (sees_nil (by tm_at "sSel")) (eqv_nil row) ?_
          tm_at "go"
          tm_at "if"
          · rename_i h2
            tm_at "go"
            exact ⟨by simp [h1, h2], by tm_at "ent"⟩
          · rename_i h2
            tm_at "go"
            exact ⟨by simp [h2] at h1 ⊢; omega, by tm_at "ent"⟩
      · have hne : row ≠ [] := by
          rcases hc with hc | ⟨hc, _⟩
          · intro z
            have := hi.pc
            subst z
            simp at hc this
            omega
          · exact hc
        refine gss_cons ?_
        tm_at "go"
        have hz : (refsQ A0 ++ [V.ref t0]).length < sizeLine := by simp [sizeLine_eq]; omega
        refine gapp_pt (by tm_at "sRpl") hz ?_
        rename_i r1 t1
        tm_at "go"
        refine gi_lst (by tm_at "sSel") atI_last2 ?_
        tm_at "go"
        refine ⟨A0 ++ [(t0, r0, f0, row)], t1, r1, fin, [], rfl, ?_, by simp, fun r hr => ?_⟩
        · refine Fit.ent ?_
          refine Fit.trans (L1 := pt o (lgo Kf dx lp pc st fin) :: pt lp (.lst (refsQ (A0 ++ [(t0, r0, f0, row)]) ++ [.ref t1])) :: pt t1 (.tup [.int fin, .ref r1]) :: TupsP tupF (A0 ++ [(t0, r0, f0, row)]) :: LstR rRec r1 [] :: LstR rRec r0 row :: ObD rowF A0 :: R) (by tm_at "fit") ?_
          refine Fit.tl (Fit.tl ?_)
          refine Fit.trans (tups_snoc (p := ((t1, r1, fin, []) : QD)) (.there .here) .here rfl) ?_
          refine Fit.tl (Fit.drop (Fit.drop (Fit.tl ?_)))
          exact obd_snoc (F := rowF) (p := ((t0, r0, f0, row) : QD))
        · have := inv_put1 (r := r) hi rfl hne hr hm
          simp only [e1] at this ⊢
          rw [← hf]
          simpa using this
      · tm_at "go"
        refine ⟨A0, t0, r0, f0, row, rfl, Ent.refl, hrow, fun r hr => ?_⟩
        have := inv_put2 (r := r) hi rfl hr hm
        rw [← hf]
        exact this
    · rintro σ' L' ⟨qs', t1, r1, f1, row1, rfl, t2, hz, hq⟩
      refine GSs.ent t2 ?_
      refine gss_cons ?_
      tm_at "go"
      refine gapp_R (d := (fin, t, k, v)) (by tm_at "sRpl") (by rw [sizeLine_eq]; omega) (rv_quad (by tm_at "sSel") rv_int rv_int (rv_scal cOpt gk) (rv_scal cOpt gv)) ?_
      tm_at "go"
      obtain ⟨hi2, hf2⟩ := hq (fin, t, k, v) rfl
      have e2 : psQ (qs' ++ [(t1, r1, f1, row1 ++ [(fin, t, k, v)])]) = psQ qs' ++ [(f1, row1 ++ [(fin, t, k, v)])] := by simp [psQ]
      rw [← e2] at hi2 hf2
      have e3 : fin + 1 - 1 = fin := by omega
      rw [e3]
      apply Clo.mk q
      refine Fit.ent (log_want (dx := dx) (lp := lp) hi2 hf2 ?_)
      refine Fit.trans (L1 := pt o (lgo Kf dx lp pc st (fin + 1)) :: pt lp (.lst (refsQ (qs' ++ [(t1, r1, f1, row1 ++ [(fin, t, k, v)])]))) :: TupsP tupF (qs' ++ [(t1, r1, f1, row1)]) :: LstR rRec r1 (row1 ++ [(fin, t, k, v)]) :: ObD rowF qs' :: R) (by tm_at "fit") ?_
      refine Fit.tl (Fit.tl ?_)
      refine Fit.cons .here (tups_cv (by simp)) ?_
      exact obd_snoc (F := rowF) (p := ((t1, r1, f1, row1 ++ [(fin, t, k, v)]) : QD))
end
section
variable {T : List (Addr × Str)} {P : Program} {w : World} {Kf : PySem.W.Frag} {mg : Str → Option Value} {base : Heap} {f : Addr} {fd : FuncData}
theorem take_succ {α : Type} {ds : List α} {i : Nat} {d : α} (h : ds[i]? = some d) : ds.take (i + 1) = ds.take i ++ [d] := by
  rw [List.take_succ, h]; rfl
theorem len_fl {n : Nat} {S : LS} (h : LInv n S) (ps : List PD) (hs : ∀ l, fl S.ps = fl ps ++ l → True) : True := True.intro
theorem fl_take_le {ps : List PD} (i : Nat) : (fl (ps.take i)).length ≤ (fl ps).length := by
  conv => rhs; rw [← List.take_append_drop i ps, fl_app, List.length_append]
  omega
theorem row_le {ps : List PD} {p : PD} (h : p ∈ ps) : p.2.length ≤ (fl ps).length := by
  obtain ⟨a, b, rfl⟩ := List.append_of_mem h
  rw [fl_app, fl_cons]
  simp only [List.length_append]; omega
def spKept (Kf : PySem.W.Frag) : SpL := fun vs L K kx => ∃ (o : Addr) (n : Nat) (pc st fin : Int) (rows : List Rec) (R : List SA), vs = [.ref o] ∧ L = LogP Kf o n pc st fin rows :: R ∧ ∀ v, K v (Val (rTl rRec) v rows :: LogP Kf o n pc st fin rows :: R)
theorem ok_kept (fx : Fx Kf mg) (F : FunD Kf "kept" "Log.kept" (defArgs s_Log_kept) (defBody s_Log_kept) (defScope s_Log_kept) [] [] f fd) : FnOk P w Kf mg base (L2.CX P w) 1 f fd ["self"] (spOf T (spKept Kf)) := by
  refine def_in F sc_Log_kept (fun vs L K kx h => ?_) (fun A outer s H E hr n vs L KK kx h hx σ hσ => ?_)
  · obtain ⟨o, n, pc, st, fin, rows, R, rfl, _⟩ := h; rfl
  · obtain ⟨o, m, pc, st, fin, rows, R, rfl, rfl, k⟩ := h
    obtain rfl : σ = [some (.ref o), none, none, none] := hσ
    cases fx
    refine log_in .here fun dx lp qs hi hf => ?_
    have hzr : (fl (psQ qs)).length ≤ 1000 := Nat.le_trans hi.zr hi.zn
    refine gss_cons ?_
    tm_at "go"
    refine ge_lc2 ow0_Log_kept [3] rRec rfl n.ndN (blkOk_by (N := n_Log_kept) (sc := defScope s_Log_kept) (by decide +kernel)) (by decide) (by tm_at "sWp") (fun _ => rfl) (fun _ _ => rfl) ?_
    tm_at "go"
    refine ⟨lp, refsQ qs, fun i D L' => L' = LstR rRec D (fl (psQ (qs.take i))) :: lgP Kf o dx lp pc st fin qs R, rfl, ⟨_, by tm_at "sSel"⟩, fun D => FitL.mk rfl (Fit.ent (Fit.cons .here Cv.lst0 Fit.refl)), fun i D L' e => by subst e; exact ⟨_, by tm_at "sSel"⟩, ?_, ?_⟩
    · rintro i x D L' hx' rfl s' H' C cl fp
      obtain ⟨q, hq, rfl⟩ := refs_get hx'
      have hqm := List.mem_of_getElem? hq
      refine gg_blk (kc := kc0_Log_kept) n rfl (by decide) fun nb => ?_
      refine pg_tupQ (by tm_at "sSel") hqm rfl rfl rfl ?_
      tm_at "go"
      intro s' H' C cl fp
      refine ge_blk (kc := kc0_Log_kept) n rfl (by decide) fun nb => ?_
      tm_at "go"
      refine ⟨q.2.1, q.2.2.2, fun j L' => L' = LstR rRec q.2.1 q.2.2.2 :: LstR rRec D (fl (psQ (qs.take i)) ++ q.2.2.2.take j) :: pt o (lgo Kf dx lp pc st fin) :: pt lp (.lst (refsQ qs)) :: TupsP tupF qs :: ObD rowF (qs.take i) :: ObD rowF (qs.drop (i + 1)) :: R, _, rfl, by tm_at "sWp", ?_, fun j L' e => by subst e; exact ⟨_, .here⟩, ?_, ?_⟩
      · refine FitL.mk rfl (Fit.ent (Fit.trans (Fit.at1 (by tm_at "sSel") (obd_at hq)) ?_))
        tm_at "fit"
      · rintro j d x1 L' hd rfl s' H' C cl fp
        refine gg_blk (kc := kc0_Log_kept) n rfl (by decide) fun nb => ?_
        tm_at "go"
        intro s' H' C cl fp
        refine gts_blk (kc := kc0_Log_kept) n rfl (by decide) fun nb => ?_
        tm_at "go"
        tm_at "if"
        · intro s' H' C cl fp
          refine ge_blk (kc := kc0_Log_kept) n rfl (by decide) fun nb => ?_
          tm_at "go"
          refine lcend_R (d := d) (by tm_at "sRpl") ?_ (rv_val .here) (FitL.mk rfl (Fit.ent ?_))
          · have h1 := fl_take_le (ps := psQ qs) (i + 1)
            rw [take_succ (psQ_at hq), fl_app, fl_one] at h1
            have h2 : (q.2.2.2.take j).length ≤ q.2.2.2.length := List.length_take_le' _ _
            simp only [psQ, List.map_take, List.length_append] at h1 hzr ⊢
            rw [sizeLine_eq]
            omega
          · rw [take_succ hd]
            tm_at "fit"
        · rename_i hlt
          have h1 := ((hi.lo q.2.2 (List.mem_of_getElem? (psQ_at hq))).2.2 d (List.mem_of_getElem? hd)).2.1
          exact absurd h1 hlt
      · rintro L' rfl
        refine FitL.mk rfl (Fit.ent (Fit.trans (L1 := rowF q :: ObD rowF (qs.take i) :: ObD rowF (qs.drop (i + 1)) :: LstR rRec D (fl (psQ (qs.take (i + 1)))) :: pt o (lgo Kf dx lp pc st fin) :: pt lp (.lst (refsQ qs)) :: TupsP tupF qs :: R) ?_ (Fit.trans (obd_back hq) (by tm_at "fit"))))
        have e : fl (psQ (qs.take (i + 1))) = fl (psQ (qs.take i)) ++ q.2.2.2.take q.2.2.2.length := by
          rw [List.take_length, take_succ hq]
          simp [psQ, fl]
        rw [e]
        tm_at "fit"
    · rintro D L' rfl
      tm_at "go"
      rw [List.take_of_length_le (by simp), hf]
      refine gc_tupleR (by tm_at "sSel") fun v => ?_
      tm_at "go"
      apply Clo.mk (k v)
      refine Fit.ent ?_
      refine Fit.cons .here Cv.id ?_
      exact log_want (dx := dx) (lp := lp) hi hf (by tm_at "fit")
end
/-! regions -/
def vOI : Option Int → V | none => .non | some i => .int i
abbrev EQ := Addr × PR
abbrev wtQ (q : EQ) : Addr × List V := (q.1, [vOI q.2.2.2.2.1, .str q.2.2.2.2.2])
def wdQ (qs : List EQ) : List (Key × V) := qs.mapIdx fun i q => ((Sum.inl (i : Int) : Key), V.ref q.1)
def rowsE (es : List PR) : List Rec := es.mapIdx fun i e => ((i : Int), e.1, some e.2.1, some e.2.2.1)
theorem rowsE_snoc (es : List PR) (e : PR) : rowsE (es ++ [e]) = rowsE es ++ [((es.length : Int), e.1, some e.2.1, some e.2.2.1)] := by simp [rowsE, List.mapIdx_append]
theorem wdQ_snoc (qs : List EQ) (q : EQ) : wdQ (qs ++ [q]) = wdQ qs ++ [((Sum.inl (qs.length : Int) : Key), V.ref q.1)] := by simp [wdQ, List.mapIdx_append]
theorem wdQ_len (qs : List EQ) : (wdQ qs).length = qs.length := by simp [wdQ]
theorem wdQ_get (qs : List EQ) (i : Nat) : valV (wdQ qs) (Sum.inl (i : Int)) = (qs[i]?).map fun q => V.ref q.1 := by
  suffices g : ∀ (n : Nat) (qs : List EQ), qs.length = n → ∀ i : Nat, valV (wdQ qs) (Sum.inl (i : Int)) = (qs[i]?).map fun q => V.ref q.1 from g _ qs rfl i
  intro n
  induction n with
  | zero => intro qs h i; obtain rfl := List.length_eq_zero_iff.mp h; rfl
  | succ n ih =>
    intro qs0 h i
    obtain ⟨qs, q, rfl⟩ : ∃ qs q, qs0 = qs ++ [q] := by
      rcases List.eq_nil_or_concat qs0 with h | ⟨a, b, h'⟩
      · subst h; cases h
      · exact ⟨a, b, by rw [h', List.concat_eq_append]⟩
    have ih := ih qs (by simpa using h)
    clear h
    rw [wdQ_snoc]
    have app : ∀ (a b : List (Key × V)) (k : Key), valV (a ++ b) k = match valV a k with | some x => some x | none => valV b k := by
      intro a b k
      induction a with
      | nil => rfl
      | cons p a ih2 =>
        rw [List.cons_append, valV_cons, valV_cons, ih2]
        by_cases c : p.1 = k
        · rw [if_pos c, if_pos c]
        · rw [if_neg c, if_neg c]
    rw [app, ih, valV_cons]
    by_cases c : i < qs.length
    · rw [List.getElem?_append_left c, List.getElem?_eq_getElem c]; rfl
    · rw [List.getElem?_eq_none (by omega : qs.length ≤ i)]
      by_cases ci : i = qs.length
      · subst ci
        rw [List.getElem?_concat_length]
        simp
      · rw [List.getElem?_eq_none (by simp; omega)]
        have : ¬ ((Sum.inl (qs.length : Int) : Key) = Sum.inl (i : Int)) := fun z => ci (by have := Sum.inl.inj z; omega)
        simp only [Option.map_none]
        rw [if_neg this]
        rfl
theorem wdQ_put (qs : List EQ) (q : EQ) : putK (wdQ qs) (Sum.inl (qs.length : Int)) (V.ref q.1) = wdQ (qs ++ [q]) := by
  rw [wdQ_snoc]
  unfold putK
  rw [if_neg]
  rw [valV_any, wdQ_get, List.getElem?_eq_none (Nat.le_refl _)]
  simp
def PartP (K : PySem.W.Frag) (lg hd : Addr) (es : List PR) : SA := fun h => ∃ qs : List EQ, qs.map (·.2) = es ∧ Pcs [LogP K lg es.length 8 0 (es.length : Nat) (rowsE es), pt hd (.dK (wdQ qs)), TupsP wtQ qs] h
abbrev dF (fs : List (Bool × Int)) : List (Key × V) := toK (fun b => (Sum.inl (bI b) : Key)) V.int fs
def dM (mk : MkD) : List (List Key × V) := mk.map fun p => ([Sum.inr p.1.1, Sum.inl p.1.2], V.int p.2)
theorem bI_inj : ∀ a b : Bool, (Sum.inl (bI a) : Key) = Sum.inl (bI b) → a = b := by intro a b; cases a <;> cases b <;> simp [bI]
abbrev WK := (Addr × Addr × Addr) × WK0
abbrev wkT (w : WK) : Addr × List V := (w.1.1, [.int w.2.2.1, .ref w.1.2.1, .ref w.1.2.2])
abbrev wkO (w : WK) : SA := fun h => Pcs [pt w.1.2.1 (.dK (dF w.2.2.2.1)), pt w.1.2.2 (.dT (dM w.2.2.2.2))] h
abbrev adW (ws : List WK) : List (Key × V) := toK (Sum.inr : Str → Key) V.ref (ws.map fun w => (w.2.1, w.1.1))
structure DA where
  dx : Addr
  ll : Addr
  wl : Addr
  td : Addr
  ad : Addr
  md : Addr
  lg : Bool → Addr
  hd : Bool → Addr
  ws : List WK
abbrev dpO (K : PySem.W.Frag) (A : DA) (ct : Int) : HO := .ins (He.ga K "Deeds") A.dx [("logs", .ref A.ll), ("what", .ref A.wl), ("turns", .ref A.td), ("at_work", .ref A.ad), ("count", .int ct), ("marks", .ref A.md)]
abbrev dpB (K : PySem.W.Frag) (o : Addr) (A : DA) (S : DS) (b : Bool) (R : List SA) : List SA := pt o (dpO K A S.ct) :: pt A.ll (.lst [.ref (A.lg false), .ref (A.lg true)]) :: pt A.wl (.lst [.ref (A.hd false), .ref (A.hd true)]) :: pt A.td (.dK (toK (Sum.inr : Str → Key) V.int S.tu)) :: pt A.ad (.dK (adW A.ws)) :: TupsP wkT A.ws :: ObD wkO A.ws :: pt A.md (.dT (dM S.gm)) :: PartP K (A.lg b) (A.hd b) (S.pa b) :: PartP K (A.lg (!b)) (A.hd (!b)) (S.pa (!b)) :: R
abbrev dpX (K : PySem.W.Frag) (o : Addr) (A : DA) (tu : List (Str × Int)) (ct : Int) (gm : MkD) (p0 p1 : List PR) (R : List SA) : List SA := pt o (dpO K A ct) :: pt A.ll (.lst [.ref (A.lg false), .ref (A.lg true)]) :: pt A.wl (.lst [.ref (A.hd false), .ref (A.hd true)]) :: pt A.td (.dK (toK (Sum.inr : Str → Key) V.int tu)) :: pt A.ad (.dK (adW A.ws)) :: TupsP wkT A.ws :: ObD wkO A.ws :: pt A.md (.dT (dM gm)) :: PartP K (A.lg false) (A.hd false) p0 :: PartP K (A.lg true) (A.hd true) p1 :: R
abbrev dpL (K : PySem.W.Frag) (o : Addr) (A : DA) (S : DS) (R : List SA) : List SA := dpX K o A S.tu S.ct S.gm (S.pa false) (S.pa true) R
theorem iteNone {A B : Prop} (h : B) : if (none : Option V).isSome = true then A else B := by simpa using h
theorem iteSome {A B : Prop} {v : V} (h : A) : if (some v).isSome = true then A else B := by simpa using h
theorem iteNNone {A B : Prop} (h : A) : if (!(none : Option V).isSome) = true then A else B := by simpa using h
theorem iteNSome {A B : Prop} {v : V} (h : B) : if (!(some v).isSome) = true then A else B := by simpa using h
def DeedsP (K : PySem.W.Frag) (o : Addr) (S : DS) : SA := fun h => ∃ A : DA, A.ws.map (·.2) = S.wk ∧ Pcs (dpB K o A S false []) h
theorem two_parts {F : Bool → SA} {b : Bool} {R : List SA} : Fit (F false :: F true :: R) (F b :: F (!b) :: R) := by
  cases b
  · exact Fit.refl
  · exact Fit.of (List.Perm.swap _ _ _)
theorem two_parts' {F : Bool → SA} {b : Bool} {R : List SA} : Fit (F b :: F (!b) :: R) (F false :: F true :: R) := by
  cases b
  · exact Fit.refl
  · exact Fit.of (List.Perm.swap _ _ _)
theorem at_b {f : Bool → Addr} {b : Bool} : atI [V.ref (f false), V.ref (f true)] (bI b) = some (.ref (f b)) := by cases b <;> rfl
section
variable {T : List (Addr × Str)} {X : Cx} {σ : St} {D : EndsL} {sts : List Stmt} {K : PySem.W.Frag} {o lg hd : Addr} {es : List PR} {S : DS} {b : Bool} {A : DA} {L R : List SA} {H : Hp} {qs : List EQ}
theorem part_unf (h : Hs T (PartP K lg hd es :: R) H) : ∃ qs : List EQ, qs.map (·.2) = es ∧ Hs T (LogP K lg es.length 8 0 (es.length : Nat) (rowsE es) :: pt hd (.dK (wdQ qs)) :: TupsP wtQ qs :: R) H := by
  obtain ⟨q, h1⟩ := h.pcs.ex
  obtain ⟨a, h2⟩ := h1.pure
  exact ⟨q, a, h.tabs, h2.unf⟩
theorem part_in (s : Sel L (PartP K lg hd es) R) (h : ∀ qs : List EQ, qs.map (·.2) = es → GSs T X sts D σ (LogP K lg es.length 8 0 (es.length : Nat) (rowsE es) :: pt hd (.dK (wdQ qs)) :: TupsP wtQ qs :: R)) : GSs T X sts D σ L := GSs.via fun H hs => by
  obtain ⟨q, a, h'⟩ := part_unf (hs.sel s)
  exact ⟨_, h', h q a⟩
theorem part_fold (e : qs.map (·.2) = es) : Fit (LogP K lg es.length 8 0 (es.length : Nat) (rowsE es) :: pt hd (.dK (wdQ qs)) :: TupsP wtQ qs :: R) (PartP K lg hd es :: R) := fun H h => by
  have h1 : Pcs ((fun g => Pcs [LogP K lg es.length 8 0 (es.length : Nat) (rowsE es), pt hd (.dK (wdQ qs)), TupsP wtQ qs] g) :: R) H := Pcs.fold (L1 := [LogP K lg es.length 8 0 (es.length : Nat) (rowsE es), pt hd (.dK (wdQ qs)), TupsP wtQ qs]) h
  exact h1.imp fun g k => ⟨qs, e, k⟩
theorem part_new : Fit (LogP K lg 0 8 0 0 [] :: pt hd (.dK []) :: R) (PartP K lg hd [] :: R) :=
  Fit.trans (Fit.trans (Fit.tl (Fit.tl (tups_nil (F := wtQ)))) Fit.refl) (part_fold (qs := []) rfl)
theorem part_snoc {t : Addr} {e : PR} {n : Nat} (eq : qs.map (·.2) = es) (hn : n = es.length) : Fit (LogP K lg (n + 1) 8 0 ((n : Int) + 1) (rowsE es ++ [((n : Int), e.1, some e.2.1, some e.2.2.1)]) :: pt hd (.dK (putK (wdQ qs) (Sum.inl (n : Int)) (.ref t))) :: pt t (.tup [vOI e.2.2.2.1, .str e.2.2.2.2]) :: TupsP wtQ qs :: R) (PartP K lg hd (es ++ [e]) :: R) := by
  subst hn
  have hl : es.length = qs.length := by rw [← eq, List.length_map]
  have e1 : (qs ++ [((t, e) : EQ)]).map (·.2) = es ++ [e] := by rw [List.map_append, eq]; rfl
  refine Fit.trans ?_ (part_fold e1)
  have e2 := wdQ_put qs (t, e)
  rw [hl, e2]
  rw [show ((qs.length : Int) + 1) = (((es ++ [e]).length : Nat) : Int) by rw [List.length_append, hl]; simp]
  rw [show qs.length + 1 = (es ++ [e]).length by rw [List.length_append, hl]; rfl]
  rw [← hl, ← rowsE_snoc]
  refine Fit.tl (Fit.tl ?_)
  refine Fit.trans (tups_snoc (F := wtQ) (p := ((t, e) : EQ)) (ps := qs) (.there .here) .here rfl) ?_
  exact Fit.tl (Fit.drop (Fit.drop Fit.refl))
theorem dp_unf (b : Bool) (h : Hs T (DeedsP K o S :: R) H) : ∃ A : DA, A.ws.map (·.2) = S.wk ∧ Hs T (dpB K o A S b R) H := by
  obtain ⟨A, h1⟩ := h.pcs.ex
  obtain ⟨a, h2⟩ := h1.pure
  refine ⟨A, a, h.tabs, ?_⟩
  have h3 : Pcs (dpB K o A S false R) H := h2.unf
  refine (show Fit (dpB K o A S false R) (dpB K o A S b R) from ?_) H h3
  exact Fit.tl (Fit.tl (Fit.tl (Fit.tl (Fit.tl (Fit.tl (Fit.tl (Fit.tl (two_parts (F := fun b => PartP K (A.lg b) (A.hd b) (S.pa b)) (b := b)))))))))
theorem dp_in (b : Bool) (s : Sel L (DeedsP K o S) R) (h : ∀ A : DA, A.ws.map (·.2) = S.wk → GSs T X sts D σ (dpB K o A S b R)) : GSs T X sts D σ L := GSs.via fun H hs => by
  obtain ⟨A, a, h'⟩ := dp_unf b (hs.sel s)
  exact ⟨_, h', h A a⟩
theorem dp_inE {e : Expr} {KK : GK} (b : Bool) (s : Sel L (DeedsP K o S) R) (h : ∀ A : DA, A.ws.map (·.2) = S.wk → GE T X e σ (dpB K o A S b R) KK) : GE T X e σ L KK := GE.via fun H hs => by
  obtain ⟨A, a, h'⟩ := dp_unf b (hs.sel s)
  exact ⟨_, h', h A a⟩
theorem dp_fold (b : Bool) (e : A.ws.map (·.2) = S.wk) : Fit (dpB K o A S b R) (DeedsP K o S :: R) := fun H h => by
  have h0 : Fit (dpB K o A S b R) (dpB K o A S false R) := Fit.tl (Fit.tl (Fit.tl (Fit.tl (Fit.tl (Fit.tl (Fit.tl (Fit.tl (two_parts' (F := fun b => PartP K (A.lg b) (A.hd b) (S.pa b)) (b := b)))))))))
  have h1 : Pcs ((fun g => Pcs (dpB K o A S false []) g) :: R) H := Pcs.fold (L1 := dpB K o A S false []) (h0 H h)
  exact h1.imp fun g k => ⟨A, e, k⟩
theorem dp_want (b : Bool) (e : A.ws.map (·.2) = S.wk) (f : Fit L (dpB K o A S b R)) : Fit L (DeedsP K o S :: R) := Fit.trans f (dp_fold b e)
theorem dp_in0 (s : Sel L (DeedsP K o S) R) (h : ∀ A : DA, A.ws.map (·.2) = S.wk → GSs T X sts D σ (dpL K o A S R)) : GSs T X sts D σ L := dp_in false s h
theorem dp_inE0 {e : Expr} {KK : GK} (s : Sel L (DeedsP K o S) R) (h : ∀ A : DA, A.ws.map (·.2) = S.wk → GE T X e σ (dpL K o A S R) KK) : GE T X e σ L KK := dp_inE false s h
theorem dp_want0 (e : A.ws.map (·.2) = S.wk) (f : Fit L (dpL K o A S R)) : Fit L (DeedsP K o S :: R) := dp_want false e f
theorem ins_dp {C : Addr} {m : Str} (s : Sel L (DeedsP K o S) R) (hm : ∀ v1 v2 v3 v4 v5 v6 : V, NoF [("logs", v1), ("what", v2), ("turns", v3), ("at_work", v4), ("count", v5), ("marks", v6)] m) (e : He.ga K "Deeds" = C) : IsIns T C (.ref o) m L := ⟨o, rfl, fun H h => by
  obtain ⟨A, _, h'⟩ := dp_unf false (h.sel s)
  subst e
  exact ⟨A.dx, _, h'.get, (hm _ _ _ _ _ _).eq⟩⟩
end
local macro_rules | `(tactic| tm_at "gF") => `(tactic| ((guard_target = (IsIns _ _ _ _ _ ∧ _)); (with_reducible refine And.intro ?hh ?_); (case hh => exact ins_dp (by tm_at "sSel") (fun _ _ _ _ _ _ => by tm_at "sNoF") (by rfl))))
abbrev FE (K : PySem.W.Frag) : Value := .ref (He.ga K "Fenced")
abbrev ND (K : PySem.W.Frag) : Value := .ref (He.ga K "NotDue")
abbrev lgN (K : PySem.W.Frag) (a : Addr) : SA := LogP K a 0 8 0 0 []
abbrev dcN (a : Addr) : SA := pt a (.dK [])
section
variable {T : List (Addr × Str)} {P : Program} {w : World} {Kf : PySem.W.Frag} {mg : Str → Option Value} {base : Heap} {f : Addr} {fd : FuncData}
def spDI (Kf : PySem.W.Frag) : SpL := fun vs L K kx => ∃ (o dx : Addr) (R : List SA), vs = [.ref o, .int 2] ∧ L = pt o (.ins (He.ga Kf "Deeds") dx []) :: R ∧ K .non (DeedsP Kf o DS.new :: R)
theorem ok_di (fx : Fx Kf mg) (hmk : MkAt T P w Kf mg base 1 "Log" (spLI Kf)) (F : FunD Kf "__init__" "Deeds.__init__" (defArgs s_Deeds__init) (defBody s_Deeds__init) (defScope s_Deeds__init) [] [] f fd) : FnOk P w Kf mg base (L2.CX P w) 3 f fd ["self", "parts"] (spOf T (spDI Kf)) := by
  refine def_in F sc_Deeds__init (fun vs L K kx h => ?_) (fun A outer s H E hr n vs L KK kx h hx σ hσ => ?_)
  · obtain ⟨o, dx, R, rfl, _⟩ := h; rfl
  · obtain ⟨o, dx, R, rfl, rfl, k⟩ := h
    obtain rfl : σ = [some (.ref o), some (.int 2), none] := hσ
    cases fx
    refine gss_cons ?_
    tm_at "go"
    refine ge_lcI ow0_Deeds__init rfl n.ndN (blkOk_by (N := n_Deeds__init) (sc := defScope s_Deeds__init) (by decide +kernel)) (by tm_at "sWp") (fun _ => rfl) (git_N (n.gl (by tm_at "sKd")) (by assumption) rfl ?_)
    tm_at "go"
    refine ⟨by decide, by decide, fun _ => True.intro, lcgo_ob (F := lgN Kf) (a := fun a => a) (fun i (ds : List Addr) => ds.length = i) rfl (by rw [sizeLine_eq]; decide) (fun i ds e => Nat.le_of_eq e) ?_ ?_⟩
    · rintro D3 i3 x Lx ds hi3 ⟨rfl, rfl⟩ e1 s' H' C cl fp
      simp only [List.nil_append]
      refine gg_blk (kc := kc0_Deeds__init) n rfl (by decide) fun nb => ?_
      tm_at "go"
      intro s' H' C cl fp
      refine gts_blk (kc := kc0_Deeds__init) n rfl (by decide) fun nb => ?_
      tm_at "go"
      refine tsto_t ?_
      intro s' H' C cl fp
      refine ge_blk (kc := kc0_Deeds__init) n rfl (by decide) fun nb => ?_
      tm_at "go"
      intro a1 dx1
      refine CallS.mk (S := spLI Kf) ⟨a1, dx1, 8, ObDL (lgN Kf) (fun a => a) D3 ds :: pt o (.ins (He.ga Kf "Deeds") dx []) :: R, rfl, rfl, by decide, ⟨rfl, ?_⟩⟩ (by tm_at "ent")
      exact endo a1 rfl (by rw [List.length_append, e1]; rfl) Ent.refl
    rintro ll ds e1
    obtain ⟨l0, l1, rfl⟩ : ∃ l0 l1, ds = [l0, l1] := by
      match ds, e1 with
      | [], e1 => cases e1
      | [a], e1 => cases e1
      | [a, b], _ => exact ⟨a, b, rfl⟩
      | a :: b :: c :: r, e1 => simp at e1
    tm_at "gs"
    refine gss_cons ?_
    tm_at "go"
    refine ge_lcI ow1_Deeds__init rfl n.ndN (blkOk_by (N := n_Deeds__init) (sc := defScope s_Deeds__init) (by decide +kernel)) (by tm_at "sWp") (fun _ => rfl) (git_N (n.gl (by tm_at "sKd")) (by assumption) rfl ?_)
    tm_at "go"
    refine ⟨by decide, by decide, fun _ => True.intro, lcgo_ob (F := dcN) (a := fun a => a) (fun i (ds : List Addr) => ds.length = i) rfl (by rw [sizeLine_eq]; decide) (fun i ds e => Nat.le_of_eq e) ?_ ?_⟩
    · rintro D3 i3 x Lx ds hi3 ⟨rfl, rfl⟩ e1 s' H' C cl fp
      simp only [List.nil_append]
      refine gg_blk (kc := kc1_Deeds__init) n rfl (by decide) fun nb => ?_
      tm_at "go"
      intro s' H' C cl fp
      refine gts_blk (kc := kc1_Deeds__init) n rfl (by decide) fun nb => ?_
      tm_at "go"
      refine tsto_t ?_
      intro s' H' C cl fp
      refine ge_blk (kc := kc1_Deeds__init) n rfl (by decide) fun nb => ?_
      tm_at "go"
      rename_i a1
      exact endo a1 rfl (by rw [List.length_append, e1]; rfl) Ent.refl
    rintro wl ds e2
    obtain ⟨d0, d1, rfl⟩ : ∃ l0 l1, ds = [l0, l1] := by
      match ds, e2 with
      | [], e1 => cases e1
      | [a], e1 => cases e1
      | [a, b], _ => exact ⟨a, b, rfl⟩
      | a :: b :: c :: r, e1 => simp at e1
    tm_at "gs"
    refine gss_cons ?_
    tm_at "gs"
    refine gss_cons ?_
    tm_at "gs"
    refine gss_cons ?_
    tm_at "gs"
    refine gss_cons ?_
    refine gs_fld rfl ?_
    refine ge_dnewT fun md => ?_
    tm_at "go"
    rename_i td ad
    apply Clo.mk k
    refine Fit.ent (dp_want (A := ⟨dx, ll, wl, td, ad, md, fun b => if b = false then l0 else l1, fun b => if b = false then d0 else d1, []⟩) false rfl ?_)
    refine Fit.trans (L1 := ObDL (lgN Kf) (fun a => a) ll [l0, l1] :: ObDL dcN (fun a => a) wl [d0, d1] :: pt o (dpO Kf ⟨dx, ll, wl, td, ad, md, fun b => if b = false then l0 else l1, fun b => if b = false then d0 else d1, []⟩ 0) :: pt td (.dK []) :: pt ad (.dK []) :: pt md (.dT []) :: R) (by tm_at "fit") ?_
    refine Fit.trans obdl_out ?_
    refine Fit.trans (L1 := ObDL dcN (fun a => a) wl [d0, d1] :: pt ll (.lst [.ref l0, .ref l1]) :: ObD (lgN Kf) [l0, l1] :: pt o (dpO Kf ⟨dx, ll, wl, td, ad, md, fun b => if b = false then l0 else l1, fun b => if b = false then d0 else d1, []⟩ 0) :: pt td (.dK []) :: pt ad (.dK []) :: pt md (.dT []) :: R) (by tm_at "fit") ?_
    refine Fit.trans obdl_out ?_
    refine Fit.trans (L1 := ObD (lgN Kf) [l0, l1] :: ObD dcN [d0, d1] :: pt wl (.lst [.ref d0, .ref d1]) :: pt ll (.lst [.ref l0, .ref l1]) :: pt o (dpO Kf ⟨dx, ll, wl, td, ad, md, fun b => if b = false then l0 else l1, fun b => if b = false then d0 else d1, []⟩ 0) :: pt td (.dK []) :: pt ad (.dK []) :: pt md (.dT []) :: R) (by tm_at "fit") ?_
    refine Fit.trans obd_cons ?_
    refine Fit.trans (Fit.tl obd_cons) ?_
    refine Fit.trans (L1 := ObD dcN [d0, d1] :: lgN Kf l0 :: lgN Kf l1 :: pt wl (.lst [.ref d0, .ref d1]) :: pt ll (.lst [.ref l0, .ref l1]) :: pt o (dpO Kf ⟨dx, ll, wl, td, ad, md, fun b => if b = false then l0 else l1, fun b => if b = false then d0 else d1, []⟩ 0) :: pt td (.dK []) :: pt ad (.dK []) :: pt md (.dT []) :: R) (by tm_at "fit") ?_
    refine Fit.trans obd_cons ?_
    refine Fit.trans (Fit.tl obd_cons) ?_
    refine Fit.trans (L1 := LogP Kf l0 0 8 0 0 [] :: pt d0 (.dK []) :: lgN Kf l1 :: dcN d1 :: pt wl (.lst [.ref d0, .ref d1]) :: pt ll (.lst [.ref l0, .ref l1]) :: pt o (dpO Kf ⟨dx, ll, wl, td, ad, md, fun b => if b = false then l0 else l1, fun b => if b = false then d0 else d1, []⟩ 0) :: pt td (.dK []) :: pt ad (.dK []) :: pt md (.dT []) :: R) (by tm_at "fit") ?_
    refine Fit.trans part_new ?_
    refine Fit.trans (L1 := LogP Kf l1 0 8 0 0 [] :: pt d1 (.dK []) :: PartP Kf l0 d0 [] :: pt wl (.lst [.ref d0, .ref d1]) :: pt ll (.lst [.ref l0, .ref l1]) :: pt o (dpO Kf ⟨dx, ll, wl, td, ad, md, fun b => if b = false then l0 else l1, fun b => if b = false then d0 else d1, []⟩ 0) :: pt td (.dK []) :: pt ad (.dK []) :: pt md (.dT []) :: R) (by tm_at "fit") ?_
    refine Fit.trans part_new ?_
    refine Fit.trans (tups_nil (F := wkT)) ?_
    refine Fit.trans (obd_nil' (F := wkO)) ?_
    show Fit _ (pt o _ :: pt ll (.lst [.ref l0, .ref l1]) :: pt wl (.lst [.ref d0, .ref d1]) :: pt td (.dK []) :: pt ad (.dK []) :: TupsP wkT [] :: ObD wkO [] :: pt md (.dT []) :: PartP Kf l0 d0 [] :: PartP Kf l1 d1 [] :: R)
    tm_at "fit"
end
local macro_rules | `(tactic| tm_at "gF") => `(tactic| ((guard_target = (IsIns _ _ _ _ _ ∧ _)); (with_reducible refine And.intro ?hh ?_); (case hh => exact ins_dp (by tm_at "sSel") (fun _ _ _ _ _ _ => by tm_at "sNoF") (by rfl))))
theorem ws_at {A : DA} {S : DS} {g : Str} {w : WKA} (e : A.ws.map (·.2) = S.wk) (h : sget S.wk g = some w) : ∃ (i : Nat) (x : WK), A.ws[i]? = some x ∧ x.2 = (g, w) := by
  obtain ⟨i, hi⟩ := List.getElem?_of_mem (mem_of_sget h)
  rw [← e, List.getElem?_map] at hi
  cases c : A.ws[i]? with
  | none => rw [c] at hi; cases hi
  | some x => rw [c] at hi; exact ⟨i, x, c, Option.some.inj hi⟩
theorem ad_get {A : DA} {S : DS} {g : Str} {w : WKA} {i : Nat} {x : WK} (nd : NdS S.wk) (e : A.ws.map (·.2) = S.wk) (hi : A.ws[i]? = some x) (hx : x.2 = (g, w)) : valV (adW A.ws) (Sum.inr g) = some (.ref x.1.1) := by
  have h1 : NdS (A.ws.map fun w => (w.2.1, w.1.1)) := by
    unfold NdS at nd ⊢
    rw [← e, List.map_map] at nd
    rw [List.map_map]; exact nd
  have h2 : (g, x.1.1) ∈ A.ws.map fun w => (w.2.1, w.1.1) := List.mem_map.mpr ⟨x, List.mem_of_getElem? hi, by rw [hx]⟩
  have := sget_of_mem h1 h2
  rw [toK_get inr_inj, this]; rfl
theorem ad_none {A : DA} {S : DS} {g : Str} (e : A.ws.map (·.2) = S.wk) (h : sget S.wk g = none) : valV (adW A.ws) (Sum.inr g) = none := by
  rw [toK_get inr_inj]
  have : sget (A.ws.map fun w => (w.2.1, w.1.1)) g = none := by
    rw [sget_none_iff] at h ⊢
    intro p hp
    obtain ⟨x, hx, rfl⟩ := List.mem_map.mp hp
    exact h x.2 (by rw [← e]; exact List.mem_map.mpr ⟨x, hx, rfl⟩)
  rw [this]; rfl
theorem ad_drop (ws : List WK) (g : Str) : dropK (adW ws) (Sum.inr g) = adW (ws.filter fun x => decide (x.2.1 ≠ g)) := by
  unfold dropK adW toK
  rw [List.map_map, List.map_map, List.filter_map]
  congr 1
  refine List.filter_congr fun x _ => ?_
  show decide ((Sum.inr x.2.1 : Key) ≠ Sum.inr g) = decide (x.2.1 ≠ g)
  by_cases c : x.2.1 = g
  · simp [c]
  · simp [c]
theorem erase_name {S : DS} {ws : List WK} {g : Str} {i : Nat} {x : WK} (nd : NdS S.wk) (e : ws.map (·.2) = S.wk) (hi : ws[i]? = some x) (hx : x.2.1 = g) : ws.filter (fun x => decide (x.2.1 ≠ g)) = ws.take i ++ ws.drop (i + 1) := by
  have nd1 : (ws.map fun w => w.2.1).Nodup := by
    unfold NdS at nd
    rw [← e, List.map_map] at nd
    exact nd
  have hs := split_at hi
  rw [hs, List.map_append, List.map_cons, List.nodup_append] at nd1
  obtain ⟨_, n2, n3⟩ := nd1
  rw [List.nodup_cons] at n2
  conv => lhs; rw [hs]
  rw [List.filter_append, List.filter_cons, if_neg (by simp [hx])]
  rw [List.filter_eq_self.mpr fun y hy => ?_, List.filter_eq_self.mpr fun y hy => ?_]
  · refine decide_eq_true fun z => n2.1 ?_
    rw [hx, ← z]; exact List.mem_map.mpr ⟨y, hy, rfl⟩
  · refine decide_eq_true fun z => ?_
    exact n3 _ (List.mem_map.mpr ⟨y, hy, rfl⟩) _ List.mem_cons_self (by rw [z, hx])
theorem wk_open {w : WK} {R : List SA} : Fit (wkO w :: R) (pt w.1.2.1 (.dK (dF w.2.2.2.1)) :: pt w.1.2.2 (.dT (dM w.2.2.2.2)) :: R) := fun H h => Pcs.unf (L1 := [pt w.1.2.1 (.dK (dF w.2.2.2.1)), pt w.1.2.2 (.dT (dM w.2.2.2.2))]) h
theorem wk_close {w : WK} {R : List SA} : Fit (pt w.1.2.1 (.dK (dF w.2.2.2.1)) :: pt w.1.2.2 (.dT (dM w.2.2.2.2)) :: R) (wkO w :: R) := fun H h => Pcs.fold (L1 := [pt w.1.2.1 (.dK (dF w.2.2.2.1)), pt w.1.2.2 (.dT (dM w.2.2.2.2))]) h
theorem dM_merge : ∀ (b a : MkD), mergeT (dM a) (dM b) = dM (mergeS a b)
  | [], a => rfl
  | p :: b, a => by
    show mergeT (putK (dM a) [Sum.inr p.1.1, Sum.inl p.1.2] (V.int p.2)) (dM b) = dM (mergeS (sput a p.1 p.2) b)
    have : putK (dM a) [Sum.inr p.1.1, Sum.inl p.1.2] (V.int p.2) = dM (sput a p.1 p.2) := by
      have inj : ∀ q : (Str × Int), ([Sum.inr q.1, Sum.inl q.2] : List Key) = [Sum.inr p.1.1, Sum.inl p.1.2] ↔ q = p.1 := fun q => by
        constructor
        · intro h
          simp only [List.cons.injEq, Sum.inr.injEq, Sum.inl.injEq, and_true] at h
          exact Prod.ext h.1 h.2
        · intro h; rw [h]
      have ea : ((dM a).any fun kv => decide (kv.1 = [Sum.inr p.1.1, Sum.inl p.1.2])) = a.any fun q => decide (q.1 = p.1) := by
        unfold dM
        rw [List.any_map]
        congr 1
        funext q
        show decide (([Sum.inr q.1.1, Sum.inl q.1.2] : List Key) = _) = _
        by_cases c : q.1 = p.1
        · rw [decide_eq_true c, decide_eq_true ((inj q.1).mpr c)]
        · rw [decide_eq_false c, decide_eq_false fun z => c ((inj q.1).mp z)]
      unfold putK sput
      rw [ea]
      by_cases h : (a.any fun q => decide (q.1 = p.1)) = true
      · rw [if_pos h, if_pos h]
        unfold dM
        rw [List.map_map, List.map_map]
        refine List.map_congr_left fun q _ => ?_
        show (if ([Sum.inr q.1.1, Sum.inl q.1.2] : List Key) = _ then _ else _) = _
        by_cases c : q.1 = p.1
        · rw [if_pos ((inj q.1).mpr c)]
          show _ = ([Sum.inr (if q.1 = p.1 then (q.1, p.2) else q).1.1, Sum.inl (if q.1 = p.1 then (q.1, p.2) else q).1.2], V.int (if q.1 = p.1 then (q.1, p.2) else q).2)
          rw [if_pos c]
        · rw [if_neg fun z => c ((inj q.1).mp z)]
          show _ = ([Sum.inr (if q.1 = p.1 then (q.1, p.2) else q).1.1, Sum.inl (if q.1 = p.1 then (q.1, p.2) else q).1.2], V.int (if q.1 = p.1 then (q.1, p.2) else q).2)
          rw [if_neg c]
      · rw [if_neg h, if_neg h]
        unfold dM
        rw [List.map_append]; rfl
    rw [this]
    exact dM_merge b _
theorem dM_len (a : MkD) : (dM a).length = a.length := by simp [dM]
section
variable {T : List (Addr × Str)} {X : Cx} {σ : St} {L R : List SA}
theorem pg_wk {ws : List WK} {es : List Expr} {k : Nat} {p : Pos} {q : WK} {Kk : St → List SA → Prop} (s : Sel L (TupsP wkT ws) R) (hq : q ∈ ws) (hc : X.calm = true) (hn : (assignEach es X.env).length = 3) (hst : (assignEach es X.env).findIdx? (·.1) = none) (h : GGs T X es [.int q.2.2.1, .ref q.1.2.1, .ref q.1.2.2] σ L Kk) : GG T X (.Tuple es k p) (.ref q.1.1) σ L Kk :=
  gg_tupF (xs := [.int q.2.2.1, .ref q.1.2.1, .ref q.1.2.2]) hc hn hst (fun H hs => tups_at s hq hs) h
end
abbrev eaW (Kf : PySem.W.Frag) (lp : Addr) (ys : List Int) (px mx : Addr) (wk : WKA) (o : Addr) (A : DA) (S : DS) (R : List SA) : List SA := pt lp (.lst (ys.map V.int)) :: pt px (.dK (dF wk.2.1)) :: pt mx (.dT (dM wk.2.2)) :: pt o (dpO Kf A S.ct) :: pt A.ll (.lst [.ref (A.lg false), .ref (A.lg true)]) :: pt A.wl (.lst [.ref (A.hd false), .ref (A.hd true)]) :: pt A.md (.dT (dM S.gm)) :: R
def paI (S : DS) (E : PR) (ys : List Int) (b : Bool) : List PR := if bI b ∈ ys then S.pa b ++ [E] else S.pa b
section
variable {T : List (Addr × Str)} {P : Program} {w : World} {Kf : PySem.W.Frag} {mg : Str → Option Value} {base : Heap} {f : Addr} {fd : FuncData}
def spEA (Kf : PySem.W.Frag) : SpL := fun vs L K kx => ∃ (o : Addr) (g kind : Str) (S : DS) (wk : WKA) (R : List SA), vs = [.ref o, .str g, .str kind] ∧ L = DeedsP Kf o S :: R ∧ DI S ∧ Bd 300 S ∧ sget S.wk g = some wk ∧ K .non (DeedsP Kf o (S.endW g kind wk (numT wk.1)) :: R)
theorem ok_ea (fx : Fx Kf mg) (hput : MeAt T P w Kf mg base 4 "Log" "put" (spPut Kf)) (F : FunD Kf "end_at" "Deeds.end_at" (defArgs s_Deeds_end_at) (defBody s_Deeds_end_at) (defScope s_Deeds_end_at) [] [] f fd) : FnOk P w Kf mg base (L2.CX P w) 5 f fd ["self", "giver", "kind"] (spOf T (spEA Kf)) := by
  refine def_in F sc_Deeds_end_at (fun vs L K kx h => ?_) (fun A outer s H E hr n vs L KK kx h hx σ hσ => ?_)
  · obtain ⟨o, g, kind, S, wk, R, rfl, _⟩ := h; rfl
  · obtain ⟨o, g, kind, S, wk, R, rfl, rfl, di, bd, hg, k⟩ := h
    obtain rfl : σ = [some (.ref o), some (.str g), some (.str kind), none, none, none, none, none, none] := hσ
    cases fx
    refine dp_in0 .here fun A ew => ?_
    obtain ⟨i, x, hi, hx2⟩ := ws_at ew hg
    obtain ⟨⟨tx, px, mx⟩, x0⟩ := x
    obtain rfl : x0 = (g, wk) := hx2
    have hxm := List.mem_of_getElem? hi
    have hget := ad_get di.nn ew hi rfl
    have fn : NdS wk.2.1 := (di.fs _ (mem_of_sget hg)).1
    have f2 : wk.2.1.length ≤ 2 := fs_two fn
    have hml : wk.2.2.length ≤ 1 := di.ml _ (mem_of_sget hg)
    have hle : wk.1 ≤ S.ct := di.le _ (mem_of_sget hg)
    have hnn : 0 ≤ wk.1 := bd.nn _ (mem_of_sget hg)
    have hct := bd.ct
    refine gss_cons ?_
    tm_at "go"
    refine gdpop1 (k := .inr g) (by tm_at "sRpl") rfl hget ?_
    rw [ad_drop]
    tm_at "go"
    refine pg_wk (q := ((tx, px, mx), (g, wk))) (by tm_at "sSel") hxm rfl rfl rfl ?_
    tm_at "gs"
    rw [erase_name di.nn ew hi rfl]
    refine GSs.ent (L' := ObD wkO A.ws :: pt o (dpO Kf A S.ct) :: pt A.ll (.lst [.ref (A.lg false), .ref (A.lg true)]) :: pt A.wl (.lst [.ref (A.hd false), .ref (A.hd true)]) :: pt A.td (.dK (toK (Sum.inr : Str → Key) V.int S.tu)) :: pt A.ad (.dK (adW (A.ws.take i ++ A.ws.drop (i + 1)))) :: TupsP wkT A.ws :: pt A.md (.dT (dM S.gm)) :: PartP Kf (A.lg false) (A.hd false) (S.pa false) :: PartP Kf (A.lg true) (A.hd true) (S.pa true) :: R) (by tm_at "ent") ?_
    refine GSs.ent (Fit.ent (obd_at hi)) ?_
    refine GSs.ent (Fit.ent wk_open) ?_
    show GSs T _ _ _ _ (pt px (.dK (dF wk.2.1)) :: pt mx (.dT (dM wk.2.2)) :: ObD wkO (A.ws.take i) :: ObD wkO (A.ws.drop (i + 1)) :: pt o (dpO Kf A S.ct) :: pt A.ll (.lst [.ref (A.lg false), .ref (A.lg true)]) :: pt A.wl (.lst [.ref (A.hd false), .ref (A.hd true)]) :: pt A.td (.dK (toK (Sum.inr : Str → Key) V.int S.tu)) :: pt A.ad (.dK (adW (A.ws.take i ++ A.ws.drop (i + 1)))) :: TupsP wkT A.ws :: pt A.md (.dT (dM S.gm)) :: PartP Kf (A.lg false) (A.hd false) (S.pa false) :: PartP Kf (A.lg true) (A.hd true) (S.pa true) :: R)
    generalize hQ : (ObD wkO (A.ws.take i) :: ObD wkO (A.ws.drop (i + 1)) :: pt A.td (.dK (toK (Sum.inr : Str → Key) V.int S.tu)) :: pt A.ad (.dK (adW (A.ws.take i ++ A.ws.drop (i + 1)))) :: TupsP wkT A.ws :: R) = Q
    refine GSs.ent (L' := pt px (.dK (dF wk.2.1)) :: pt mx (.dT (dM wk.2.2)) :: pt o (dpO Kf A S.ct) :: pt A.ll (.lst [.ref (A.lg false), .ref (A.lg true)]) :: pt A.wl (.lst [.ref (A.hd false), .ref (A.hd true)]) :: pt A.md (.dT (dM S.gm)) :: PartP Kf (A.lg false) (A.hd false) (S.pa false) :: PartP Kf (A.lg true) (A.hd true) (S.pa true) :: Q) (by subst hQ; tm_at "ent") ?_
    obtain ⟨ng, nl⟩ := num_good (k := wk.1) hnn (by omega)
    refine gss_cons ?_
    refine gs_forI (passes_of rfl) rfl (fun _ => rfl) (git_L ?_)
    tm_at "go"
    refine gc_sortedDI (ks := wk.2.1.map fun p => bI p.1) rfl (by tm_at "sSel") (by simp [toK]) (by rw [List.length_map]; omega) fun ys lp yp yo => ?_
    have ynd : ys.Nodup := by
      refine yp.nodup_iff.mpr ?_
      have h1 := fn
      unfold NdS at h1
      rw [List.nodup_iff_pairwise_ne, List.pairwise_map] at h1 ⊢
      exact h1.imp fun {a b} h z => h (bI_inj _ _ (congrArg Sum.inl z))
    have yin : ∀ y ∈ ys, ∃ b, y = bI b ∧ (sget wk.2.1 b).isSome = true := fun y hy => by
      obtain ⟨p, hp, rfl⟩ := List.mem_map.mp (yp.mem_iff.mp hy)
      exact ⟨p.1, rfl, by rw [sget_of_mem fn hp]; rfl⟩
    have yout : ∀ b, bI b ∈ ys ↔ (sget wk.2.1 b).isSome = true := fun b => by
      constructor
      · intro h
        obtain ⟨c, e, h2⟩ := yin _ h
        rw [bI_inj _ _ (congrArg Sum.inl e)]; exact h2
      · intro h
        obtain ⟨v, hv⟩ := Option.isSome_iff_exists.mp h
        exact yp.mem_iff.mpr (List.mem_map.mpr ⟨_, mem_of_sget hv, rfl⟩)
    have ylen : ys.length ≤ 2 := by rw [yp.length_eq, List.length_map]; exact f2
    refine ⟨lp, ys.map V.int, rfl, ⟨_, .here⟩, fun j σ' L' => ∃ (v6 v7 v8 : Option V), σ' = [some (.ref o), some (.str g), some (.str kind), some (.int wk.1), some (.ref px), some (.ref mx), v6, v7, v8] ∧
      L' = pt lp (.lst (ys.map V.int)) :: pt px (.dK (dF wk.2.1)) :: pt mx (.dT (dM wk.2.2)) :: pt o (dpO Kf A S.ct) :: pt A.ll (.lst [.ref (A.lg false), .ref (A.lg true)]) :: pt A.wl (.lst [.ref (A.hd false), .ref (A.hd true)]) :: pt A.md (.dT (dM S.gm)) :: PartP Kf (A.lg false) (A.hd false) (paI S (endE S wk.1 kind (numT wk.1)) (ys.take j) false) :: PartP Kf (A.lg true) (A.hd true) (paI S (endE S wk.1 kind (numT wk.1)) (ys.take j) true) :: Q, ?_, fun i σ' L' ⟨v6, v7, v8, _, e⟩ => by subst e; exact ⟨_, .here⟩, ?_, ?_⟩
    · refine Fits.mk ⟨_, _, _, rfl, rfl⟩ ?_
      rw [show ∀ b, paI S (endE S wk.1 kind (numT wk.1)) (ys.take 0) b = S.pa b from fun b => if_neg (by simp), show ∀ b, paI S (endE S wk.1 kind (numT wk.1)) (ys.take 0) b = S.pa b from fun b => if_neg (by simp)]
      tm_at "ent"
    · rintro j y Lx σ' L' hj ⟨hy, rfl⟩ ⟨v6, v7, v8, rfl, rfl⟩
      simp only [List.nil_append]
      rw [List.getElem?_map] at hy
      obtain ⟨yi, hyi, rfl⟩ : ∃ yi, ys[j]? = some yi ∧ y = V.int yi := by
        cases c : ys[j]? with
        | none => rw [c] at hy; cases hy
        | some yi => rw [c] at hy; cases hy; exact ⟨yi, rfl, rfl⟩
      obtain ⟨b, rfl, hb⟩ := yin yi (List.mem_of_getElem? hyi)
      have hnb : bI b ∉ ys.take j := fun z => by
        have h2 : (ys.take (j + 1)).Nodup := ynd.sublist (List.take_sublist _ _)
        rw [take_succ' hyi, List.nodup_append] at h2
        exact h2.2.2 _ z _ List.mem_cons_self rfl
      have hpb : paI S (endE S wk.1 kind (numT wk.1)) (ys.take j) b = S.pa b := if_neg hnb
      have hp2 : paI S (endE S wk.1 kind (numT wk.1)) (ys.take (j + 1)) b = S.pa b ++ [endE S wk.1 kind (numT wk.1)] := if_pos (by rw [take_succ' hyi]; simp)
      have hp3 : paI S (endE S wk.1 kind (numT wk.1)) (ys.take (j + 1)) (!b) = paI S (endE S wk.1 kind (numT wk.1)) (ys.take j) (!b) := by
        have hne : bI (!b) ≠ bI b := by cases b <;> decide
        have : (bI (!b) ∈ ys.take (j + 1)) ↔ (bI (!b) ∈ ys.take j) := by
          rw [take_succ' hyi, List.mem_append, List.mem_singleton]
          exact ⟨fun z => z.elim id fun z => absurd z hne, .inl⟩
        unfold paI
        simp only [this]
      have hlb := bd.pa b
      tm_at "gs"
      refine GSs.ent (Fit.ent (Fit.tl (Fit.tl (Fit.tl (Fit.tl (Fit.tl (Fit.tl (Fit.tl (two_parts (F := fun b => PartP Kf (A.lg b) (A.hd b) (paI S (endE S wk.1 kind (numT wk.1)) (ys.take j) b)) (b := b)))))))))) ?_
      rw [hpb]
      refine part_in (lg := A.lg b) (hd := A.hd b) (es := S.pa b) (by tm_at "sSel") fun qs hq => ?_
      have hql : qs.length = (S.pa b).length := by rw [← hq, List.length_map]
      have hzw : (wdQ qs).length < sizeLine := by rw [wdQ_len, sizeLine_eq]; omega
      refine gss_cons ?_
      tm_at "go"
      refine gi_lst (by tm_at "sSel") at_b ?_
      tm_at "go"
      refine gc_strI nl ?_
      tm_at "go"
      refine CallS.mk (S := spPut Kf) ⟨A.lg b, (S.pa b).length, 8, 0, ((S.pa b).length : Nat), S.ct, some endS, some (numT wk.1), rowsE (S.pa b), _, rfl, rfl, by simp, by unfold optGood; decide +kernel, ng, by omega, ?_⟩ Ent.refl
      tm_at "gs"
      refine gss_cons ?_
      tm_at "go"
      refine gi_lst (by tm_at "sSel") at_b ?_
      tm_at "gs"
      refine gss_cons ?_
      tm_at "go"
      rename_i tp
      refine ⟨_, Fit.ent ?_, _, _, _, rfl, rfl⟩
      refine Fit.trans (L1 := LogP Kf (A.lg b) ((S.pa b).length + 1) 8 0 (((S.pa b).length : Int) + 1) (rowsE (S.pa b) ++ [(((S.pa b).length : Int), S.ct, some endS, some (numT wk.1))]) :: pt (A.hd b) (.dK (putK (wdQ qs) (Sum.inl ((S.pa b).length : Int)) (.ref tp))) :: pt tp (.tup [.int wk.1, .str kind]) :: TupsP wtQ qs :: eaW Kf lp ys px mx wk o A S (PartP Kf (A.lg (!b)) (A.hd (!b)) (paI S (endE S wk.1 kind (numT wk.1)) (ys.take j) (!b)) :: Q)) (by tm_at "fit") ?_
      refine Fit.trans (part_snoc (e := endE S wk.1 kind (numT wk.1)) hq rfl) ?_
      rw [← hp2, ← hp3]
      refine Fit.trans (L1 := eaW Kf lp ys px mx wk o A S (PartP Kf (A.lg b) (A.hd b) (paI S (endE S wk.1 kind (numT wk.1)) (ys.take (j + 1)) b) :: PartP Kf (A.lg (!b)) (A.hd (!b)) (paI S (endE S wk.1 kind (numT wk.1)) (ys.take (j + 1)) (!b)) :: Q)) (by tm_at "fit") ?_
      exact Fit.tl (Fit.tl (Fit.tl (Fit.tl (Fit.tl (Fit.tl (Fit.tl (two_parts' (F := fun b => PartP Kf (A.lg b) (A.hd b) (paI S (endE S wk.1 kind (numT wk.1)) (ys.take (j + 1)) b)) (b := b))))))))
    · rintro σ' L' ⟨v6, v7, v8, rfl, rfl⟩
      have hfin : ∀ b, paI S (endE S wk.1 kind (numT wk.1)) (ys.take (ys.map V.int).length) b = if (sget wk.2.1 b).isSome = true then S.pa b ++ [endE S wk.1 kind (numT wk.1)] else S.pa b := fun b => by
        rw [List.length_map, List.take_length]
        unfold paI
        simp only [yout b]
      rw [hfin, hfin]
      have hz1 := bd.gm
      have ewk : (A.ws.take i ++ A.ws.drop (i + 1)).map (·.2) = (S.endW g kind wk (numT wk.1)).wk := by
        rw [← erase_name di.nn ew hi rfl]
        show _ = S.wk.filter _
        rw [← ew, List.filter_map]; rfl
      refine gss_cons ?_
      tm_at "go"
      tm_at "if"
      · rename_i ck
        refine gss_cons ?_
        refine gs_expr rfl ?_
        refine ge_updT hr rfl rfl rfl rfl rfl ?_
        tm_at "go"
        refine ⟨⟨A.md, rfl, fun H hs => ⟨_, hs.at (by tm_at "sSel")⟩⟩, ?_⟩
        tm_at "go"
        refine ⟨A.md, mx, dM S.gm, dM wk.2.2, _, _, rfl, rfl, by tm_at "sTk", by tm_at "sRpl", .inr (by rw [dM_len]; exact hml), by rw [dM_len, dM_len, sizeLine_eq]; omega, ?_⟩
        rw [dM_merge]
        tm_at "go"
        refine Clo.mk k (Fit.ent (dp_want0 (A := { A with ws := A.ws.take i ++ A.ws.drop (i + 1) }) ewk ?_))
        have egm : (S.endW g kind wk (numT wk.1)).gm = mergeS S.gm wk.2.2 := if_pos ck
        show Fit _ (pt o (dpO Kf A S.ct) :: pt A.ll (.lst [.ref (A.lg false), .ref (A.lg true)]) :: pt A.wl (.lst [.ref (A.hd false), .ref (A.hd true)]) :: pt A.td (.dK (toK (Sum.inr : Str → Key) V.int S.tu)) :: pt A.ad (.dK (adW (A.ws.take i ++ A.ws.drop (i + 1)))) :: TupsP wkT (A.ws.take i ++ A.ws.drop (i + 1)) :: ObD wkO (A.ws.take i ++ A.ws.drop (i + 1)) :: pt A.md (.dT (dM (S.endW g kind wk (numT wk.1)).gm)) :: PartP Kf (A.lg false) (A.hd false) (if (sget wk.2.1 false).isSome = true then S.pa false ++ [endE S wk.1 kind (numT wk.1)] else S.pa false) :: PartP Kf (A.lg true) (A.hd true) (if (sget wk.2.1 true).isSome = true then S.pa true ++ [endE S wk.1 kind (numT wk.1)] else S.pa true) :: R)
        rw [egm]
        subst hQ
        generalize PartP Kf (A.lg false) (A.hd false) _ = P0
        generalize PartP Kf (A.lg true) (A.hd true) _ = P1
        refine Fit.trans (L1 := ObD wkO (A.ws.take i) :: ObD wkO (A.ws.drop (i + 1)) :: TupsP wkT A.ws :: pt o (dpO Kf A S.ct) :: pt A.ll (.lst [.ref (A.lg false), .ref (A.lg true)]) :: pt A.wl (.lst [.ref (A.hd false), .ref (A.hd true)]) :: pt A.td (.dK (toK (Sum.inr : Str → Key) V.int S.tu)) :: pt A.ad (.dK (adW (A.ws.take i ++ A.ws.drop (i + 1)))) :: pt A.md (.dT (dM (mergeS S.gm wk.2.2))) :: P0 :: P1 :: R) (by tm_at "fit") ?_
        refine Fit.trans obd_app' ?_
        refine Fit.trans (L1 := TupsP wkT A.ws :: ObD wkO (A.ws.take i ++ A.ws.drop (i + 1)) :: pt o (dpO Kf A S.ct) :: pt A.ll (.lst [.ref (A.lg false), .ref (A.lg true)]) :: pt A.wl (.lst [.ref (A.hd false), .ref (A.hd true)]) :: pt A.td (.dK (toK (Sum.inr : Str → Key) V.int S.tu)) :: pt A.ad (.dK (adW (A.ws.take i ++ A.ws.drop (i + 1)))) :: pt A.md (.dT (dM (mergeS S.gm wk.2.2))) :: P0 :: P1 :: R) (by tm_at "fit") ?_
        refine Fit.trans (Fit.cons .here (tups_sub (qs := A.ws.take i ++ A.ws.drop (i + 1)) fun q hq => (List.mem_append.mp hq).elim (fun z => List.mem_of_mem_take z) (fun z => List.mem_of_mem_drop z)) Fit.refl) ?_
        tm_at "fit"
      · rename_i ck
        tm_at "go"
        refine Clo.mk k (Fit.ent (dp_want0 (A := { A with ws := A.ws.take i ++ A.ws.drop (i + 1) }) ewk ?_))
        have egm : (S.endW g kind wk (numT wk.1)).gm = S.gm := if_neg ck
        show Fit _ (pt o (dpO Kf A S.ct) :: pt A.ll (.lst [.ref (A.lg false), .ref (A.lg true)]) :: pt A.wl (.lst [.ref (A.hd false), .ref (A.hd true)]) :: pt A.td (.dK (toK (Sum.inr : Str → Key) V.int S.tu)) :: pt A.ad (.dK (adW (A.ws.take i ++ A.ws.drop (i + 1)))) :: TupsP wkT (A.ws.take i ++ A.ws.drop (i + 1)) :: ObD wkO (A.ws.take i ++ A.ws.drop (i + 1)) :: pt A.md (.dT (dM (S.endW g kind wk (numT wk.1)).gm)) :: PartP Kf (A.lg false) (A.hd false) (if (sget wk.2.1 false).isSome = true then S.pa false ++ [endE S wk.1 kind (numT wk.1)] else S.pa false) :: PartP Kf (A.lg true) (A.hd true) (if (sget wk.2.1 true).isSome = true then S.pa true ++ [endE S wk.1 kind (numT wk.1)] else S.pa true) :: R)
        rw [egm]
        subst hQ
        generalize PartP Kf (A.lg false) (A.hd false) _ = P0
        generalize PartP Kf (A.lg true) (A.hd true) _ = P1
        refine Fit.trans (L1 := ObD wkO (A.ws.take i) :: ObD wkO (A.ws.drop (i + 1)) :: TupsP wkT A.ws :: pt o (dpO Kf A S.ct) :: pt A.ll (.lst [.ref (A.lg false), .ref (A.lg true)]) :: pt A.wl (.lst [.ref (A.hd false), .ref (A.hd true)]) :: pt A.td (.dK (toK (Sum.inr : Str → Key) V.int S.tu)) :: pt A.ad (.dK (adW (A.ws.take i ++ A.ws.drop (i + 1)))) :: pt A.md (.dT (dM S.gm)) :: P0 :: P1 :: R) (by tm_at "fit") ?_
        refine Fit.trans obd_app' ?_
        refine Fit.trans (L1 := TupsP wkT A.ws :: ObD wkO (A.ws.take i ++ A.ws.drop (i + 1)) :: pt o (dpO Kf A S.ct) :: pt A.ll (.lst [.ref (A.lg false), .ref (A.lg true)]) :: pt A.wl (.lst [.ref (A.hd false), .ref (A.hd true)]) :: pt A.td (.dK (toK (Sum.inr : Str → Key) V.int S.tu)) :: pt A.ad (.dK (adW (A.ws.take i ++ A.ws.drop (i + 1)))) :: pt A.md (.dT (dM S.gm)) :: P0 :: P1 :: R) (by tm_at "fit") ?_
        refine Fit.trans (Fit.cons .here (tups_sub (qs := A.ws.take i ++ A.ws.drop (i + 1)) fun q hq => (List.mem_append.mp hq).elim (fun z => List.mem_of_mem_take z) (fun z => List.mem_of_mem_drop z)) Fit.refl) ?_
        tm_at "fit"
end
local macro_rules | `(tactic| tm_at "gF") => `(tactic| ((guard_target = (IsIns _ _ _ _ _ ∧ _)); (with_reducible refine And.intro ?hh ?_); (case hh => exact ins_dp (by tm_at "sSel") (fun _ _ _ _ _ _ => by tm_at "sNoF") (by rfl))))
theorem tu_get {S : DS} {g : Str} : valV (toK (Sum.inr : Str → Key) V.int S.tu) (Sum.inr g) = (sget S.tu g).map V.int := toK_get inr_inj _ _
theorem ad_snoc {S : DS} {A : DA} {g : Str} (e : A.ws.map (·.2) = S.wk) (h : sget S.wk g = none) (x : WK) (hx : x.2.1 = g) : putK (adW A.ws) (Sum.inr g) (.ref x.1.1) = adW (A.ws ++ [x]) := by
  unfold putK
  rw [if_neg]
  · unfold adW toK
    rw [List.map_append, List.map_append]
    subst hx
    rfl
  · rw [valV_any, ad_none e h]; simp
theorem ws_put {A : DA} {S : DS} {g : Str} {i : Nat} {x : WK} {f : WK0 → WK0} (nd : NdS S.wk) (e : A.ws.map (·.2) = S.wk) (hi : A.ws[i]? = some x) (hx : x.2.1 = g) :
    (A.ws.set i (x.1, f x.2)).map (·.2) = S.wk.map fun y => if y.1 = g then f y else y := by
  rw [← e, List.map_set, List.map_map]
  refine List.ext_getElem? fun j => ?_
  have hlt := lt_of_get hi
  rw [List.getElem?_map]
  by_cases c : j = i
  · subst c
    rw [List.getElem?_set_self (by rw [List.length_map]; exact hlt), hi]
    show some (f x.2) = some (if x.2.1 = g then f x.2 else x.2)
    rw [if_pos hx]
  · rw [List.getElem?_set_ne (fun z => c z.symm), List.getElem?_map]
    cases hj : A.ws[j]? with
    | none => rfl
    | some y =>
      show some y.2 = some (if y.2.1 = g then f y.2 else y.2)
      rw [if_neg]
      intro z
      have nd1 : (A.ws.map fun w => w.2.1).Nodup := by
        unfold NdS at nd
        rw [← e, List.map_map] at nd
        exact nd
      have h1 : (A.ws.map fun w => w.2.1)[j]? = some g := by rw [List.getElem?_map, hj]; exact congrArg some z
      have h2 : (A.ws.map fun w => w.2.1)[i]? = some g := by rw [List.getElem?_map, hi]; exact congrArg some hx
      exact c ((List.getElem?_inj (by rw [List.length_map]; exact lt_of_get hj) nd1).mp (by rw [h1, h2]))
section
variable {T : List (Addr × Str)} {P : Program} {w : World} {Kf : PySem.W.Frag} {mg : Str → Option Value} {base : Heap} {f : Addr} {fd : FuncData}
def spCK (Kf : PySem.W.Frag) : SpL := fun vs L K kx => ∃ (o : Addr) (g : Str) (t t0 : Int) (S : DS) (R : List SA), vs = [.ref o, .str g, .int t] ∧ L = DeedsP Kf o S :: R ∧ sget S.tu g = some t0 ∧ (t0 = t → K .non L) ∧ (t0 ≠ t → kx (FE Kf) none L)
theorem ok_ck (fx : Fx Kf mg) (F : FunD Kf "check" "Deeds.check" (defArgs s_Deeds_check) (defBody s_Deeds_check) (defScope s_Deeds_check) [] [] f fd) : FnOk P w Kf mg base (L2.CX P w) 1 f fd ["self", "giver", "turn"] (spOf T (spCK Kf)) := by
  refine def_in F sc_Deeds_check (fun vs L K kx h => ?_) (fun A outer s H E hr n vs L KK kx h hx σ hσ => ?_)
  · obtain ⟨o, g, t, t0, S, R, rfl, _⟩ := h; rfl
  · obtain ⟨o, g, t, t0, S, R, rfl, rfl, ht, k1, k2⟩ := h
    obtain rfl : σ = [some (.ref o), some (.str g), some (.int t)] := hσ
    cases fx
    refine dp_in0 .here fun A ew => ?_
    refine gss_cons ?_
    tm_at "go"
    rw [tu_get, ht]
    show GOp T _ _ (V.int t0) _ _ _
    tm_at "go"
    tm_at "if"
    · rename_i c
      tm_at "go"
      refine gs_raise n (by tm_at "sKd") rfl (by assumption) hx rfl ?_
      exact Clo.mk (k2 c) (Fit.ent (dp_want0 ew (by tm_at "fit")))
    · rename_i c
      tm_at "go"
      exact Clo.mk (k1 c) (Fit.ent (dp_want0 ew (by tm_at "fit")))
def spBT (Kf : PySem.W.Frag) : SpL := fun vs L K kx => ∃ (o : Addr) (g : Str) (S : DS) (R : List SA), vs = [.ref o, .str g] ∧ L = DeedsP Kf o S :: R ∧ DI S ∧ Bd 299 S ∧ K (.int ((sget S.tu g).getD 0 + 1)) (DeedsP Kf o (S.turn g) :: R)
theorem ok_bt (fx : Fx Kf mg) (hea : MeAt T P w Kf mg base 5 "Deeds" "end_at" (spEA Kf)) (F : FunD Kf "begin_turn" "Deeds.begin_turn" (defArgs s_Deeds_begin_turn) (defBody s_Deeds_begin_turn) (defScope s_Deeds_begin_turn) [] [] f fd) : FnOk P w Kf mg base (L2.CX P w) 6 f fd ["self", "giver"] (spOf T (spBT Kf)) := by
  refine def_in F sc_Deeds_begin_turn (fun vs L K kx h => ?_) (fun A outer s H E hr n vs L KK kx h hx σ hσ => ?_)
  · obtain ⟨o, g, S, R, rfl, _⟩ := h; rfl
  · obtain ⟨o, g, S, R, rfl, rfl, di, bd, k⟩ := h
    obtain rfl : σ = [some (.ref o), some (.str g)] := hσ
    cases fx
    refine dp_in0 .here fun A ew => ?_
    have hz : (toK (Sum.inr : Str → Key) V.int S.tu).length < sizeLine := by have := bd.tu; simp [toK, sizeLine_eq]; omega
    refine gss_cons ?_
    tm_at "go"
    have e0 : (valV (toK (Sum.inr : Str → Key) V.int S.tu) (Sum.inr g)).getD (V.int 0) = V.int ((sget S.tu g).getD 0) := by
      rw [tu_get]; cases sget S.tu g <;> rfl
    rw [e0]
    tm_at "gs"
    rw [toK_put inr_inj]
    have e1 : sget (S.tn g).tu g = some ((sget S.tu g).getD 0 + 1) := by
      show sget (sput S.tu g _) g = _
      rw [sget_put, if_pos rfl]
    have bd2 : Bd 300 (S.tn g) := bd.tn g
    refine GSs.ent (L' := DeedsP Kf o (S.tn g) :: R) (Fit.ent (dp_want0 (S := S.tn g) ew (show Fit _ (dpX Kf o A (sput S.tu g ((sget S.tu g).getD 0 + 1)) S.ct S.gm (S.pa false) (S.pa true) R) by tm_at "fit"))) ?_
    cases hw : sget S.wk g with
    | none =>
      have et : S.turn g = S.tn g := by unfold DS.turn; rw [hw]
      rw [et] at k
      refine dp_in0 .here fun A ew => ?_
      refine gss_cons ?_
      tm_at "go"
      rw [ad_none (S := S.tn g) ew hw]
      refine iteNone ?_
      tm_at "go"
      refine gi_d hr (v := .int ((sget S.tu g).getD 0 + 1)) ?_ ?_
      · have := tu_get (S := S.tn g) (g := g)
        rw [e1] at this
        show DFact _ _ _ _ (some (V.int ((sget S.tu g).getD 0 + 1)))
        rw [show some (V.int ((sget S.tu g).getD 0 + 1)) = valV (toK (Sum.inr : Str → Key) V.int (S.tn g).tu) (Sum.inr g) from this.symm]
        tm_at "sDF"
      exact Clo.mk k (Fit.ent (dp_want0 ew (by tm_at "fit")))
    | some wk =>
      have et : S.turn g = (S.tn g).endW g leftS wk (numT wk.1) := by unfold DS.turn; rw [hw]
      rw [et] at k
      refine dp_in0 .here fun A ew => ?_
      obtain ⟨i, x, hi, hx2⟩ := ws_at (S := S.tn g) ew hw
      have hget := ad_get (S := S.tn g) di.nn ew hi hx2
      refine gss_cons ?_
      tm_at "go"
      rw [hget]
      refine iteSome ?_
      refine gss_cons ?_
      tm_at "go"
      refine CallS.mk (S := spEA Kf) ⟨o, g, leftS, S.tn g, wk, R, rfl, rfl, di.tu _, bd2, hw, ?_⟩ (Fit.ent (dp_want0 (S := S.tn g) ew (by tm_at "fit")))
      tm_at "gs"
      refine dp_in0 .here fun A ew => ?_
      refine gss_cons ?_
      tm_at "go"
      refine gi_d hr (v := .int ((sget S.tu g).getD 0 + 1)) ?_ ?_
      · have := tu_get (S := (S.tn g).endW g leftS wk (numT wk.1)) (g := g)
        rw [show sget ((S.tn g).endW g leftS wk (numT wk.1)).tu g = some ((sget S.tu g).getD 0 + 1) from e1] at this
        show DFact _ _ _ _ (some (V.int ((sget S.tu g).getD 0 + 1)))
        rw [show some (V.int ((sget S.tu g).getD 0 + 1)) = valV (toK (Sum.inr : Str → Key) V.int ((S.tn g).endW g leftS wk (numT wk.1)).tu) (Sum.inr g) from this.symm]
        tm_at "sDF"
      exact Clo.mk k (Fit.ent (dp_want0 ew (by tm_at "fit")))
end
local macro_rules | `(tactic| tm_at "gF") => `(tactic| ((guard_target = (IsIns _ _ _ _ _ ∧ _)); (with_reducible refine And.intro ?hh ?_); (case hh => exact ins_dp (by tm_at "sSel") (fun _ _ _ _ _ _ => by tm_at "sNoF") (by rfl))))
section
local macro_rules | `(tactic| tm_at "gE") => `(tactic| ((guard_target = GE _ _ (Expr.Dict [] [] _) _ _ _); (refine Stop.mk ?_)))
variable {T : List (Addr × Str)} {P : Program} {w : World} {Kf : PySem.W.Frag} {mg : Str → Option Value} {base : Heap} {f : Addr} {fd : FuncData}
theorem call_ck {o : Addr} {g : Str} {t : Int} {S : DS} {L R : List SA} {K : GK} {kx : KX} (e : Ent T L (DeedsP Kf o S :: R)) (ht : sget S.tu g = some t) (k : K .non (DeedsP Kf o S :: R)) : spE T (spCK Kf) [.ref o, .str g, .int t] L K kx :=
  CallS.mk ⟨o, g, t, t, S, R, rfl, rfl, ht, fun _ => k, fun h => absurd rfl h⟩ e
def spBG (Kf : PySem.W.Frag) : SpL := fun vs L K kx => ∃ (o : Addr) (g : Str) (t : Int) (S : DS) (R : List SA), vs = [.ref o, .str g, .int t] ∧ L = DeedsP Kf o S :: R ∧ Bd 299 S ∧ NdS S.wk ∧ sget S.tu g = some t ∧ (sget S.wk g = none → K .non (DeedsP Kf o (S.begin g) :: R)) ∧ (∀ x, sget S.wk g = some x → kx (ND Kf) none L)
theorem ok_bg (fx : Fx Kf mg) (hck : MeAt T P w Kf mg base 1 "Deeds" "check" (spCK Kf)) (F : FunD Kf "begin" "Deeds.begin" (defArgs s_Deeds_begin) (defBody s_Deeds_begin) (defScope s_Deeds_begin) [] [] f fd) : FnOk P w Kf mg base (L2.CX P w) 2 f fd ["self", "giver", "turn"] (spOf T (spBG Kf)) := by
  refine def_in F sc_Deeds_begin (fun vs L K kx h => ?_) (fun A outer s H E hr n vs L KK kx h hx σ hσ => ?_)
  · obtain ⟨o, g, t, S, R, rfl, _⟩ := h; rfl
  · obtain ⟨o, g, t, S, R, rfl, rfl, bd, nd, ht, k1, k2⟩ := h
    obtain rfl : σ = [some (.ref o), some (.str g), some (.int t)] := hσ
    cases fx
    refine gss_cons ?_
    tm_at "go"
    refine call_ck Ent.refl ht ?_
    tm_at "gs"
    refine dp_in0 .here fun A ew => ?_
    refine gss_cons ?_
    tm_at "go"
    cases hw : sget S.wk g with
    | some x =>
      obtain ⟨i, y, hi, hy2⟩ := ws_at ew hw
      rw [ad_get nd ew hi hy2]
      refine iteSome ?_
      tm_at "go"
      refine gs_raise n (by tm_at "sKd") rfl (by assumption) hx rfl ?_
      exact Clo.mk (k2 x hw) (Fit.ent (dp_want0 ew (by tm_at "fit")))
    | none =>
      rw [ad_none ew hw]
      refine iteNone ?_
      have hz : (adW A.ws).length < sizeLine := by
        have h1 : A.ws.length = S.wk.length := by rw [← ew, List.length_map]
        have := bd.wk
        simp [toK, sizeLine_eq]; omega
      tm_at "gs"
      refine gss_cons ?_
      tm_at "gs"
      refine gss_cons ?_
      refine gs_asg rfl rfl rfl ?_
      tm_at "go"
      refine Stop.of (ge_dnew fun pd => ?_)
      tm_at "go"
      refine Stop.of (ge_dnewT fun md => ?_)
      tm_at "go"
      rename_i tp
      rw [ad_snoc ew hw ((tp, pd, md), (g, S.ct + 1, [], [])) rfl]
      have ew2 : (A.ws ++ [(((tp, pd, md), (g, S.ct + 1, [], [])) : WK)]).map (·.2) = (S.begin g).wk := by rw [List.map_append, ew]; rfl
      refine Clo.mk (k1 hw) (Fit.ent (dp_want0 (S := S.begin g) (A := { A with ws := A.ws ++ [((tp, pd, md), (g, S.ct + 1, [], []))] }) ew2 ?_))
      show Fit _ (dpX Kf o { A with ws := A.ws ++ [((tp, pd, md), (g, S.ct + 1, [], []))] } S.tu (S.ct + 1) S.gm (S.pa false) (S.pa true) R)
      refine Fit.trans (tups_snoc (F := wkT) (p := (((tp, pd, md), (g, S.ct + 1, [], [])) : WK)) (ps := A.ws) (by tm_at "sSel") (show Sel _ (pt tp (.tup [.int (S.ct + 1), .ref pd, .ref md])) _ by tm_at "sSel") rfl) ?_
      refine Fit.trans (L1 := pt pd (.dK []) :: pt md (.dT []) :: ObD wkO A.ws :: TupsP wkT (A.ws ++ [((tp, pd, md), (g, S.ct + 1, [], []))]) :: pt o (dpO Kf A (S.ct + 1)) :: pt A.ll (.lst [.ref (A.lg false), .ref (A.lg true)]) :: pt A.wl (.lst [.ref (A.hd false), .ref (A.hd true)]) :: pt A.td (.dK (toK (Sum.inr : Str → Key) V.int S.tu)) :: pt A.ad (.dK (adW (A.ws ++ [((tp, pd, md), (g, S.ct + 1, [], []))]))) :: pt A.md (.dT (dM S.gm)) :: PartP Kf (A.lg false) (A.hd false) (S.pa false) :: PartP Kf (A.lg true) (A.hd true) (S.pa true) :: R) (by tm_at "fit") ?_
      refine Fit.trans (wk_close (w := (((tp, pd, md), (g, S.ct + 1, [], [])) : WK))) ?_
      refine Fit.trans obd_snoc ?_
      tm_at "fit"
def spFN (Kf : PySem.W.Frag) : SpL := fun vs L K kx => ∃ (o : Addr) (g kind : Str) (t : Int) (S : DS) (R : List SA), vs = [.ref o, .str g, .int t, .str kind] ∧ L = DeedsP Kf o S :: R ∧ DI S ∧ Bd 300 S ∧ sget S.tu g = some t ∧ (kind = keptS ∨ kind = leftS) ∧ (sget S.wk g = none → kx (ND Kf) none L) ∧ (∀ x, sget S.wk g = some x → K .non (DeedsP Kf o (S.endW g kind x (numT x.1)) :: R))
theorem ok_fn (fx : Fx Kf mg) (hck : MeAt T P w Kf mg base 1 "Deeds" "check" (spCK Kf)) (hea : MeAt T P w Kf mg base 5 "Deeds" "end_at" (spEA Kf)) (F : FunD Kf "finish" "Deeds.finish" (defArgs s_Deeds_finish) (defBody s_Deeds_finish) (defScope s_Deeds_finish) [] [] f fd) : FnOk P w Kf mg base (L2.CX P w) 6 f fd ["self", "giver", "turn", "kind"] (spOf T (spFN Kf)) := by
  refine def_in F sc_Deeds_finish (fun vs L K kx h => ?_) (fun A outer s H E hr n vs L KK kx h hx σ hσ => ?_)
  · obtain ⟨o, g, kind, t, S, R, rfl, _⟩ := h; rfl
  · obtain ⟨o, g, kind, t, S, R, rfl, rfl, di, bd, ht, hk, k1, k2⟩ := h
    obtain rfl : σ = [some (.ref o), some (.str g), some (.int t), some (.str kind)] := hσ
    cases fx
    refine gss_cons ?_
    tm_at "go"
    refine call_ck Ent.refl ht ?_
    tm_at "gs"
    refine dp_in0 .here fun A ew => ?_
    refine gss_cons ?_
    tm_at "go"
    cases hw : sget S.wk g with
    | none =>
      rw [ad_none ew hw]
      refine iteNNone ?_
      tm_at "go"
      refine gs_raise n (by tm_at "sKd") rfl (by assumption) hx rfl ?_
      exact Clo.mk (k1 hw) (Fit.ent (dp_want0 ew (by tm_at "fit")))
    | some x =>
      obtain ⟨i, y, hi, hy2⟩ := ws_at ew hw
      rw [ad_get di.nn ew hi hy2]
      refine iteNSome ?_
      tm_at "go"
      refine go_ninF (b := true) (by tm_at "sSel") rfl rfl ?_ ?_
      · rw [show [V.str (Str.ofString "kept"), V.str (Str.ofString "left")] = [keptS, leftS].map V.str from rfl, inV_str]
        exact decide_eq_true (by rcases hk with e | e <;> rw [e] <;> simp)
      tm_at "gs"
      refine gss_cons ?_
      tm_at "go"
      refine CallS.mk (S := spEA Kf) ⟨o, g, kind, S, x, R, rfl, rfl, di, bd, hw, ?_⟩ (Fit.ent (dp_want0 ew (by tm_at "fit")))
      tm_at "go"
      exact Clo.id (k2 x hw)
end
local macro_rules | `(tactic| tm_at "gF") => `(tactic| ((guard_target = (IsIns _ _ _ _ _ ∧ _)); (with_reducible refine And.intro ?hh ?_); (case hh => exact ins_dp (by tm_at "sSel") (fun _ _ _ _ _ _ => by tm_at "sNoF") (by rfl))))
section
variable {T : List (Addr × Str)} {X : Cx} {σ : St} {L R : List SA} {ws : List WK} {q : WK} {Kk : GK}
theorem gi_wk0 (s : Sel L (TupsP wkT ws) R) (hq : q ∈ ws) (h : Kk (.int q.2.2.1) L) : GIx T X (.ref q.1.1) (.int 0) L Kk := gi_of (fun H hs => tups_at s hq hs) rfl h
theorem gi_wk1 (s : Sel L (TupsP wkT ws) R) (hq : q ∈ ws) (h : Kk (.ref q.1.2.1) L) : GIx T X (.ref q.1.1) (.int 1) L Kk := gi_of (fun H hs => tups_at s hq hs) rfl h
theorem gi_wk2 (s : Sel L (TupsP wkT ws) R) (hq : q ∈ ws) (h : Kk (.ref q.1.2.2) L) : GIx T X (.ref q.1.1) (.int 2) L Kk := gi_of (fun H hs => tups_at s hq hs) rfl h
end
theorem wput_none {w : List WK0} {g : Str} {b : Bool} {m : Int} (h : sget w g = none) : wput w g b m = w := by
  rw [sget_none_iff] at h
  unfold wput
  refine (List.map_congr_left (g := id) fun x hx => ?_).trans (List.map_id _)
  rw [if_neg (h x hx)]; rfl
theorem ad_set {ws : List WK} {i : Nat} {x : WK} {y : WK0} (hi : ws[i]? = some x) (hn : y.1 = x.2.1) : adW (ws.set i (x.1, y)) = adW ws := by
  unfold adW
  congr 1
  rw [List.map_set]
  exact set_self (by rw [List.getElem?_map, hi]; exact congrArg some (Prod.ext hn.symm rfl))
theorem tup_set {ws : List WK} {i : Nat} {x : WK} {y : WK0} (hi : ws[i]? = some x) (hn : y.2.1 = x.2.2.1) : (ws.set i (x.1, y)).map wkT = ws.map wkT := by
  rw [List.map_set]
  refine set_self ?_
  rw [List.getElem?_map, hi]
  show some (x.1.1, [V.int x.2.2.1, V.ref x.1.2.1, V.ref x.1.2.2]) = some (x.1.1, [V.int y.2.1, V.ref x.1.2.1, V.ref x.1.2.2])
  rw [hn]
abbrev ptZ (Kf : PySem.W.Frag) (o : Addr) (A : DA) (S : DS) (b : Bool) (R : List SA) : List SA := pt o (dpO Kf A S.ct) :: pt A.ll (.lst [.ref (A.lg false), .ref (A.lg true)]) :: pt A.wl (.lst [.ref (A.hd false), .ref (A.hd true)]) :: pt A.td (.dK (toK (Sum.inr : Str → Key) V.int S.tu)) :: pt A.ad (.dK (adW A.ws)) :: TupsP wkT A.ws :: pt A.md (.dT (dM S.gm)) :: PartP Kf (A.lg (!b)) (A.hd (!b)) (S.pa (!b)) :: R
abbrev ptW (Kf : PySem.W.Frag) (A : DA) (S : DS) (b : Bool) (key val : Str) (qs : List EQ) (tp : Addr) (num : Int) (R : List SA) : List SA := LogP Kf (A.lg b) ((S.pa b).length + 1) 8 0 (((S.pa b).length : Int) + 1) (rowsE (S.pa b) ++ [(((S.pa b).length : Int), S.ct, some key, some val)]) :: pt (A.hd b) (.dK (putK (wdQ qs) (Sum.inl ((S.pa b).length : Int)) (.ref tp))) :: pt tp (.tup [V.int num, .str rowS]) :: TupsP wtQ qs :: R
section
variable {T : List (Addr × Str)} {P : Program} {w : World} {Kf : PySem.W.Frag} {mg : Str → Option Value} {base : Heap} {f : Addr} {fd : FuncData}
def spPT (Kf : PySem.W.Frag) : SpL := fun vs L K kx => ∃ (o : Addr) (g key val : Str) (t t0 : Int) (b : Bool) (S : DS) (R : List SA), vs = [.ref o, .str g, .int t, .int (bI b), .str key, .str val] ∧ L = DeedsP Kf o S :: R ∧ DI S ∧ Bd 299 S ∧ strGood key ∧ strGood val ∧ sget S.tu g = some t0 ∧ (t0 = t → K (.int ((S.pa b).length : Nat)) (DeedsP Kf o (S.put g b key val) :: R)) ∧ (t0 ≠ t → kx (FE Kf) none L)
theorem ok_pt8 (fx : Fx Kf mg) (hck : MeAt T P w Kf mg base 1 "Deeds" "check" (spCK Kf)) (hput : MeAt T P w Kf mg base 4 "Log" "put" (spPut Kf)) (F : FunD Kf "put" "Deeds.put" (defArgs s_Deeds_put) (defBody s_Deeds_put) (defScope s_Deeds_put) [] [] f fd) : FnOk P w Kf mg base (L2.CX P w) 5 f fd ["self", "giver", "turn", "part", "key", "value"] (spOf T (spPT Kf)) := by
  refine def_in F sc_Deeds_put (fun vs L K kx h => ?_) (fun A outer s H E hr n vs L KK kx h hx σ hσ => ?_)
  · obtain ⟨o, g, key, val, t, t0, b, S, R, rfl, _⟩ := h; rfl
  · obtain ⟨o, g, key, val, t, t0, b, S, R, rfl, rfl, di, bd, gk, gv, ht, k1, k2⟩ := h
    obtain rfl : σ = [some (.ref o), some (.str g), some (.int t), some (.int (bI b)), some (.str key), some (.str val), none, none, none] := hσ
    cases fx
    have hlb := bd.pa b
    refine gss_cons ?_
    tm_at "go"
    refine CallS.mk (S := spCK Kf) ⟨o, g, t, t0, S, R, rfl, rfl, ht, fun e => ?_, fun e => Clo.id (k2 e)⟩ Ent.refl
    have k := k1 e
    tm_at "gs"
    refine dp_in b .here fun A ew => ?_
    refine part_in (lg := A.lg b) (hd := A.hd b) (es := S.pa b) (by tm_at "sSel") fun qs hq => ?_
    have hql : qs.length = (S.pa b).length := by rw [← hq, List.length_map]
    have hzw : (wdQ qs).length < sizeLine := by rw [wdQ_len, sizeLine_eq]; omega
    cases hw : sget S.wk g with
    | none =>
      refine gss_cons ?_
      tm_at "gs"
      rw [ad_none ew hw]
      show GSs T _ _ _ [some (.ref o), some (.str g), some (.int t), some (.int (bI b)), some (.str key), some (.str val), some V.non, none, none] _
      refine gss_cons ?_
      tm_at "go"
      refine gi_lst (by tm_at "sSel") at_b ?_
      tm_at "go"
      refine CallS.mk (S := spPut Kf) ⟨A.lg b, (S.pa b).length, 8, 0, ((S.pa b).length : Nat), S.ct, some key, some val, rowsE (S.pa b), _, rfl, rfl, by simp, gk, gv, by omega, ?_⟩ Ent.refl
      tm_at "gs"
      refine gss_cons ?_
      tm_at "go"
      refine gi_lst (by tm_at "sSel") at_b ?_
      tm_at "gs"
      refine gss_cons ?_
      tm_at "gs"
      rename_i tp
      refine gss_cons ?_
      tm_at "gs"
      refine gss_cons ?_
      tm_at "go"
      have ew2 : A.ws.map (·.2) = (S.put g b key val).wk := by
        show _ = wput S.wk g b _
        rw [wput_none hw]; exact ew
      refine Clo.mk k (Fit.ent (dp_want (S := S.put g b key val) b ew2 ?_))
      have p1 : (S.put g b key val).pa b = S.pa b ++ [(S.ct, key, val, none, rowS)] := by
        show (if b = b then S.pa b ++ [(S.ct, key, val, (sget S.wk g).map (·.1), rowS)] else S.pa b) = _
        rw [if_pos rfl, hw]; rfl
      have p2 : (S.put g b key val).pa (!b) = S.pa (!b) := if_neg (by cases b <;> decide)
      show Fit _ (pt o (dpO Kf A S.ct) :: pt A.ll (.lst [.ref (A.lg false), .ref (A.lg true)]) :: pt A.wl (.lst [.ref (A.hd false), .ref (A.hd true)]) :: pt A.td (.dK (toK (Sum.inr : Str → Key) V.int S.tu)) :: pt A.ad (.dK (adW A.ws)) :: TupsP wkT A.ws :: ObD wkO A.ws :: pt A.md (.dT (dM S.gm)) :: PartP Kf (A.lg b) (A.hd b) ((S.put g b key val).pa b) :: PartP Kf (A.lg (!b)) (A.hd (!b)) ((S.put g b key val).pa (!b)) :: R)
      rw [p1, p2]
      refine Fit.trans (L1 := LogP Kf (A.lg b) ((S.pa b).length + 1) 8 0 (((S.pa b).length : Int) + 1) (rowsE (S.pa b) ++ [(((S.pa b).length : Int), S.ct, some key, some val)]) :: pt (A.hd b) (.dK (putK (wdQ qs) (Sum.inl ((S.pa b).length : Int)) (.ref tp))) :: pt tp (.tup [V.non, .str rowS]) :: TupsP wtQ qs :: pt o (dpO Kf A S.ct) :: pt A.ll (.lst [.ref (A.lg false), .ref (A.lg true)]) :: pt A.wl (.lst [.ref (A.hd false), .ref (A.hd true)]) :: pt A.td (.dK (toK (Sum.inr : Str → Key) V.int S.tu)) :: pt A.ad (.dK (adW A.ws)) :: TupsP wkT A.ws :: ObD wkO A.ws :: pt A.md (.dT (dM S.gm)) :: PartP Kf (A.lg (!b)) (A.hd (!b)) (S.pa (!b)) :: R) (by tm_at "fit") ?_
      refine Fit.trans (part_snoc (e := (S.ct, key, val, none, rowS)) hq rfl) ?_
      tm_at "fit"
    | some wk =>
      obtain ⟨i, x, hi, hx2⟩ := ws_at ew hw
      obtain ⟨⟨tx, px, mx⟩, x0⟩ := x
      obtain rfl : x0 = (g, wk) := hx2
      have hxm := List.mem_of_getElem? hi
      have fn : NdS wk.2.1 := (di.fs _ (mem_of_sget hw)).1
      have f2 : wk.2.1.length ≤ 2 := fs_two fn
      refine gss_cons ?_
      tm_at "gs"
      rw [ad_get di.nn ew hi rfl]
      show GSs T _ _ _ [some (.ref o), some (.str g), some (.int t), some (.int (bI b)), some (.str key), some (.str val), some (V.ref tx), none, none] _
      refine gss_cons ?_
      tm_at "go"
      refine gi_lst (by tm_at "sSel") at_b ?_
      tm_at "go"
      refine CallS.mk (S := spPut Kf) ⟨A.lg b, (S.pa b).length, 8, 0, ((S.pa b).length : Nat), S.ct, some key, some val, rowsE (S.pa b), _, rfl, rfl, by simp, gk, gv, by omega, ?_⟩ Ent.refl
      tm_at "gs"
      refine gss_cons ?_
      tm_at "go"
      refine gi_lst (by tm_at "sSel") at_b ?_
      tm_at "gs"
      refine gss_cons ?_
      tm_at "go"
      refine gi_wk0 (q := ((tx, px, mx), (g, wk))) (by tm_at "sSel") hxm ?_
      tm_at "gs"
      rename_i tp
      refine GSs.ent (L' := ObD wkO A.ws :: LogP Kf (A.lg b) ((S.pa b).length + 1) 8 0 (((S.pa b).length : Int) + 1) (rowsE (S.pa b) ++ [(((S.pa b).length : Int), S.ct, some key, some val)]) :: pt (A.hd b) (.dK (putK (wdQ qs) (Sum.inl ((S.pa b).length : Int)) (.ref tp))) :: pt tp (.tup [V.int wk.1, .str rowS]) :: TupsP wtQ qs :: pt o (dpO Kf A S.ct) :: pt A.ll (.lst [.ref (A.lg false), .ref (A.lg true)]) :: pt A.wl (.lst [.ref (A.hd false), .ref (A.hd true)]) :: pt A.td (.dK (toK (Sum.inr : Str → Key) V.int S.tu)) :: pt A.ad (.dK (adW A.ws)) :: TupsP wkT A.ws :: pt A.md (.dT (dM S.gm)) :: PartP Kf (A.lg (!b)) (A.hd (!b)) (S.pa (!b)) :: R) (by tm_at "ent") ?_
      refine GSs.ent (Fit.ent (obd_at hi)) ?_
      refine GSs.ent (Fit.ent wk_open) ?_
      refine GSs.ent (L' := ptW Kf A S b key val qs tp wk.1 (pt px (.dK (dF wk.2.1)) :: pt mx (.dT (dM wk.2.2)) :: ObD wkO (A.ws.take i) :: ObD wkO (A.ws.drop (i + 1)) :: ptZ Kf o A S b R)) (by tm_at "ent") ?_
      have p1 : (S.put g b key val).pa b = S.pa b ++ [(S.ct, key, val, some wk.1, rowS)] := by
        show (if b = b then S.pa b ++ [(S.ct, key, val, (sget S.wk g).map (·.1), rowS)] else S.pa b) = _
        rw [if_pos rfl, hw]; rfl
      have p2 : (S.put g b key val).pa (!b) = S.pa (!b) := if_neg (by cases b <;> decide)
      have hzf : (dF wk.2.1).length < sizeLine := by simp [toK, sizeLine_eq]; omega
      have hgf : valV (dF wk.2.1) (Sum.inl (bI b)) = (sget wk.2.1 b).map V.int := toK_get bI_inj _ _
      have ew2 : (A.ws.set i ((tx, px, mx), (g, wk.1, fput wk.2.1 b ((S.pa b).length : Nat), wk.2.2))).map (·.2) = (S.put g b key val).wk :=
        ws_put (f := fun y => (y.1, y.2.1, fput y.2.2.1 b ((S.pa b).length : Nat), y.2.2.2)) di.nn ew hi rfl
      have fin : Fit (ptW Kf A S b key val qs tp wk.1 (pt px (.dK (dF (fput wk.2.1 b ((S.pa b).length : Nat)))) :: pt mx (.dT (dM wk.2.2)) :: ObD wkO (A.ws.take i) :: ObD wkO (A.ws.drop (i + 1)) :: ptZ Kf o A S b R)) (DeedsP Kf o (S.put g b key val) :: R) := by
        refine dp_want (A := { A with ws := A.ws.set i ((tx, px, mx), (g, wk.1, fput wk.2.1 b ((S.pa b).length : Nat), wk.2.2)) }) b ew2 ?_
        show Fit _ (pt o (dpO Kf A S.ct) :: pt A.ll (.lst [.ref (A.lg false), .ref (A.lg true)]) :: pt A.wl (.lst [.ref (A.hd false), .ref (A.hd true)]) :: pt A.td (.dK (toK (Sum.inr : Str → Key) V.int S.tu)) :: pt A.ad (.dK (adW (A.ws.set i ((tx, px, mx), (g, wk.1, fput wk.2.1 b ((S.pa b).length : Nat), wk.2.2))))) :: TupsP wkT (A.ws.set i ((tx, px, mx), (g, wk.1, fput wk.2.1 b ((S.pa b).length : Nat), wk.2.2))) :: ObD wkO (A.ws.set i ((tx, px, mx), (g, wk.1, fput wk.2.1 b ((S.pa b).length : Nat), wk.2.2))) :: pt A.md (.dT (dM S.gm)) :: PartP Kf (A.lg b) (A.hd b) ((S.put g b key val).pa b) :: PartP Kf (A.lg (!b)) (A.hd (!b)) ((S.put g b key val).pa (!b)) :: R)
        rw [p1, p2, show adW (A.ws.set i ((tx, px, mx), (g, wk.1, fput wk.2.1 b ((S.pa b).length : Nat), wk.2.2))) = adW A.ws from ad_set (y := (g, wk.1, fput wk.2.1 b ((S.pa b).length : Nat), wk.2.2)) hi rfl]
        refine Fit.trans (part_snoc (e := (S.ct, key, val, some wk.1, rowS)) hq rfl) ?_
        refine Fit.trans (L1 := pt px (.dK (dF (fput wk.2.1 b ((S.pa b).length : Nat)))) :: pt mx (.dT (dM wk.2.2)) :: ObD wkO (A.ws.take i) :: ObD wkO (A.ws.drop (i + 1)) :: PartP Kf (A.lg b) (A.hd b) (S.pa b ++ [(S.ct, key, val, some wk.1, rowS)]) :: ptZ Kf o A S b R) (by tm_at "fit") ?_
        refine Fit.trans (wk_close (w := (((tx, px, mx), (g, wk.1, fput wk.2.1 b ((S.pa b).length : Nat), wk.2.2)) : WK))) ?_
        refine Fit.trans (obd_set (p' := (((tx, px, mx), (g, wk.1, fput wk.2.1 b ((S.pa b).length : Nat), wk.2.2)) : WK)) hi) ?_
        generalize hws : A.ws.set i ((tx, px, mx), (g, wk.1, fput wk.2.1 b ((S.pa b).length : Nat), wk.2.2)) = ws2
        refine Fit.trans (L1 := TupsP wkT A.ws :: ObD wkO ws2 :: PartP Kf (A.lg b) (A.hd b) (S.pa b ++ [(S.ct, key, val, some wk.1, rowS)]) :: pt o (dpO Kf A S.ct) :: pt A.ll (.lst [.ref (A.lg false), .ref (A.lg true)]) :: pt A.wl (.lst [.ref (A.hd false), .ref (A.hd true)]) :: pt A.td (.dK (toK (Sum.inr : Str → Key) V.int S.tu)) :: pt A.ad (.dK (adW A.ws)) :: pt A.md (.dT (dM S.gm)) :: PartP Kf (A.lg (!b)) (A.hd (!b)) (S.pa (!b)) :: R) (by tm_at "fit") ?_
        refine Fit.trans (Fit.cons .here (tups_cv (qs := ws2) (by rw [← hws]; exact tup_set hi rfl)) Fit.refl) ?_
        tm_at "fit"
      refine gss_cons ?_
      tm_at "go"
      refine gi_wk1 (q := ((tx, px, mx), (g, wk))) (by tm_at "sSel") hxm ?_
      tm_at "go"
      refine gsetd (k := .inl (bI b)) (by tm_at "sRpl") rfl hzf (fun v hv => ?_) (fun hv => ?_)
      · tm_at "gs"
        refine gss_cons ?_
        tm_at "go"
        refine Clo.mk k (Fit.ent (Fit.trans ?_ fin))
        have : fput wk.2.1 b ((S.pa b).length : Nat) = wk.2.1 := by
          unfold fput
          rw [hgf] at hv
          rw [if_pos]
          cases c : sget wk.2.1 b with
          | none => rw [c] at hv; cases hv
          | some _ => rfl
        rw [this]
        tm_at "fit"
      · have : putK (dF wk.2.1) (Sum.inl (bI b)) (V.int ((S.pa b).length : Nat)) = dF (fput wk.2.1 b ((S.pa b).length : Nat)) := by
          rw [hgf] at hv
          have hn : sget wk.2.1 b = none := by
            cases c : sget wk.2.1 b with
            | none => rfl
            | some _ => rw [c] at hv; cases hv
          have h1 := toK_put (f := V.int) bI_inj wk.2.1 b (((S.pa b).length : Nat) : Int)
          rw [h1]
          unfold fput sput
          have hany : ¬ (wk.2.1.any fun p => decide (p.1 = b)) = true := fun z => by
            obtain ⟨p, hp, e⟩ := List.any_eq_true.mp z
            exact (sget_none_iff.mp hn) p hp (of_decide_eq_true e)
          rw [if_neg hany, hn, if_neg (by simp)]
        rw [this]
        tm_at "gs"
        refine gss_cons ?_
        tm_at "go"
        exact Clo.mk k (Fit.ent (Fit.trans (by tm_at "fit") fin))
def spKM (Kf : PySem.W.Frag) : SpL := fun vs L K kx => ∃ (o : Addr) (g grp : Str) (t p x : Int) (S : DS) (R : List SA), vs = [.ref o, .str g, .int t, .str grp, .int p, .int x] ∧ L = DeedsP Kf o S :: R ∧ DI S ∧ sget S.tu g = some t ∧ (sget S.wk g = none → kx (ND Kf) none L) ∧ (∀ w, sget S.wk g = some w → w.2.2 = [] ∧ K .non (DeedsP Kf o (S.keep g grp p x) :: R))
theorem ok_km (fx : Fx Kf mg) (hck : MeAt T P w Kf mg base 1 "Deeds" "check" (spCK Kf)) (F : FunD Kf "keep_mark" "Deeds.keep_mark" (defArgs s_Deeds_keep_mark) (defBody s_Deeds_keep_mark) (defScope s_Deeds_keep_mark) [] [] f fd) : FnOk P w Kf mg base (L2.CX P w) 2 f fd ["self", "giver", "turn", "group", "part", "mark"] (spOf T (spKM Kf)) := by
  refine def_in F sc_Deeds_keep_mark (fun vs L K kx h => ?_) (fun A outer s H E hr n vs L KK kx h hx σ hσ => ?_)
  · obtain ⟨o, g, grp, t, p, x, S, R, rfl, _⟩ := h; rfl
  · obtain ⟨o, g, grp, t, p, x, S, R, rfl, rfl, di, ht, k1, k2⟩ := h
    obtain rfl : σ = [some (.ref o), some (.str g), some (.int t), some (.str grp), some (.int p), some (.int x), none] := hσ
    cases fx
    refine gss_cons ?_
    tm_at "go"
    refine call_ck Ent.refl ht ?_
    tm_at "gs"
    refine dp_in0 .here fun A ew => ?_
    refine gss_cons ?_
    tm_at "go"
    cases hw : sget S.wk g with
    | none =>
      rw [ad_none ew hw]
      refine iteNNone ?_
      tm_at "go"
      refine gs_raise n (by tm_at "sKd") rfl (by assumption) hx rfl ?_
      exact Clo.mk (k1 hw) (Fit.ent (dp_want0 ew (by tm_at "fit")))
    | some wk =>
      obtain ⟨em, k⟩ := k2 wk hw
      obtain ⟨i, y, hi, hx2⟩ := ws_at ew hw
      obtain ⟨⟨tx, px, mx⟩, x0⟩ := y
      obtain rfl : x0 = (g, wk) := hx2
      obtain ⟨num, fs, mk⟩ := wk
      obtain rfl : mk = [] := em
      have hxm := List.mem_of_getElem? hi
      have hget := ad_get di.nn ew hi rfl
      rw [hget]
      refine iteNSome ?_
      tm_at "gs"
      refine gss_cons ?_
      tm_at "go"
      refine gi_d hr (v := .ref tx) (by rw [← hget]; tm_at "sDF") ?_
      tm_at "go"
      refine gi_wk2 (q := ((tx, px, mx), (g, num, fs, []))) (by tm_at "sSel") hxm ?_
      tm_at "gs"
      refine GSs.ent (L' := ObD wkO A.ws :: pt o (dpO Kf A S.ct) :: pt A.ll (.lst [.ref (A.lg false), .ref (A.lg true)]) :: pt A.wl (.lst [.ref (A.hd false), .ref (A.hd true)]) :: pt A.td (.dK (toK (Sum.inr : Str → Key) V.int S.tu)) :: pt A.ad (.dK (adW A.ws)) :: TupsP wkT A.ws :: pt A.md (.dT (dM S.gm)) :: PartP Kf (A.lg false) (A.hd false) (S.pa false) :: PartP Kf (A.lg true) (A.hd true) (S.pa true) :: R) (by tm_at "ent") ?_
      refine GSs.ent (Fit.ent (obd_at hi)) ?_
      refine GSs.ent (Fit.ent wk_open) ?_
      refine GSs.ent (L' := pt mx (.dT []) :: pt px (.dK (dF fs)) :: ObD wkO (A.ws.take i) :: ObD wkO (A.ws.drop (i + 1)) :: pt o (dpO Kf A S.ct) :: pt A.ll (.lst [.ref (A.lg false), .ref (A.lg true)]) :: pt A.wl (.lst [.ref (A.hd false), .ref (A.hd true)]) :: pt A.td (.dK (toK (Sum.inr : Str → Key) V.int S.tu)) :: pt A.ad (.dK (adW A.ws)) :: TupsP wkT A.ws :: pt A.md (.dT (dM S.gm)) :: PartP Kf (A.lg false) (A.hd false) (S.pa false) :: PartP Kf (A.lg true) (A.hd true) (S.pa true) :: R) (by tm_at "ent") ?_
      refine gss_cons ?_
      tm_at "go"
      rename_i tp
      refine gput_t (kvs := []) (k := [.inr grp, .inl p]) hr (by tm_at "sRpl") (fun H hs => hs.getP pers_tup (show Sel _ (pt tp (.tup [.str grp, .int p])) _ by tm_at "sSel")) (by rw [sizeLine_eq]; decide) ?_
      tm_at "go"
      have ew2 : (A.ws.set i ((tx, px, mx), (g, num, fs, [((grp, p), x)]))).map (·.2) = (S.keep g grp p x).wk :=
        ws_put (f := fun y => (y.1, y.2.1, y.2.2.1, sput y.2.2.2 (grp, p) x)) di.nn ew hi rfl
      refine Clo.mk k (Fit.ent (dp_want0 (S := S.keep g grp p x) (A := { A with ws := A.ws.set i ((tx, px, mx), (g, num, fs, [((grp, p), x)])) }) ew2 ?_))
      show Fit _ (pt o (dpO Kf A S.ct) :: pt A.ll (.lst [.ref (A.lg false), .ref (A.lg true)]) :: pt A.wl (.lst [.ref (A.hd false), .ref (A.hd true)]) :: pt A.td (.dK (toK (Sum.inr : Str → Key) V.int S.tu)) :: pt A.ad (.dK (adW (A.ws.set i ((tx, px, mx), (g, num, fs, [((grp, p), x)]))))) :: TupsP wkT (A.ws.set i ((tx, px, mx), (g, num, fs, [((grp, p), x)]))) :: ObD wkO (A.ws.set i ((tx, px, mx), (g, num, fs, [((grp, p), x)]))) :: pt A.md (.dT (dM S.gm)) :: PartP Kf (A.lg false) (A.hd false) (S.pa false) :: PartP Kf (A.lg true) (A.hd true) (S.pa true) :: R)
      rw [show adW (A.ws.set i ((tx, px, mx), (g, num, fs, [((grp, p), x)]))) = adW A.ws from ad_set (y := (g, num, fs, [((grp, p), x)])) hi rfl]
      refine Fit.trans (L1 := pt px (.dK (dF fs)) :: pt mx (.dT (dM [((grp, p), x)])) :: ObD wkO (A.ws.take i) :: ObD wkO (A.ws.drop (i + 1)) :: pt o (dpO Kf A S.ct) :: pt A.ll (.lst [.ref (A.lg false), .ref (A.lg true)]) :: pt A.wl (.lst [.ref (A.hd false), .ref (A.hd true)]) :: pt A.td (.dK (toK (Sum.inr : Str → Key) V.int S.tu)) :: pt A.ad (.dK (adW A.ws)) :: TupsP wkT A.ws :: pt A.md (.dT (dM S.gm)) :: PartP Kf (A.lg false) (A.hd false) (S.pa false) :: PartP Kf (A.lg true) (A.hd true) (S.pa true) :: R) (by tm_at "fit") ?_
      refine Fit.trans (wk_close (w := (((tx, px, mx), (g, num, fs, [((grp, p), x)])) : WK))) ?_
      refine Fit.trans (obd_set (p' := (((tx, px, mx), (g, num, fs, [((grp, p), x)])) : WK)) hi) ?_
      generalize hws : A.ws.set i ((tx, px, mx), (g, num, fs, [((grp, p), x)])) = ws2
      refine Fit.trans (L1 := TupsP wkT A.ws :: ObD wkO ws2 :: pt o (dpO Kf A S.ct) :: pt A.ll (.lst [.ref (A.lg false), .ref (A.lg true)]) :: pt A.wl (.lst [.ref (A.hd false), .ref (A.hd true)]) :: pt A.td (.dK (toK (Sum.inr : Str → Key) V.int S.tu)) :: pt A.ad (.dK (adW A.ws)) :: pt A.md (.dT (dM S.gm)) :: PartP Kf (A.lg false) (A.hd false) (S.pa false) :: PartP Kf (A.lg true) (A.hd true) (S.pa true) :: R) (by tm_at "fit") ?_
      refine Fit.trans (Fit.cons .here (tups_cv (qs := ws2) (by rw [← hws]; exact tup_set hi rfl)) Fit.refl) ?_
      tm_at "fit"
end
local macro_rules | `(tactic| tm_at "gF") => `(tactic| ((guard_target = (IsIns _ _ _ _ _ ∧ _)); (with_reducible refine And.intro ?hh ?_); (case hh => exact ins_dp (by tm_at "sSel") (fun _ _ _ _ _ _ => by tm_at "sNoF") (by rfl))))
abbrev rRw : PRep (Int × Str × Str) := rTri rInt rStr rStr
theorem firsts_eq {ws : List WK} {S : DS} (e : ws.map (·.2) = S.wk) (b : Bool) : (ws.filter fun w => (sget w.2.2.2.1 b).isSome).map (fun w => (sget w.2.2.2.1 b).getD 0) = firsts S b := by
  unfold firsts
  rw [← e, List.filterMap_map]
  induction ws generalizing S with
  | nil => rfl
  | cons x ws ih =>
    rw [List.filter_cons, List.filterMap_cons]
    have ih := ih (S := { S with wk := ws.map (·.2) }) rfl
    have hc : ((fun w : WK0 => sget w.2.2.1 b) ∘ fun x : WK => x.2) x = sget x.2.2.2.1 b := rfl
    rw [hc]
    cases c : sget x.2.2.2.1 b with
    | none => rw [if_neg (by simp)]; exact ih
    | some y =>
      have hs : (some y).isSome = true := rfl
      rw [if_pos hs, List.map_cons, c]
      exact congrArg (y :: ·) ih
section
variable {T : List (Addr × Str)} {X : Cx} {σ : St} {L R : List SA} {ws : List WK} {q : WK} {b : Bool}
theorem wk_dict (s : Sel L (ObD wkO ws) R) (hq : q ∈ ws) {H : Hp} (h : Hs T L H) : H q.1.2.1 = some (.dK (dF q.2.2.2.1)) := by
  obtain ⟨R0, h1⟩ := obd_each s h.pcs hq
  exact Pcs.get (wk_open H h1)
theorem dfact_wk (s : Sel L (ObD wkO ws) R) (hq : q ∈ ws) : DFact T L q.1.2.1 (.int (bI b)) ((sget q.2.2.2.1 b).map V.int) := fun H hs => by
  rw [← toK_get (ι := fun b => (Sum.inl (bI b) : Key)) (f := V.int) bI_inj]
  exact DGet.k (k := .inl (bI b)) (wk_dict s hq hs)
end
def endD (es : List PR) : List (Key × V) := mergeK [] ((es.filter fun e => !isRow e).map fun e => ((Sum.inl (e.2.2.2.1.getD 0) : Key), V.str e.2.2.2.2))
theorem endD_get {es : List PR} (kd : ∀ e ∈ es, isRow e = false → ∃ k, e.2.2.2.1 = some k) (k : Int) : valV (endD es) (Sum.inl k) = (endOf es k).map V.str := by
  unfold endD endOf
  rw [valV_merge]
  show List.foldl _ none _ = _
  suffices g : ∀ (l : List PR) (o : Option Str), (∀ e ∈ l, isRow e = false → ∃ k, e.2.2.2.1 = some k) → ((l.filter fun e => !isRow e).map fun e => ((Sum.inl (e.2.2.2.1.getD 0) : Key), V.str e.2.2.2.2)).foldl (fun o p => if Sum.inl k = p.1 then some p.2 else o) (o.map V.str) = (l.foldl (endStep k) o).map V.str from g es none kd
  intro l
  induction l with
  | nil => intro o _; rfl
  | cons e l ih =>
    intro o h
    have ih := fun o => ih o fun x hx => h x (List.mem_cons_of_mem _ hx)
    rw [List.foldl_cons, List.filter_cons]
    cases hr : isRow e with
    | true =>
      rw [if_neg (by simp), ih]
      unfold endStep
      rw [if_neg (by rw [hr]; simp)]
    | false =>
      obtain ⟨j, hj⟩ := h e List.mem_cons_self hr
      rw [if_pos (by simp), List.map_cons, List.foldl_cons, ← ih]
      congr 1
      unfold endStep
      rw [hj]
      show (if (Sum.inl k : Key) = Sum.inl j then some (V.str e.2.2.2.2) else _) = _
      by_cases c : k = j
      · rw [if_pos (by rw [c]), if_pos ⟨hr, by rw [c]⟩]; rfl
      · rw [if_neg (fun z => c (Sum.inl.inj z)), if_neg (fun z => c (Option.some.inj z.2).symm)]
section
variable {T : List (Addr × Str)} {P : Program} {w : World} {Kf : PySem.W.Frag} {mg : Str → Option Value} {base : Heap} {f : Addr} {fd : FuncData}
def spSE (Kf : PySem.W.Frag) : SpL := fun vs L K kx => ∃ (o : Addr) (b : Bool) (S : DS) (R : List SA), vs = [.ref o, .int (bI b)] ∧ L = DeedsP Kf o S :: R ∧ Bd 300 S ∧ ∀ m, m ∈ firsts S b ++ [((S.pa b).length : Int)] → (∀ y ∈ firsts S b ++ [((S.pa b).length : Int)], m ≤ y) → K (.int m) (DeedsP Kf o S :: R)
theorem ok_se (fx : Fx Kf mg) (F : FunD Kf "sure_end" "Deeds.sure_end" (defArgs s_Deeds_sure_end) (defBody s_Deeds_sure_end) (defScope s_Deeds_sure_end) [] [] f fd) : FnOk P w Kf mg base (L2.CX P w) 2 f fd ["self", "part"] (spOf T (spSE Kf)) := by
  refine def_in F sc_Deeds_sure_end (fun vs L K kx h => ?_) (fun A outer s H E hr n vs L KK kx h hx σ hσ => ?_)
  · obtain ⟨o, b, S, R, rfl, _⟩ := h; rfl
  · obtain ⟨o, b, S, R, rfl, rfl, bd, k⟩ := h
    obtain rfl : σ = [some (.ref o), some (.int (bI b)), none, none, none, none] := hσ
    cases fx
    refine dp_in b .here fun A ew => ?_
    have hwl : A.ws.length ≤ 300 := by
      have := bd.wk
      rw [← ew, List.length_map] at this; exact this
    refine gss_cons ?_
    refine gs_lock (d := A.ad) (u := .dK (adW A.ws)) True.intro mut_k (fun _ => nofun) (by tm_at "sSel") fun od => ?_
    refine gs_lcI ow0_Deeds_sure_end n (by tm_at "sSlot") (by tm_at "sKd") rfl (blkOk_by (N := n_Deeds_sure_end) (sc := defScope s_Deeds_sure_end) (by decide +kernel)) (by tm_at "sWp") (fun _ => rfl) rfl (git_V rfl rfl ?_)
    tm_at "go"
    refine ⟨A.ad, od, adW A.ws, rfl, ⟨_, by tm_at "sSel"⟩, fun A1 => ⟨_, by tm_at "sSel"⟩, lcgo_g (S := rInt) (as := A.ws) (by simp [toK]) (fun w => (sget w.2.2.2.1 b).isSome) (fun w => (sget w.2.2.2.1 b).getD 0) (by simp [toK, sizeLine_eq]; omega) ?_ ?_⟩
    · rintro D3 i x Lx q ys hi ⟨⟨k', hk'⟩, rfl⟩ s' H' C cl fp
      have hqm := List.mem_of_getElem? hi
      obtain rfl : x = V.ref q.1.1 := by
        simp only [toK, List.getElem?_map, hi, Option.map_some, Option.some.injEq, Prod.mk.injEq] at hk'
        exact hk'.2.symm
      simp only [List.nil_append]
      refine gg_blk (kc := kc0_Deeds_sure_end) n rfl (by decide) fun nb => ?_
      refine pg_wk (q := q) (by tm_at "sSel") hqm rfl rfl rfl ?_
      tm_at "go"
      intro s' H' C cl fp
      refine gts_blk (kc := kc0_Deeds_sure_end) n rfl (by decide) fun nb => ?_
      tm_at "go"
      refine go_inDD hr (dfact_wk (q := q) (b := b) (show Sel _ (ObD wkO A.ws) _ by tm_at "sSel") hqm) ?_
      tm_at "go"
      refine tst_b (by rw [Option.isSome_map]) (fun hp => ?_) (fun _ => by tm_at "ent")
      intro s' H' C cl fp
      refine ge_blk (kc := kc0_Deeds_sure_end) n rfl (by decide) fun nb => ?_
      tm_at "go"
      obtain ⟨v, hv⟩ := Option.isSome_iff_exists.mp hp
      refine gi_d hr (v := .int v) (by rw [show some (V.int v) = (sget q.2.2.2.1 b).map V.int by rw [hv]; rfl]; exact dfact_wk (show Sel _ (ObD wkO A.ws) _ by tm_at "sSel") hqm) ?_
      rw [hv]
      exact endm (by tm_at "sSel") rv_int (by tm_at "fit")
    · intro D1
      rw [firsts_eq ew]
      refine ⟨_, by tm_at "sRpl", ?_⟩
      refine GSs.ent (L' := pt D1 (.lst ((firsts S b).map V.int)) :: dpB Kf o A S b R) (Fit.ent (Fit.trans (Fit.cons .here (Cv.unscal cInt) Fit.refl) (by tm_at "fit"))) ?_
      refine part_in (lg := A.lg b) (hd := A.hd b) (es := S.pa b) (by tm_at "sSel") fun qs hq => ?_
      refine gss_cons ?_
      tm_at "go"
      refine gi_lst (by tm_at "sSel") at_b ?_
      tm_at "go"
      have hfl : (firsts S b).length ≤ 300 := by
        unfold firsts
        have := List.length_filterMap_le (fun w : WK0 => sget w.2.2.1 b) S.wk
        have := bd.wk
        omega
      rename_i D2
      refine go_catL (xs := (firsts S b).map V.int) (ys := [V.int ((S.pa b).length : Nat)]) (by tm_at "sSel") (by tm_at "sSel") (by rw [List.length_map, sizeLine_eq, List.length_singleton]; omega) fun D4 => ?_
      tm_at "go"
      refine gc_minL (ns := firsts S b ++ [((S.pa b).length : Int)]) rfl (by rw [List.map_append]; exact .here) (by simp) fun m h1 h2 => ?_
      refine Clo.mk (k m h1 h2) (Fit.ent (dp_want b ew ?_))
      refine Fit.trans (L1 := LogP Kf (A.lg b) (S.pa b).length 8 0 ((S.pa b).length : Nat) (rowsE (S.pa b)) :: pt (A.hd b) (.dK (wdQ qs)) :: TupsP wtQ qs :: ptZ Kf o A S b (ObD wkO A.ws :: R)) (by tm_at "fit") ?_
      refine Fit.trans (part_fold hq) ?_
      tm_at "fit"
def spEO (Kf : PySem.W.Frag) : SpL := fun vs L K kx => ∃ (o : Addr) (b : Bool) (S : DS) (R : List SA), vs = [.ref o, .int (bI b)] ∧ L = DeedsP Kf o S :: R ∧ Bd 300 S ∧ (∀ e ∈ S.pa b, isRow e = false → ∃ k, e.2.2.2.1 = some k) ∧ ∀ D, K (.ref D) (pt D (.dK (endD (S.pa b))) :: DeedsP Kf o S :: R)
theorem ok_eo (fx : Fx Kf mg) (F : FunD Kf "ends_of" "Deeds.ends_of" (defArgs s_Deeds_ends_of) (defBody s_Deeds_ends_of) (defScope s_Deeds_ends_of) [] [] f fd) : FnOk P w Kf mg base (L2.CX P w) 2 f fd ["self", "part"] (spOf T (spEO Kf)) := by
  refine def_in F sc_Deeds_ends_of (fun vs L K kx h => ?_) (fun A outer s H E hr n vs L KK kx h hx σ hσ => ?_)
  · obtain ⟨o, b, S, R, rfl, _⟩ := h; rfl
  · obtain ⟨o, b, S, R, rfl, rfl, bd, kd, k⟩ := h
    obtain rfl : σ = [some (.ref o), some (.int (bI b)), none, none] := hσ
    cases fx
    refine dp_in b .here fun A ew => ?_
    refine part_in (lg := A.lg b) (hd := A.hd b) (es := S.pa b) (by tm_at "sSel") fun qs hq => ?_
    have hql : qs.length = (S.pa b).length := by rw [← hq, List.length_map]
    have hlb := bd.pa b
    refine gss_cons ?_
    refine gs_ret ?_
    refine ge_lock (d := A.hd b) (u := .dK (wdQ qs)) True.intro mut_k (fun _ => nofun) (by tm_at "sSel") fun od => ?_
    refine ge_dcI ow0_Deeds_ends_of rfl n.ndN (blkOk_by (N := n_Deeds_ends_of) (sc := defScope s_Deeds_ends_of) (by decide +kernel)) (by tm_at "sWp") (fun _ => rfl) (git_V rfl rfl ?_)
    tm_at "go"
    refine gi_lst (by tm_at "sSel") at_b ?_
    refine ⟨A.hd b, od, wdQ qs, rfl, ⟨_, by tm_at "sSel"⟩, fun A1 => ⟨_, by tm_at "sSel"⟩, dcgo_g (as := qs) (wdQ_len _).symm (fun q => !isRow q.2) (fun q => Sum.inl (q.2.2.2.2.1.getD 0)) (fun q => V.str q.2.2.2.2.2) (by rw [wdQ_len, sizeLine_eq]; omega) ?_ ?_⟩
    · rintro D3 i x Lx q kvs hi ⟨⟨k', hk'⟩, rfl⟩ s' H' C cl fp
      have hqm := List.mem_of_getElem? hi
      have hqe : q.2 ∈ S.pa b := by rw [← hq]; exact List.mem_map.mpr ⟨q, hqm, rfl⟩
      obtain rfl : x = V.ref q.1 := by
        unfold wdQ at hk'
        rw [List.getElem?_mapIdx, hi] at hk'
        simp only [Option.map_some, Option.some.injEq, Prod.mk.injEq] at hk'
        exact hk'.2.symm
      simp only [List.nil_append]
      refine gg_blk (kc := kc0_Deeds_ends_of) n rfl (by decide) fun nb => ?_
      refine gg_tupF (xs := [vOI q.2.2.2.2.1, .str q.2.2.2.2.2]) rfl rfl rfl (fun H hs => tups_at (F := wtQ) (show Sel _ (TupsP wtQ qs) _ by tm_at "sSel") hqm hs) ?_
      tm_at "go"
      intro s' H' C cl fp
      refine gts_blk (kc := kc0_Deeds_ends_of) n rfl (by decide) fun nb => ?_
      tm_at "go"
      refine tstd_b (by rfl) (fun hp => ?_) (fun _ => by tm_at "ent")
      intro s' H' C cl fp
      refine ge_blk (kc := kc0_Deeds_ends_of) n rfl (by decide) fun nb => ?_
      tm_at "go"
      obtain ⟨j, hj⟩ := kd q.2 hqe (by simpa using hp)
      intro s' H' C cl fp
      refine ge_blk (kc := kc0_Deeds_ends_of) n rfl (by decide) fun nb => ?_
      tm_at "go"
      refine endd (by tm_at "sSel") ?_ rfl (by tm_at "fit")
      rw [hj]; rfl
    · intro D1
      refine ⟨_, by tm_at "sRpl", ?_⟩
      have e1 : mergeK [] ((qs.filter fun q => !isRow q.2).map fun q => ((Sum.inl (q.2.2.2.2.1.getD 0) : Key), V.str q.2.2.2.2.2)) = endD (S.pa b) := by
        unfold endD
        rw [← hq, List.filter_map, List.map_map]; rfl
      rw [e1]
      refine Clo.mk (k D1) (Fit.ent ?_)
      refine Fit.trans (L1 := DeedsP Kf o S :: pt D1 (.dK (endD (S.pa b))) :: R) (dp_want b ew ?_) (by tm_at "fit")
      refine Fit.trans (L1 := LogP Kf (A.lg b) (S.pa b).length 8 0 ((S.pa b).length : Nat) (rowsE (S.pa b)) :: pt (A.hd b) (.dK (wdQ qs)) :: TupsP wtQ qs :: pt D1 (.dK (endD (S.pa b))) :: ptZ Kf o A S b (ObD wkO A.ws :: R)) (by tm_at "fit") ?_
      refine Fit.trans (part_fold hq) ?_
      tm_at "fit"
theorem rw_good {lg : Addr} {n : Nat} {pc st fin : Int} {rows : List Rec} {L R : List SA} {v : V} (s : Sel L (Val (rTl rRec) v rows) R) {H : Hp} (h : Hs T L H) : ∀ r ∈ rows, optGood r.2.2.1 ∧ optGood r.2.2.2 := by
  obtain ⟨a, xs, _, _, hx⟩ := h.getP Val.pers s
  intro r hr
  obtain ⟨i, hi⟩ := List.getElem?_of_mem hr
  obtain ⟨x, _, ⟨_, _, _, _, _, _, _, _, _, h3, h4⟩⟩ := hx.get hi
  exact ⟨h3.2, h4.2⟩
def readP (es : List PR) (mark fin : Int) (wt : Bool) (j : Nat) : List (Int × Str × Str) := ((es.zipIdx.take j).filter fun q => decide (mark ≤ (q.2 : Int)) && decide ((q.2 : Int) < fin) && isRow q.1 && (!wt || seenB es q.1)).map fun q => ((q.2 : Int), q.1.2.1, q.1.2.2.1)
theorem readP_snoc {es : List PR} {mark fin : Int} {wt : Bool} {j : Nat} {e : PR} (h : es[j]? = some e) : readP es mark fin wt (j + 1) = readP es mark fin wt j ++ if (decide (mark ≤ (j : Int)) && decide ((j : Int) < fin) && isRow e && (!wt || seenB es e)) = true then [((j : Int), e.2.1, e.2.2.1)] else [] := by
  unfold readP
  have h2 : es.zipIdx[j]? = some (e, j) := by rw [List.getElem?_zipIdx, h]; simp
  rw [take_succ' h2, List.filter_append, List.map_append]
  congr 1
  rw [List.filter_cons]
  by_cases c : (decide (mark ≤ (j : Int)) && decide ((j : Int) < fin) && isRow e && (!wt || seenB es e)) = true
  · rw [if_pos c, if_pos c]; rfl
  · rw [if_neg c, if_neg c]; rfl
theorem readP_len (es : List PR) (mark fin : Int) (wt : Bool) (j : Nat) : (readP es mark fin wt j).length ≤ j := by
  unfold readP
  rw [List.length_map]
  have := List.length_filter_le (fun q : PR × Nat => decide (mark ≤ (q.2 : Int)) && decide ((q.2 : Int) < fin) && isRow q.1 && (!wt || seenB es q.1)) (es.zipIdx.take j)
  rw [List.length_take] at this
  omega
def spRD (Kf : PySem.W.Frag) : SpL := fun vs L K kx => ∃ (o : Addr) (b wt : Bool) (mark : Int) (S : DS) (R : List SA), vs = [.ref o, .int (bI b), .int mark, .bl wt] ∧ L = DeedsP Kf o S :: R ∧ DI S ∧ Bd 300 S ∧
  ∀ m v, (if wt = true then m ∈ firsts S b ++ [((S.pa b).length : Int)] ∧ ∀ y ∈ firsts S b ++ [((S.pa b).length : Int)], m ≤ y else m = ((S.pa b).length : Int)) → K v (Val (rTl rRw) v (readF (S.pa b) mark m wt) :: DeedsP Kf o S :: R)
theorem ok_rd (fx : Fx Kf mg) (hse : MeAt T P w Kf mg base 2 "Deeds" "sure_end" (spSE Kf)) (heo : MeAt T P w Kf mg base 2 "Deeds" "ends_of" (spEO Kf)) (hk : MeAt T P w Kf mg base 1 "Log" "kept" (spKept Kf)) (F : FunD Kf "read" "Deeds.read" (defArgs s_Deeds_read) (defBody s_Deeds_read) (defScope s_Deeds_read) [] [] f fd) : FnOk P w Kf mg base (L2.CX P w) 3 f fd ["self", "part", "mark", "waits"] (spOf T (spRD Kf)) := by
  refine def_in F sc_Deeds_read (fun vs L K kx h => ?_) (fun A outer s H E hr n vs L KK kx h hx σ hσ => ?_)
  · obtain ⟨o, b, wt, mark, S, R, rfl, _⟩ := h; rfl
  · obtain ⟨o, b, wt, mark, S, R, rfl, rfl, di, bd, k⟩ := h
    obtain rfl : σ = [some (.ref o), some (.int (bI b)), some (.int mark), some (.bl wt), none, none, none, none, none, none, none, none, none] := hσ
    cases fx
    have hkd : ∀ e ∈ S.pa b, isRow e = false → ∃ k, e.2.2.2.1 = some k := fun e he h => (di.kd b e he h).1
    have hlb := bd.pa b
    refine gss_cons ?_
    refine gs_jn (fun σ' L' => ∃ m, (if wt = true then m ∈ firsts S b ++ [((S.pa b).length : Int)] ∧ ∀ y ∈ firsts S b ++ [((S.pa b).length : Int)], m ≤ y else m = ((S.pa b).length : Int)) ∧ σ' = [some (.ref o), some (.int (bI b)), some (.int mark), some (.bl wt), some (.int m), none, none, none, none, none, none, none, none] ∧ Ent T L' (DeedsP Kf o S :: R)) ?_ ?_
    · cases wt with
      | true =>
        tm_at "go"
        refine CallS.mk (S := spSE Kf) ⟨o, b, S, R, rfl, rfl, bd, fun m h1 h2 => ?_⟩ Ent.refl
        tm_at "go"
        exact ⟨m, by rw [if_pos rfl]; exact ⟨h1, h2⟩, rfl, Ent.refl⟩
      | false =>
        refine GS.via fun H hs => ?_
        obtain ⟨A, ew, h1⟩ := dp_unf b hs
        obtain ⟨qs, hq, h'⟩ := part_unf (K := Kf) (lg := A.lg b) (hd := A.hd b) (es := S.pa b) (h1.sel (by tm_at "sSel"))
        refine ⟨_, h', ?_⟩
        tm_at "go"
        refine gi_lst (by tm_at "sSel") at_b ?_
        tm_at "go"
        refine ⟨_, rfl, rfl, Fit.ent (dp_want b ew ?_)⟩
        refine Fit.trans (part_fold hq) ?_
        tm_at "fit"
    · rintro σ' L' ⟨m, hm, rfl, t⟩
      have k := fun v => k m v hm
      refine GSs.ent t ?_
      refine gss_cons ?_
      tm_at "go"
      refine CallS.mk (S := spEO Kf) ⟨o, b, S, R, rfl, rfl, bd, hkd, fun D3 => ?_⟩ Ent.refl
      tm_at "gs"
      rename_i fl
      refine dp_in b (by tm_at "sSel") fun A ew => ?_
      refine part_in (lg := A.lg b) (hd := A.hd b) (es := S.pa b) (by tm_at "sSel") fun qs hq => ?_
      have hql : qs.length = (S.pa b).length := by rw [← hq, List.length_map]
      refine gss_cons ?_
      refine gs_forI (passes_of rfl) rfl (fun _ => rfl) (git_T rRec ?_)
      tm_at "go"
      refine gi_lst (by tm_at "sSel") at_b ?_
      tm_at "go"
      refine CallS.mk (S := spKept Kf) ⟨A.lg b, (S.pa b).length, 8, 0, ((S.pa b).length : Nat), rowsE (S.pa b), pt (A.hd b) (.dK (wdQ qs)) :: TupsP wtQ qs :: pt fl (.lst []) :: pt D3 (.dK (endD (S.pa b))) :: ptZ Kf o A S b (ObD wkO A.ws :: R), rfl, rfl, fun v => ?_⟩ (by tm_at "ent")
      tm_at "go"
      refine ⟨rowsE (S.pa b), rv_val (by tm_at "sSel"), fun j σ' L' => ∃ u7 u8 u9 u10 u11 u12, σ' = [some (.ref o), some (.int (bI b)), some (.int mark), some (.bl wt), some (.int m), some (.ref D3), some (.ref fl), u7, u8, u9, u10, u11, u12] ∧
        L' = LstR rRw fl (readP (S.pa b) mark m wt j) :: Val (rTl rRec) v (rowsE (S.pa b)) :: LogP Kf (A.lg b) (S.pa b).length 8 0 ((S.pa b).length : Nat) (rowsE (S.pa b)) :: pt (A.hd b) (.dK (wdQ qs)) :: TupsP wtQ qs :: pt D3 (.dK (endD (S.pa b))) :: ptZ Kf o A S b (ObD wkO A.ws :: R), ?_, ?_, ?_, ?_⟩
      · refine Fits.mk ⟨_, _, _, _, _, _, rfl, rfl⟩ ?_
        rw [show readP (S.pa b) mark m wt 0 = [] from rfl]
        tm_at "ent"
      · rintro j σ' L' ⟨u7, u8, u9, u10, u11, u12, rfl, rfl⟩
        exact rv_val (by tm_at "sSel")
      · rintro j x Lx σ' L' hj ⟨r, hrw, rfl⟩ ⟨u7, u8, u9, u10, u11, u12, rfl, rfl⟩
        obtain ⟨e, he, rfl⟩ : ∃ e, (S.pa b)[j]? = some e ∧ r = ((j : Int), e.1, some e.2.1, some e.2.2.1) := by
          unfold rowsE at hrw
          rw [List.getElem?_mapIdx] at hrw
          cases c : (S.pa b)[j]? with
          | none => rw [c] at hrw; cases hrw
          | some e => rw [c] at hrw; cases hrw; exact ⟨e, rfl, rfl⟩
        obtain ⟨q, hqj, hqe⟩ : ∃ q, qs[j]? = some q ∧ q.2 = e := by
          have := he
          rw [← hq, List.getElem?_map] at this
          cases c : qs[j]? with
          | none => rw [c] at this; cases this
          | some q => rw [c] at this; exact ⟨q, rfl, Option.some.inj this⟩
        obtain ⟨tq, e0⟩ := q
        obtain rfl : e0 = e := hqe
        have hqm := List.mem_of_getElem? hqj
        have hlen := readP_len (S.pa b) mark m wt j
        have hjl := lt_of_get he
        have hsn := readP_snoc (mark := mark) (fin := m) (wt := wt) he
        generalize hrp : readP (S.pa b) mark m wt j = rp at hlen hsn
        obtain ⟨tm, ky, vl, dd, kd⟩ := e0
        simp only [List.cons_append, List.nil_append]
        refine gg_quad (d := (((j : Int), tm, some ky, some vl) : Rec)) cInt cInt cOpt cOpt (rv_val .here) rfl rfl rfl fun _ _ gk gv => ?_
        dsimp only
        rw [show vOpt (some ky) = V.str ky from rfl, show vOpt (some vl) = V.str vl from rfl]
        tm_at "gs"
        refine GSs.ent (L' := LstR rRw fl rp :: Val (rTl rRec) v (rowsE (S.pa b)) :: LogP Kf (A.lg b) (S.pa b).length 8 0 ((S.pa b).length : Nat) (rowsE (S.pa b)) :: pt (A.hd b) (.dK (wdQ qs)) :: TupsP wtQ qs :: pt D3 (.dK (endD (S.pa b))) :: ptZ Kf o A S b (ObD wkO A.ws :: R)) (by tm_at "ent") ?_
        refine gss_cons ?_
        refine gs_asg rfl rfl rfl ?_
        tm_at "go"
        refine gi_lst (by tm_at "sSel") at_b ?_
        tm_at "go"
        have hgw : valV (wdQ qs) (Sum.inl (j : Int)) = some (V.ref tq) := by rw [wdQ_get, hqj]; rfl
        refine gi_d hr (v := .ref tq) (by rw [← hgw]; tm_at "sDF") ?_
        refine gg_tupF (xs := [vOI dd, .str kd]) rfl rfl rfl (fun H hs => tups_at (F := wtQ) (show Sel _ (TupsP wtQ qs) _ by tm_at "sSel") hqm hs) ?_
        tm_at "gs"
        have hgood : strGood ky ∧ strGood vl := ⟨gk, gv⟩
        have hz9 : rp.length < sizeLine := by rw [sizeLine_eq]; omega
        have hno : (decide (mark ≤ (j : Int)) && decide ((j : Int) < m) && decide (kd = rowS) && (!wt || seenB (S.pa b) (tm, ky, vl, dd, kd))) = false → readP (S.pa b) mark m wt (j + 1) = rp := fun h => by
          rw [hsn, if_neg (by rw [show isRow (tm, ky, vl, dd, kd) = decide (kd = rowS) from rfl, h]; exact Bool.false_ne_true), List.append_nil]
        have hyes : (decide (mark ≤ (j : Int)) && decide ((j : Int) < m) && decide (kd = rowS) && (!wt || seenB (S.pa b) (tm, ky, vl, dd, kd))) = true → readP (S.pa b) mark m wt (j + 1) = rp ++ [((j : Int), ky, vl)] := fun h => by
          rw [hsn, if_pos (by rw [show isRow (tm, ky, vl, dd, kd) = decide (kd = rowS) from rfl, h])]
        refine gss_cons ?_
        tm_at "go"
        tm_at "if"
        · rename_i c1
          have c1 : mark ≤ (j : Int) := c1
          tm_at "go"
          tm_at "if"
          · rename_i c2
            have c2 : (j : Int) < m := c2
            tm_at "go"
            tm_at "if"
            · rename_i c3
              have c3 : kd = rowS := c3
              have cN : ∀ z, (!wt || seenB (S.pa b) (tm, ky, vl, dd, kd)) = z → (decide (mark ≤ (j : Int)) && decide ((j : Int) < m) && decide (kd = rowS) && (!wt || seenB (S.pa b) (tm, ky, vl, dd, kd))) = z := fun z hz => by
                rw [decide_eq_true c1, decide_eq_true c2, decide_eq_true c3, hz]; rfl
              refine gss_cons ?_
              cases wt with
              | false =>
                have hy := hyes (cN true rfl)
                tm_at "go"
                refine gapp_R (d := ((j : Int), ky, vl)) (by tm_at "sRpl") hz9 (rv_tri (by tm_at "sSel") rv_int (rv_str gk) (rv_str gv)) ?_
                tm_at "go"
                exact ⟨_, by rw [hy]; tm_at "ent", _, _, _, _, _, _, rfl, rfl⟩
              | true =>
                cases dd with
                | none =>
                  rw [show vOI none = V.non from rfl]
                  have hy := hyes (cN true rfl)
                  tm_at "go"
                  refine gapp_R (d := ((j : Int), ky, vl)) (by tm_at "sRpl") hz9 (rv_tri (by tm_at "sSel") rv_int (rv_str gk) (rv_str gv)) ?_
                  tm_at "go"
                  exact ⟨_, by rw [hy]; tm_at "ent", _, _, _, _, _, _, rfl, rfl⟩
                | some kk =>
                  rw [show vOI (some kk) = V.int kk from rfl]
                  have hsb : (!true || seenB (S.pa b) (tm, ky, vl, some kk, kd)) = decide (endOf (S.pa b) kk = some keptS) := rfl
                  tm_at "go"
                  rw [endD_get hkd]
                  cases ce : endOf (S.pa b) kk with
                  | none =>
                    show GOp T _ (compareOp CmpOp.Eq) V.non _ _ _
                    refine go_eqS rfl ?_
                    tm_at "go"
                    rw [if_neg (by simp)]
                    tm_at "go"
                    exact ⟨_, by rw [hno (cN false (by rw [hsb, ce]; rfl))]; tm_at "ent", _, _, _, _, _, _, rfl, rfl⟩
                  | some ks =>
                    show GOp T _ (compareOp CmpOp.Eq) (V.str ks) _ _ _
                    tm_at "go"
                    tm_at "if"
                    · rename_i c4
                      have hy := hyes (cN true (by rw [hsb, ce]; exact decide_eq_true (congrArg some c4)))
                      tm_at "go"
                      refine gapp_R (d := ((j : Int), ky, vl)) (by tm_at "sRpl") hz9 (rv_tri (by tm_at "sSel") rv_int (rv_str gk) (rv_str gv)) ?_
                      tm_at "go"
                      exact ⟨_, by rw [hy]; tm_at "ent", _, _, _, _, _, _, rfl, rfl⟩
                    · rename_i c4
                      tm_at "go"
                      exact ⟨_, by rw [hno (cN false (by rw [hsb, ce]; exact decide_eq_false fun z => c4 (Option.some.inj z)))]; tm_at "ent", _, _, _, _, _, _, rfl, rfl⟩
            · rename_i c3
              have c3 : ¬ kd = rowS := c3
              tm_at "go"
              exact ⟨_, by rw [hno (by rw [decide_eq_false c3, Bool.and_false, Bool.false_and])]; tm_at "ent", _, _, _, _, _, _, rfl, rfl⟩
          · rename_i c2
            have c2 : ¬ (j : Int) < m := c2
            tm_at "go"
            exact ⟨_, by rw [hno (by rw [decide_eq_false c2, Bool.and_false, Bool.false_and, Bool.false_and])]; tm_at "ent", _, _, _, _, _, _, rfl, rfl⟩
        · rename_i c1
          have c1 : ¬ mark ≤ (j : Int) := c1
          tm_at "go"
          exact ⟨_, by rw [hno (by rw [decide_eq_false c1, Bool.false_and, Bool.false_and, Bool.false_and])]; tm_at "ent", _, _, _, _, _, _, rfl, rfl⟩
      · rintro σ' L' ⟨u7, u8, u9, u10, u11, u12, rfl, rfl⟩
        have e9 : readP (S.pa b) mark m wt (rowsE (S.pa b)).length = readF (S.pa b) mark m wt := by
          unfold readP readF rowsE
          rw [List.length_mapIdx, List.take_of_length_le (by rw [List.length_zipIdx]; exact Nat.le_refl _)]
        rw [e9]
        refine gss_cons ?_
        tm_at "go"
        refine gc_tupleR (by tm_at "sSel") fun v2 => ?_
        refine Clo.mk (k v2) (Fit.ent ?_)
        refine Fit.trans (L1 := DeedsP Kf o S :: Val (rTl rRw) v2 (readF (S.pa b) mark m wt) :: R) (dp_want b ew ?_) (by tm_at "fit")
        refine Fit.trans (L1 := LogP Kf (A.lg b) (S.pa b).length 8 0 ((S.pa b).length : Nat) (rowsE (S.pa b)) :: pt (A.hd b) (.dK (wdQ qs)) :: TupsP wtQ qs :: Val (rTl rRw) v2 (readF (S.pa b) mark m wt) :: ptZ Kf o A S b (ObD wkO A.ws :: R)) (by tm_at "fit") ?_
        refine Fit.trans (part_fold hq) ?_
        tm_at "fit"
end
local macro_rules | `(tactic| tm_at "gF") => `(tactic| ((guard_target = (IsIns _ _ _ _ _ ∧ _)); (with_reducible refine And.intro ?hh ?_); (case hh => exact ins_dp (by tm_at "sSel") (fun _ _ _ _ _ _ => by tm_at "sNoF") (by rfl))))
abbrev chO (K : PySem.W.Frag) (dx od : Addr) (t : Int) : HO := .ins (He.ga K "Chain") dx [("deeds", .ref od), ("giver", .str chS), ("goal", .int 1), ("group", .str grS), ("turn", .int t)]
theorem gm_get {gm : MkD} {m : Nat} (h : GmOk gm m) : (valV (dM gm) [Sum.inr grS, Sum.inl 0]).getD (V.int 0) = V.int (m : Nat) := by
  rcases h with ⟨rfl, rfl⟩ | rfl
  · rfl
  · show (valV [([Sum.inr grS, Sum.inl 0], V.int (m : Nat))] [Sum.inr grS, Sum.inl 0]).getD (V.int 0) = _
    rw [valV_cons, if_pos rfl]; rfl
section
variable {T : List (Addr × Str)} {P : Program} {w : World} {Kf : PySem.W.Frag} {mg : Str → Option Value} {base : Heap} {f : Addr} {fd : FuncData}
def spCI8 (Kf : PySem.W.Frag) : SpL := fun vs L K kx => ∃ (c dx od : Addr) (S : DS) (R : List SA), vs = [.ref c, .ref od, .str chS, .int 1, .str grS] ∧ L = pt c (.ins (He.ga Kf "Chain") dx []) :: DeedsP Kf od S :: R ∧ DI S ∧ Bd 299 S ∧ K .non (pt c (chO Kf dx od ((sget S.tu chS).getD 0 + 1)) :: DeedsP Kf od (S.turn chS) :: R)
theorem ok_chi (fx : Fx Kf mg) (hbt : MeAt T P w Kf mg base 6 "Deeds" "begin_turn" (spBT Kf)) (F : FunD Kf "__init__" "Chain.__init__" (defArgs s_Chain__init) (defBody s_Chain__init) (defScope s_Chain__init) [] [] f fd) : FnOk P w Kf mg base (L2.CX P w) 7 f fd ["self", "deeds", "giver", "goal", "group"] (spOf T (spCI8 Kf)) := by
  refine def_in F sc_Chain__init (fun vs L K kx h => ?_) (fun A outer s H E hr n vs L KK kx h hx σ hσ => ?_)
  · obtain ⟨c, dx, od, S, R, rfl, _⟩ := h; rfl
  · obtain ⟨c, dx, od, S, R, rfl, rfl, di, bd, k⟩ := h
    obtain rfl : σ = [some (.ref c), some (.ref od), some (.str chS), some (.int 1), some (.str grS)] := hσ
    cases fx
    refine gss_cons ?_
    tm_at "go"
    refine CallS.mk (S := spBT Kf) ⟨od, chS, S, _, rfl, rfl, di, bd, ?_⟩ (by tm_at "ent")
    tm_at "go"
    exact Clo.mk k (by tm_at "ent")
def spCA8 (Kf : PySem.W.Frag) : SpL := fun vs L K kx => ∃ (c dx od : Addr) (t : Int) (S : DS) (R : List SA), vs = [.ref c] ∧ L = pt c (chO Kf dx od t) :: DeedsP Kf od S :: R ∧ DI S ∧ Bd 299 S ∧ ∀ z, K z (pt c (chO Kf dx od ((sget S.tu chS).getD 0 + 1)) :: DeedsP Kf od (S.turn chS) :: R)
theorem ok_cha (fx : Fx Kf mg) (hbt : MeAt T P w Kf mg base 6 "Deeds" "begin_turn" (spBT Kf)) (F : FunD Kf "again" "Chain.again" (defArgs s_Chain_again) (defBody s_Chain_again) (defScope s_Chain_again) [] [] f fd) : FnOk P w Kf mg base (L2.CX P w) 7 f fd ["self"] (spOf T (spCA8 Kf)) := by
  refine def_in F sc_Chain_again (fun vs L K kx h => ?_) (fun A outer s H E hr n vs L KK kx h hx σ hσ => ?_)
  · obtain ⟨c, dx, od, t, S, R, rfl, _⟩ := h; rfl
  · obtain ⟨c, dx, od, t, S, R, rfl, rfl, di, bd, k⟩ := h
    obtain rfl : σ = [some (.ref c)] := hσ
    cases fx
    refine gss_cons ?_
    tm_at "go"
    refine CallS.mk (S := spBT Kf) ⟨od, chS, S, pt c (chO Kf dx od t) :: R, rfl, rfl, di, bd, ?_⟩ (by tm_at "ent")
    tm_at "go"
    exact Clo.mk (k _) (by tm_at "ent")
end
local macro_rules | `(tactic| tm_at "gF") => `(tactic| ((guard_target = (IsIns _ _ _ _ _ ∧ _)); (with_reducible refine And.intro ?hh ?_); (case hh => exact ins_dp (by tm_at "sSel") (fun _ _ _ _ _ _ => by tm_at "sNoF") (by rfl))))
theorem go_eqO {T : List (Addr × Str)} {X : Cx} {L : List SA} {K : GK} {s : Option Str} {z : Str} (k : K (.bl (decide (s = some z))) L) : GOp T X (compareOp .Eq) (vOpt s) (.str z) L K := by
  cases s with
  | none => exact go_eqS rfl (by rw [show decide (vOpt none = V.str z) = decide ((none : Option Str) = some z) by simp [vOpt]]; exact k)
  | some s => exact go_eqT (by rw [show decide (s = z) = decide (some s = some z) by simp]; exact k)
def rowsV (n : Nat) : List Str := (List.range n).map fun k : Nat => numT (k : Int)
theorem rowsV_ok {n : Nat} (hn : n ≤ 6) {v : Str} (h : v ∈ rowsV n) : strGood v ∧ strGood (wrS v) ∧ (Str.ofString "<").length + v.length ≤ 100 ∧ (Str.ofString "<" ++ v).length + (Str.ofString ">").length ≤ 100 := by
  obtain ⟨k, hk, rfl⟩ := List.mem_map.mp h
  have hk := List.mem_range.mp hk
  have q : ∀ k : Nat, k < 6 → (PyData.canLay0 (.str (numT (k : Int))) = true ∧ PyData.canLay0 (.str (wrS (numT (k : Int)))) = true ∧ (Str.ofString "<").length + (numT (k : Int)).length ≤ 100 ∧ (Str.ofString "<" ++ numT (k : Int)).length + (Str.ofString ">").length ≤ 100) := by decide +kernel
  exact q k (by omega)
theorem kS_good : strGood kS := by unfold strGood; decide +kernel
def RWs (vs : List Str) (m : Nat) : List (Int × Str × Str) := ((vs.zipIdx).drop m).map fun q => ((q.2 : Int), kS, q.1)
theorem RWs_len (vs : List Str) (m : Nat) : (RWs vs m).length = vs.length - m := by simp [RWs]
section
variable {T : List (Addr × Str)} {P : Program} {w : World} {Kf : PySem.W.Frag} {mg : Str → Option Value} {base : Heap} {f : Addr} {fd : FuncData}
def spST (Kf : PySem.W.Frag) : SpL := fun ws L K kx => ∃ (c dx od : Addr) (t : Int) (n m q N : Nat) (stop : Option Str) (S : DS) (R : List SA), ws = [.ref c, .int 0, .int (q : Nat), vOpt stop] ∧ L = pt c (chO Kf dx od t) :: DeedsP Kf od S :: R ∧ n ≤ 6 ∧ CI (rowsV n) S m ∧ Bd N S ∧ N ≤ 280 ∧ sget S.tu chS = some t ∧ 1 ≤ q ∧ q ≤ 3 ∧ (∀ z, stop = some z → z ∈ [Str.ofString "begun", Str.ofString "put", Str.ofString "marked"]) ∧
  ∀ S' z, StepR (rowsV n) S m q stop S' z → Bd (N + 8) S' → S'.tu = S.tu → K (.int (z : Nat)) (pt c (chO Kf dx od t) :: DeedsP Kf od S' :: R)
theorem ok_st (fx : Fx Kf mg) (hrd : MeAt T P w Kf mg base 3 "Deeds" "read" (spRD Kf)) (hbg : MeAt T P w Kf mg base 2 "Deeds" "begin" (spBG Kf)) (hpt : MeAt T P w Kf mg base 5 "Deeds" "put" (spPT Kf)) (hkm : MeAt T P w Kf mg base 2 "Deeds" "keep_mark" (spKM Kf)) (hfn : MeAt T P w Kf mg base 6 "Deeds" "finish" (spFN Kf)) (F : FunD Kf "step" "Chain.step" (defArgs s_Chain_step) (defBody s_Chain_step) (defScope s_Chain_step) [] [] f fd) : FnOk P w Kf mg base (L2.CX P w) 7 f fd ["self", "part", "most", "stop"] (spOf T (spST Kf)) := by
  refine def_in F sc_Chain_step (fun vs L K kx h => ?_) (fun A outer s H E hr n vs L KK kx h hx σ hσ => ?_)
  · obtain ⟨c, dx, od, t, n, m, q, N, stop, S, R, rfl, _⟩ := h; rfl
  · obtain ⟨c, dx, od, t, nn, m, q, N, stop, S, R, rfl, rfl, hn, ci, bd, hN, ht, hq1, hq3, hst, k⟩ := h
    obtain rfl : σ = [some (.ref c), some (.int 0), some (.int (q : Nat)), some (vOpt stop), none, none, none, none, none, none] := hσ
    cases fx
    have hvl : (rowsV nn).length = nn := by simp [rowsV]
    have hml := ci.le
    have hsc : strGood chS := by unfold strGood; decide +kernel
    refine gss_cons ?_
    tm_at "gs"
    refine dp_in0 (by tm_at "sSel") fun A ew => ?_
    refine gss_cons ?_
    tm_at "go"
    rename_i tq
    refine gget (dfact_t (kt := [.inr grS, .inl 0]) (by tm_at "sSel") (fun H hs => hs.getP pers_tup (show Sel _ (pt tq (.tup [.str grS, .int 0])) _ by tm_at "sSel"))) ?_
    rw [gm_get ci.gm]
    tm_at "gs"
    refine GSs.ent (L' := DeedsP Kf od S :: pt c (chO Kf dx od t) :: R) (Fit.ent (dp_want0 ew (by tm_at "fit"))) ?_
    refine gss_cons ?_
    tm_at "go"
    refine CallS.mk (S := spRD Kf) ⟨od, false, true, ((m : Nat) : Int), S, pt c (chO Kf dx od t) :: R, rfl, rfl, ci.di, bd.mono (by omega), fun mm v hmm => ?_⟩ Ent.refl
    have hmm2 : mm = ((rowsV nn).length : Int) := by
      rw [if_pos rfl] at hmm
      have : firsts S false = [] := by unfold firsts; rw [ci.wk]; rfl
      rw [this, List.nil_append, List.mem_singleton, ci.p0, List.length_map] at hmm
      exact hmm.1
    rw [hmm2, ci.p0, lone_read]
    rw [show ((rowsV nn).zipIdx.drop m).map (fun q => ((q.2 : Int), kS, q.1)) = RWs (rowsV nn) m from rfl]
    tm_at "go"
    refine gsl_tl (rv_val (by tm_at "sSel")) fun v2 => ?_
    rw [cut_take]
    have hrl : ((RWs (rowsV nn) m).take q).length = min q (nn - m) := by rw [List.length_take, RWs_len, hvl]
    generalize hRW : (RWs (rowsV nn) m).take q = RW at hrl
    have hRWat : ∀ (i : Nat) r, RW[i]? = some r → ∃ v, (rowsV nn)[m + i]? = some v ∧ r = (((m + i : Nat) : Int), kS, v) := fun i r hi => by
      rw [← hRW, List.getElem?_take] at hi
      by_cases c : i < q
      · rw [if_pos c] at hi; exact lone_at hi
      · rw [if_neg c] at hi; cases hi
    tm_at "gs"
    refine GSs.ent (L' := Val (rTl rRw) v2 RW :: DeedsP Kf od S :: pt c (chO Kf dx od t) :: R) (by tm_at "ent") ?_
    refine gss_cons ?_
    tm_at "go"
    refine go_eqE hr (sees_rv (rv_val (by tm_at "sSel")) (by decide)) (sees_nilT (by tm_at "sSel")) (eqv_nilT RW) ?_
    tm_at "go"
    tm_at "if"
    · rename_i h0
      tm_at "go"
      refine Clo.mk (k S 0 (.inl ⟨?_, rfl, rfl⟩) (bd.mono (by omega)) rfl) (by tm_at "ent")
      rw [h0] at hrl
      simp at hrl
      omega
    · rename_i h0
      have hmn : m < nn := by
        rcases Nat.lt_or_ge m nn with h | h
        · exact h
        · exfalso; apply h0; apply List.length_eq_zero_iff.mp; omega
      tm_at "gs"
      refine gss_cons ?_
      tm_at "go"
      have hwn : sget S.wk chS = none := by rw [ci.wk]; rfl
      refine CallS.mk (S := spBG Kf) ⟨od, chS, t, S, Val (rTl rRw) v2 RW :: pt c (chO Kf dx od t) :: R, rfl, rfl, bd.mono (by omega), ci.di.nn, ht, fun _ => ?_, fun x hx => by rw [hwn] at hx; cases hx⟩ (by tm_at "ent")
      have cw := ci.begin
      have bd1 := bd.begin chS
      have tu1 : (S.begin chS).tu = S.tu := rfl
      generalize S.begin chS = S1 at cw bd1 tu1
      tm_at "gs"
      refine gss_cons ?_
      tm_at "go"
      refine go_eqO ?_
      tm_at "go"
      tm_at "if"
      · rename_i h1
        tm_at "go"
        exact Clo.mk (k S1 0 (.inr (.inl ⟨by rw [hvl]; exact hmn, by rw [h1]; simp, rfl, 0, [], cw⟩)) (bd1.mono (by omega)) tu1) (by tm_at "ent")
      · rename_i h1
        tm_at "gs"
        refine gss_cons ?_
        refine gs_forI (passes_of rfl) rfl (fun _ => rfl) (git_T rRw ?_)
        tm_at "go"
        refine ⟨RW, rv_val (by tm_at "sSel"), fun i σ' L' => ∃ (u7 u8 u9 : Option V) (S2 : DS), σ' = [some (.ref c), some (.int 0), some (.int (q : Nat)), some (vOpt stop), some (.ref od), some (.int (m : Nat)), some v2, u7, u8, u9] ∧ L' = Val (rTl rRw) v2 RW :: DeedsP Kf od S2 :: pt c (chO Kf dx od t) :: R ∧ CW (rowsV nn) S2 m i [] ∧ Bd (N + 1 + i) S2 ∧ S2.tu = S.tu, ?_, ?_, ?_, ?_⟩
        · exact Fits.mk ⟨_, _, _, S1, rfl, rfl, cw, bd1, tu1⟩ (by tm_at "ent")
        · rintro i σ' L' ⟨u7, u8, u9, S2, rfl, rfl, _⟩
          exact rv_val (by tm_at "sSel")
        · rintro i x Lx σ' L' hi ⟨r, hr2, rfl⟩ ⟨u7, u8, u9, S2, rfl, rfl, cw2, bd2, tu2⟩
          obtain ⟨val, hval, rfl⟩ := hRWat i r hr2
          obtain ⟨g1, g2, g3, g4⟩ := rowsV_ok hn (List.mem_of_getElem? hval)
          have hi2 : i < 3 := by omega
          simp only [List.cons_append, List.nil_append]
          refine gg_tri cInt cStr cStr (rv_val .here) rfl rfl rfl fun _ _ _ => ?_
          tm_at "gs"
          refine gss_cons ?_
          tm_at "go"
          refine go_addS (Nat.le_trans g3 (by rw [sizeLine_eq]; decide)) ?_
          tm_at "go"
          refine go_addS (Nat.le_trans g4 (by rw [sizeLine_eq]; decide)) ?_
          tm_at "go"
          refine CallS.mk (S := spPT Kf) ⟨od, chS, kS, wrS val, t, t, true, S2, Val (rTl rRw) v2 RW :: pt c (chO Kf dx od t) :: R, rfl, rfl, cw2.di, bd2.mono (by omega), kS_good, g2, by rw [tu2]; exact ht, fun _ => ?_, fun h => absurd rfl h⟩ (by tm_at "ent")
          tm_at "go"
          exact ⟨Val (rTl rRw) v2 RW :: DeedsP Kf od (S2.put chS true kS (wrS val)) :: pt c (chO Kf dx od t) :: R, by tm_at "ent", _, _, _, S2.put chS true kS (wrS val), rfl, rfl, cw2.put hval, bd2.put chS true kS (wrS val), tu2⟩
        · rintro σ' L' ⟨u7, u8, u9, S2, rfl, rfl, cw2, bd2, tu2⟩
          have hRl : RW.length ≤ 3 := by omega
          have bd3 : Bd (N + 4) S2 := bd2.mono (by omega)
          refine gss_cons ?_
          tm_at "go"
          refine go_eqO ?_
          tm_at "go"
          tm_at "if"
          · rename_i h2
            tm_at "go"
            exact Clo.mk (k S2 0 (.inr (.inl ⟨by rw [hvl]; exact hmn, by rw [h2]; simp, rfl, _, [], cw2⟩)) (bd3.mono (by omega)) tu2) (by tm_at "ent")
          · rename_i h2
            tm_at "gs"
            refine gss_cons ?_
            tm_at "go"
            obtain ⟨r, hrl2⟩ : ∃ r, atI RW (-1) = some r ∧ RW[RW.length - 1]? = some r := by
              have hne : RW.length - 1 < RW.length := by omega
              refine ⟨RW[RW.length - 1], ?_, List.getElem?_eq_getElem hne⟩
              rcases List.eq_nil_or_concat RW with e | ⟨a, b, e⟩
              · exfalso; rw [e] at hne; simp at hne
              · rw [List.concat_eq_append] at e
                subst e
                rw [atI_lastG]
                simp
            obtain ⟨val, hval, rfl⟩ := hRWat _ r hrl2.2
            refine gi_tli (R := rRw) (rv_val (by tm_at "sSel")) hrl2.1 fun x9 => ?_
            tm_at "go"
            refine gi_tri0 cInt (rv_val (by tm_at "sSel")) ?_
            tm_at "go"
            have eM : (((m + (RW.length - 1) : Nat) : Int) + 1) = ((m + RW.length : Nat) : Int) := by omega
            show spE T (spKM Kf) [.ref od, .str chS, .int t, .str grS, .int 0, .int (((m + (RW.length - 1) : Nat) : Int) + 1)] _ _ _
            rw [eM]
            obtain ⟨w2, hw2, em2⟩ := cw2.get
            refine CallS.mk (S := spKM Kf) ⟨od, chS, grS, t, 0, ((m + RW.length : Nat) : Int), S2, Val (rTl rRw) v2 RW :: pt c (chO Kf dx od t) :: R, rfl, rfl, cw2.di, by rw [tu2]; exact ht, (fun h => by rw [hw2] at h; cases h), fun w hw => ⟨(by rw [hw2] at hw; cases hw; exact em2), ?_⟩⟩ (by tm_at "ent")
            have cw3 := cw2.keep (x := ((m + RW.length : Nat) : Int))
            have bd4 := bd3.keep chS grS 0 ((m + RW.length : Nat) : Int)
            have tu3 : (S2.keep chS grS 0 ((m + RW.length : Nat) : Int)).tu = S.tu := tu2
            generalize S2.keep chS grS 0 ((m + RW.length : Nat) : Int) = S3 at cw3 bd4 tu3
            tm_at "gs"
            refine gss_cons ?_
            tm_at "go"
            refine go_eqO ?_
            tm_at "go"
            tm_at "if"
            · rename_i h3
              tm_at "go"
              exact Clo.mk (k S3 0 (.inr (.inl ⟨by rw [hvl]; exact hmn, by rw [h3]; simp, rfl, _, _, cw3⟩)) (bd4.mono (by omega)) tu3) (by tm_at "ent")
            · rename_i h3
              have hnone : stop = none := by
                cases stop with
                | none => rfl
                | some z =>
                  have := hst z rfl
                  simp only [List.mem_cons, List.not_mem_nil, or_false] at this
                  rcases this with e | e | e
                  · exact absurd (congrArg some e) h1
                  · exact absurd (congrArg some e) h2
                  · exact absurd (congrArg some e) h3
              obtain ⟨w3, hw3, em3⟩ := cw3.get
              tm_at "gs"
              refine gss_cons ?_
              tm_at "go"
              refine CallS.mk (S := spFN Kf) ⟨od, chS, keptS, t, S3, Val (rTl rRw) v2 RW :: pt c (chO Kf dx od t) :: R, rfl, rfl, cw3.di, bd4.mono (by omega), by rw [tu3]; exact ht, .inl rfl, (fun h => by rw [hw3] at h; cases h), fun x hx => ?_⟩ (by tm_at "ent")
              have ci4 := cw3.kept (num := numT x.1) hx
              have bd5 := bd4.endW chS keptS (numT x.1) x (cw3.di.ml _ (mem_of_sget hx))
              have tu4 : (S3.endW chS keptS x (numT x.1)).tu = S.tu := tu3
              generalize S3.endW chS keptS x (numT x.1) = S4 at ci4 bd5 tu4
              tm_at "gs"
              refine gss_cons ?_
              tm_at "go"
              refine Clo.mk (k S4 RW.length (.inr (.inr ⟨by rw [hvl]; exact hmn, hnone, by rw [hvl]; exact hrl, ci4⟩)) (bd5.mono (by omega)) tu4) (by tm_at "ent")
end
local macro_rules | `(tactic| tm_at "gF") => `(tactic| ((guard_target = (IsIns _ _ _ _ _ ∧ _)); (with_reducible refine And.intro ?hh ?_); (case hh => exact ins_dp (by tm_at "sSel") (fun _ _ _ _ _ _ => by tm_at "sNoF") (by rfl))))
def inS : Str := "in"
theorem inS_ne : chS ≠ inS := by decide +kernel
structure C0 (l : List Str) (S : DS) : Prop where
  di : DI S
  p0 : S.pa false = l.map loneR
  p1 : S.pa true = []
  wk : S.wk = []
  gm : S.gm = []
  ct : S.ct = 0
  tu : sget S.tu inS = some 1 ∧ sget S.tu chS = none
theorem C0.new : C0 [] (DS.new.turn inS) := by
  have e : DS.new.turn inS = DS.new.tn inS := rfl
  rw [e]
  refine ⟨DI.start, rfl, rfl, rfl, rfl, rfl, ?_, ?_⟩
  · show sget (sput [] inS _) inS = _
    rw [sget_put, if_pos rfl]; rfl
  · show sget (sput [] inS _) chS = _
    rw [sget_put, if_neg inS_ne]; rfl
theorem C0.put {l : List Str} {S : DS} (h : C0 l S) (v : Str) : C0 (l ++ [v]) (S.put inS false kS v) := by
  have hw : sget S.wk inS = none := by rw [h.wk]; rfl
  refine ⟨(h.di.put inS false kS v).1, ?_, ?_, ?_, h.gm, h.ct, h.tu⟩
  · show (if false = false then S.pa false ++ [(S.ct, kS, v, (sget S.wk inS).map (·.1), rowS)] else S.pa false) = _
    rw [if_pos rfl, hw, h.p0, h.ct, List.map_append]; rfl
  · show (if true = false then S.pa false ++ [(S.ct, kS, v, (sget S.wk inS).map (·.1), rowS)] else S.pa true) = []
    rw [if_neg (by decide)]; exact h.p1
  · show wput S.wk inS false _ = []
    rw [h.wk]; rfl
theorem C0.ci {l : List Str} {S : DS} (h : C0 l S) : CI l S 0 := ⟨h.di, h.wk, h.p0, .inl ⟨h.gm, rfl⟩, Nat.zero_le _, by
  have : rowsL S true = [] := by unfold rowsL; rw [h.p1]; rfl
  rw [this]; rfl⟩
theorem stop_at {z : Int} (h0 : 0 ≤ z) (h1 : z < 5) : ∃ s : Option Str, (∀ y, s = some y → y ∈ [Str.ofString "begun", Str.ofString "put", Str.ofString "marked"]) ∧ atI [V.non, V.non, V.str (Str.ofString "begun"), V.str (Str.ofString "put"), V.str (Str.ofString "marked")] z = some (vOpt s) := by
  have : z = 0 ∨ z = 1 ∨ z = 2 ∨ z = 3 ∨ z = 4 := by omega
  rcases this with rfl | rfl | rfl | rfl | rfl
  · exact ⟨none, (fun y h => by cases h), rfl⟩
  · exact ⟨none, (fun y h => by cases h), rfl⟩
  · exact ⟨some (Str.ofString "begun"), (fun y h => by cases h; simp), rfl⟩
  · exact ⟨some (Str.ofString "put"), (fun y h => by cases h; simp), rfl⟩
  · exact ⟨some (Str.ofString "marked"), (fun y h => by cases h; simp), rfl⟩
theorem stepR_none {vs : List Str} {S S' : DS} {m q z : Nat} (ci : CI vs S m) (h : StepR vs S m q none S' z) : ∃ m', CI vs S' m' ∧ (z = 0 → 1 ≤ q → m' = vs.length) ∧ m' = m + z := by
  rcases h with ⟨e1, rfl, rfl⟩ | ⟨_, e2, _⟩ | ⟨e1, _, e3, ci'⟩
  · exact ⟨m, ci, fun _ _ => e1, rfl⟩
  · exact absurd rfl e2
  · exact ⟨m + z, ci', fun h1 h2 => by omega, rfl⟩
theorem stepR_some {vs : List Str} {S S' : DS} {m q z : Nat} {st : Str} (ci : CI vs S m) (h : StepR vs S m q (some st) S' z) : DI S' ∧ CI vs (S'.turn chS) m := by
  rcases h with ⟨e1, rfl, rfl⟩ | ⟨_, e2, _, j, mm, cw⟩ | ⟨e1, e2, _⟩
  · exact ⟨ci.di, ci.turn⟩
  · exact ⟨cw.di, cw.turn⟩
  · cases e2
section
variable {T : List (Addr × Str)} {P : Program} {w : World} {Kf : PySem.W.Frag} {mg : Str → Option Value} {base : Heap} {f : Addr} {fd : FuncData}
def spLC : SpL := fun vs L K kx => ∃ (d : Addr) (R : List SA), vs = [.ref d] ∧ L = dcP d :: R ∧ K (.bl true) (dcP d :: R)
theorem ok_lc (fx : Fx Kf mg) (hro : FnAt T P w Kf mg base 1 "_law_roll" spRoll) (hmd : MkAt T P w Kf mg base 3 "Deeds" (spDI Kf)) (hbt : MeAt T P w Kf mg base 6 "Deeds" "begin_turn" (spBT Kf)) (hpt : MeAt T P w Kf mg base 5 "Deeds" "put" (spPT Kf)) (hmc : MkAt T P w Kf mg base 7 "Chain" (spCI8 Kf)) (hst : MeAt T P w Kf mg base 7 "Chain" "step" (spST Kf)) (hca : MeAt T P w Kf mg base 7 "Chain" "again" (spCA8 Kf)) (hrd : MeAt T P w Kf mg base 3 "Deeds" "read" (spRD Kf)) (F : FunD Kf "_law_chain" "_law_chain" (defArgs s_law_chain) (defBody s_law_chain) (defScope s_law_chain) [] [] f fd) : FnOk P w Kf mg base (L2.CX P w) 9 f fd ["dice"] (spOf T spLC) := by
  refine def_in F sc_law_chain (fun vs L K kx h => ?_) (fun A outer s H E hr n vs L KK kx h hx σ hσ => ?_)
  · obtain ⟨d, R, rfl, _⟩ := h; rfl
  · obtain ⟨d, R, rfl, rfl, k⟩ := h
    obtain rfl : σ = [some (.ref d), none, none, none, none, none, none, none, none, none, none, none] := hσ
    cases fx
    refine gss_cons ?_
    tm_at "go"
    intro od dx0
    refine CallS.mk (S := spDI Kf) ⟨od, dx0, dcP d :: R, rfl, rfl, ⟨rfl, ?_⟩⟩ (by tm_at "ent")
    tm_at "gs"
    refine gss_cons ?_
    tm_at "go"
    refine CallS.mk (S := spBT Kf) ⟨od, inS, DS.new, dcP d :: R, rfl, rfl, DI.start, Bd.new.mono (by omega), ?_⟩ (by tm_at "ent")
    have c0 := C0.new
    have bd0 : Bd 2 (DS.new.turn inS) := Bd.new.turn DI.start inS
    rw [show ((sget DS.new.tu inS).getD 0 + 1 : Int) = 1 from rfl]
    generalize DS.new.turn inS = S0 at c0 bd0
    tm_at "gs"
    refine gss_cons ?_
    refine gs_lcI ow0_law_chain n (by tm_at "sSlot") (by tm_at "sKd") rfl (blkOk_by (N := n_law_chain) (sc := defScope s_law_chain) (by decide +kernel)) (by tm_at "sWp") (fun _ => rfl) rfl (git_N (n.gl (by tm_at "sKd")) (by assumption) rfl ?_)
    tm_at "go"
    refine call_roll (by tm_at "ent") (by decide) (by decide) fun z hz0 hz1 => ?_
    obtain ⟨nn, rfl, hnn⟩ : ∃ nn : Nat, z = (nn : Int) ∧ nn ≤ 6 := ⟨z.toNat, by omega, by omega⟩
    tm_at "go"
    refine ⟨by omega, by omega, fun _ => True.intro, lcgo_g (S := rStr) (as := List.range nn) (by simp) (fun _ => true) (fun k => numT (k : Int)) (by rw [sizeLine_eq]; omega) ?_ ?_⟩
    · rintro D i x Lx a ys hj ⟨rfl, rfl⟩ s' H' C cl fpp
      obtain ⟨hi, rfl⟩ : i < nn ∧ a = i := by
        rw [List.getElem?_eq_some_iff] at hj
        obtain ⟨h1, h2⟩ := hj
        rw [List.length_range] at h1
        rw [List.getElem_range] at h2
        exact ⟨h1, h2.symm⟩
      simp only [List.nil_append]
      refine gg_blk (kc := kc0_law_chain) n rfl (by decide) fun nb => ?_
      tm_at "go"
      intro s' H' C cl fpp
      refine gts_blk (kc := kc0_law_chain) n rfl (by decide) fun nb => ?_
      tm_at "go"
      refine tst_b (q := true) rfl (fun _ => ?_) (fun z => nomatch z)
      intro s' H' C cl fpp
      refine ge_blk (kc := kc0_law_chain) n rfl (by decide) fun nb => ?_
      tm_at "go"
      obtain ⟨g1, g2⟩ := num_good (k := (a : Int)) (by omega) (by omega)
      refine gc_strI g2 ?_
      exact endm (by tm_at "sSel") (rv_str g1) (by tm_at "fit")
    · intro rl
      rw [List.filter_eq_self.mpr (fun _ _ => rfl), show (List.range nn).map (fun k : Nat => numT (k : Int)) = rowsV nn from rfl]
      have hvl : (rowsV nn).length = nn := by simp [rowsV]
      tm_at "gs"
      refine GSs.ent (L' := LstR rStr rl (rowsV nn) :: DeedsP Kf od S0 :: dcP d :: R) (by tm_at "ent") ?_
      refine gss_cons ?_
      refine gs_forI (passes_of rfl) rfl (fun _ => rfl) (git_R rStr ?_)
      tm_at "go"
      refine ⟨rl, rowsV nn, rfl, ⟨_, .here⟩, fun i σ' L' => ∃ (u4 : Option V) (S : DS), σ' = [some (.ref d), some (.ref od), some (.int 1), some (.ref rl), u4, none, none, none, none, none, none, none] ∧ L' = LstR rStr rl (rowsV nn) :: DeedsP Kf od S :: dcP d :: R ∧ C0 ((rowsV nn).take i) S ∧ Bd (2 + i) S, ?_, ?_, ?_, ?_⟩
      · exact Fits.mk ⟨_, S0, rfl, rfl, c0, bd0⟩ Ent.refl
      · rintro i σ' L' ⟨u4, S, rfl, rfl, _⟩
        exact ⟨_, .here⟩
      · rintro i x Lx σ' L' hi ⟨v, hv, rfl⟩ ⟨u4, S, rfl, rfl, c1, bd1⟩
        obtain ⟨g1, g2, g3, g4⟩ := rowsV_ok hnn (List.mem_of_getElem? hv)
        simp only [List.cons_append, List.nil_append]
        refine gg_val cStr (rv_val .here) fun _ => ?_
        tm_at "gs"
        refine gss_cons ?_
        tm_at "go"
        refine CallS.mk (S := spPT Kf) ⟨od, inS, kS, v, 1, 1, false, S, LstR rStr rl (rowsV nn) :: dcP d :: R, rfl, rfl, c1.di, bd1.mono (by omega), kS_good, g1, c1.tu.1, fun _ => ?_, fun h => absurd rfl h⟩ (by tm_at "ent")
        tm_at "go"
        refine ⟨LstR rStr rl (rowsV nn) :: DeedsP Kf od (S.put inS false kS v) :: dcP d :: R, by tm_at "ent", _, S.put inS false kS v, rfl, rfl, ?_, bd1.put _ _ _ _⟩
        rw [take_succ' hv]
        exact c1.put v
      · rintro σ' L' ⟨u4, S, rfl, rfl, c1, bd1⟩
        rw [List.take_length] at c1
        have ci1 := c1.ci
        have hct := c1.tu.2
        rw [hvl] at bd1
        refine gss_cons ?_
        tm_at "go"
        intro c dx
        refine CallS.mk (S := spCI8 Kf) ⟨c, dx, od, S, LstR rStr rl (rowsV nn) :: dcP d :: R, rfl, rfl, ci1.di, bd1.mono (by omega), ⟨rfl, ?_⟩⟩ (by tm_at "ent")
        rw [hct]
        show GSs T _ _ _ _ _
        have ci2 := ci1.turn
        have bd2 : Bd 10 (S.turn chS) := (bd1.turn ci1.di chS).mono (by omega)
        have ht2 := turn_tu S chS
        rw [hct] at ht2
        generalize S.turn chS = S2 at ci2 bd2 ht2
        tm_at "gs"
        refine gss_cons ?_
        refine gs_forI (passes_of rfl) rfl (fun _ => rfl) (git_N (n.gl (by tm_at "sKd")) (by assumption) rfl ?_)
        tm_at "go"
        refine ⟨by decide, by decide, fun i σ' L' => ∃ (u6 u7 : Option V) (S : DS) (m : Nat) (t : Int), σ' = [some (.ref d), some (.ref od), some (.int 1), some (.ref rl), u4, some (.ref c), u6, u7, none, none, none, none] ∧ L' = pt c (chO Kf dx od t) :: DeedsP Kf od S :: LstR rStr rl (rowsV nn) :: dcP d :: R ∧ CI (rowsV nn) S m ∧ Bd (10 + 10 * i) S ∧ sget S.tu chS = some t, ?_, fun i σ' L' _ => True.intro, ?_, ?_⟩
        · exact Fits.mk ⟨_, _, S2, 0, _, rfl, rfl, ci2, bd2, ht2⟩ Ent.refl
        · rintro i x Lx σ' L' hi ⟨rfl, rfl⟩ ⟨u6, u7, S3, m, t, rfl, rfl, ci3, bd3, ht3⟩
          have hi : i < 8 := hi
          simp only [List.nil_append]
          tm_at "gs"
          refine gss_cons ?_
          tm_at "go"
          refine call_roll (by tm_at "ent") (by decide) (by decide) fun z0 hz0 hz1 => ?_
          obtain ⟨stop, hstop, estop⟩ := stop_at hz0 hz1
          refine gi_lst (v := vOpt stop) (.there .here) estop ?_
          tm_at "gs"
          refine GSs.ent (L' := pt c (chO Kf dx od t) :: DeedsP Kf od S3 :: LstR rStr rl (rowsV nn) :: dcP d :: R) (by tm_at "ent") ?_
          refine gss_cons ?_
          tm_at "go"
          refine call_roll (by tm_at "ent") (by decide) (by decide) fun z1 hz2 hz3 => ?_
          obtain ⟨q, hq⟩ : ∃ q : Nat, 1 + z1 = (q : Int) := ⟨(1 + z1).toNat, by omega⟩
          tm_at "go"
          rw [hq]
          refine CallS.mk (S := spST Kf) ⟨c, dx, od, t, nn, m, q, 10 + 10 * i, stop, S3, LstR rStr rl (rowsV nn) :: dcP d :: R, rfl, rfl, hnn, ci3, bd3, by omega, ht3, by omega, by omega, hstop, fun S4 z hs bd4 tu4 => ?_⟩ (by tm_at "ent")
          have ht4 : sget S4.tu chS = some t := by rw [tu4]; exact ht3
          tm_at "gs"
          refine gss_cons ?_
          cases stop with
          | none =>
            obtain ⟨m', ci4, _⟩ := stepR_none ci3 hs
            rw [show vOpt none = V.non from rfl]
            tm_at "go"
            exact ⟨_, Ent.refl, _, _, S4, m', t, rfl, rfl, ci4, bd4.mono (by omega), ht4⟩
          | some st =>
            obtain ⟨di4, ci4⟩ := stepR_some ci3 hs
            rw [show vOpt (some st) = V.str st from rfl]
            tm_at "go"
            refine CallS.mk (S := spCA8 Kf) ⟨c, dx, od, t, S4, LstR rStr rl (rowsV nn) :: dcP d :: R, rfl, rfl, di4, bd4.mono (by omega), fun z => ?_⟩ (by tm_at "ent")
            tm_at "go"
            exact ⟨_, Ent.refl, _, _, S4.turn chS, m, _, rfl, rfl, ci4, (bd4.turn di4 chS).mono (by omega), turn_tu S4 chS⟩
        · rintro σ' L' ⟨u6, u7, S3, m, t, rfl, rfl, ci3, bd3, ht3⟩
          have bd3 : Bd 90 S3 := bd3
          have hml := ci3.le
          rw [hvl] at hml
          refine gss_cons ?_
          refine gs_while (fun k σ' L' => ∃ (S : DS) (m : Nat) (tn : Int), k = nn - m ∧ σ' = [some (.ref d), some (.ref od), some (.int tn), some (.ref rl), u4, some (.ref c), u6, u7, none, none, none, none] ∧ L' = pt c (chO Kf dx od t) :: DeedsP Kf od S :: LstR rStr rl (rowsV nn) :: dcP d :: R ∧ CI (rowsV nn) S m ∧ Bd (90 + 8 * m) S ∧ sget S.tu chS = some t) (passes_of rfl) (nn - m) ⟨S3, m, 1, rfl, rfl, rfl, ci3, bd3.mono (by omega), ht3⟩ ?_
          rintro k9 σ' L' ⟨S, m, tn, rfl, rfl, rfl, ci, bd, ht⟩
          have hml := ci.le
          rw [hvl] at hml
          tm_at "go"
          refine CallS.mk (S := spST Kf) ⟨c, dx, od, t, nn, m, 2, 90 + 8 * m, none, S, LstR rStr rl (rowsV nn) :: dcP d :: R, rfl, rfl, hnn, ci, bd, by omega, ht, by omega, by omega, (fun z h => by cases h), fun S4 z hs bd4 tu4 => ?_⟩ (by tm_at "ent")
          have ht4 : sget S4.tu chS = some t := by rw [tu4]; exact ht
          obtain ⟨m', ci4, hz, rfl⟩ := stepR_none ci hs
          have hml4 := ci4.le
          rw [hvl] at hml4
          tm_at "go"
          tm_at "if"
          · rename_i hpos
            have hpos : 0 < z := by omega
            tm_at "go"
            exact ⟨nn - (m + z), by omega, _, Ent.refl, S4, m + z, _, rfl, rfl, rfl, ci4, bd4.mono (by omega), ht4⟩
          · rename_i hpos
            have hz0 : z = 0 := by omega
            have hm := hz hz0 (by omega)
            rw [hm] at ci4
            rw [hvl] at ci4
            tm_at "gs"
            refine gss_cons ?_
            tm_at "go"
            refine ge_lcI ow1_law_chain rfl n.ndN (blkOk_by (N := n_law_chain) (sc := defScope s_law_chain) (by decide +kernel)) (by tm_at "sWp") (fun _ => rfl) (git_T rRw ?_)
            tm_at "go"
            refine CallS.mk (S := spRD Kf) ⟨od, true, true, 0, S4, pt c (chO Kf dx od t) :: LstR rStr rl (rowsV nn) :: dcP d :: R, rfl, rfl, ci4.di, bd4.mono (by omega), fun mm v hmm => ?_⟩ (by tm_at "ent")
            rw [if_pos rfl] at hmm
            have hseen := ci4.di.seen hmm.1 hmm.2
            rw [ci4.sn, List.take_of_length_le (Nat.le_of_eq hvl)] at hseen
            have hrlen : (readF (S4.pa true) 0 mm true).length = nn := by
              have := congrArg List.length hseen
              rw [List.length_map, List.length_map, hvl] at this
              exact this
            generalize readF (S4.pa true) 0 mm true = ds at hseen hrlen
            tm_at "go"
            refine ⟨ds, rv_val (by tm_at "sSel"), fun A1 => rv_val (by tm_at "sSel"), lcgo_g (S := rStr) (as := ds) rfl (fun _ => true) (fun q => q.2.2) (by rw [hrlen, sizeLine_eq]; omega) ?_ ?_⟩
            · rintro D i x Lx a ys hj ⟨a', ha', rfl⟩ s' H' C cl fpp
              obtain rfl : a = a' := by rw [hj] at ha'; exact Option.some.inj ha'
              simp only [List.cons_append, List.nil_append]
              refine gg_blk (kc := kc1_law_chain) n rfl (by decide) fun nb => ?_
              refine gg_tri cInt cStr cStr (rv_val .here) rfl rfl rfl fun _ _ g3 => ?_
              tm_at "go"
              intro s' H' C cl fpp
              refine gts_blk (kc := kc1_law_chain) n rfl (by decide) fun nb => ?_
              tm_at "go"
              refine tst_b (q := true) rfl (fun _ => ?_) (fun z => nomatch z)
              intro s' H' C cl fpp
              refine ge_blk (kc := kc1_law_chain) n rfl (by decide) fun nb => ?_
              tm_at "go"
              exact endm (by tm_at "sSel") (rv_str g3) (by tm_at "fit")
            · intro D1
              rw [List.filter_eq_self.mpr (fun _ _ => rfl), hseen]
              tm_at "go"
              refine ge_lcI ow2_law_chain rfl n.ndN (blkOk_by (N := n_law_chain) (sc := defScope s_law_chain) (by decide +kernel)) (by tm_at "sWp") (fun _ => rfl) (git_R rStr ?_)
              tm_at "go"
              refine ⟨rl, rowsV nn, rfl, ⟨_, by tm_at "sSel"⟩, fun A1 => ⟨_, by tm_at "sSel"⟩, lcgo_g (S := rStr) (as := rowsV nn) rfl (fun _ => true) wrS (by rw [hvl, sizeLine_eq]; omega) ?_ ?_⟩
              · rintro D2 i x Lx a ys hj ⟨a', ha', rfl⟩ s' H' C cl fpp
                obtain rfl : a = a' := by rw [hj] at ha'; exact Option.some.inj ha'
                obtain ⟨g1, g2, g3, g4⟩ := rowsV_ok hnn (List.mem_of_getElem? hj)
                simp only [List.cons_append, List.nil_append]
                refine gg_blk (kc := kc2_law_chain) n rfl (by decide) fun nb => ?_
                refine gg_val cStr (rv_val .here) fun _ => ?_
                tm_at "go"
                intro s' H' C cl fpp
                refine gts_blk (kc := kc2_law_chain) n rfl (by decide) fun nb => ?_
                tm_at "go"
                refine tst_b (q := true) rfl (fun _ => ?_) (fun z => nomatch z)
                intro s' H' C cl fpp
                refine ge_blk (kc := kc2_law_chain) n rfl (by decide) fun nb => ?_
                tm_at "go"
                refine go_addS (Nat.le_trans g3 (by rw [sizeLine_eq]; decide)) ?_
                tm_at "go"
                refine go_addS (Nat.le_trans g4 (by rw [sizeLine_eq]; decide)) ?_
                exact endm (by tm_at "sSel") (rv_scal (d := wrS a) cStr g2) (by tm_at "fit")
              · intro D2
                rw [List.filter_eq_self.mpr (fun _ _ => rfl)]
                refine go_eqE hr (sees_lst (R := rStr) (l := D1) (ds := (rowsV nn).map wrS) (by tm_at "sSel") (by decide)) (sees_lst (R := rStr) (l := D2) (ds := (rowsV nn).map wrS) (by tm_at "sSel") (by decide)) (eqv_lst (R := rStr) _ _) ?_
                rw [decide_eq_true rfl]
                refine ⟨true, rfl, iteT ?_⟩
                refine dp_inE0 (by tm_at "sSel") fun A ew => ?_
                tm_at "go"
                rename_i tq
                refine gget (dfact_t (kt := [.inr grS, .inl 0]) (by tm_at "sSel") (fun H hs => hs.getP pers_tup (show Sel _ (pt tq (.tup [.str (Str.ofString "group"), .int 0])) _ by tm_at "sSel"))) ?_
                rw [gm_get ci4.gm]
                tm_at "go"
                rw [hvl, decide_eq_true rfl]
                exact Clo.mk k (by tm_at "ent")
end
abbrev cs8 : List (Str × Str) := [("BadRecord", "record"), ("OutOfLog", "out"), ("Fenced", "fenced"), ("OutOfOrder", "order"), ("NotDue", "due"), ("BadPlan", "plan"), ("BadText", "text"), ("TooLarge", "large")]
theorem told_at {Kf : PySem.W.Frag} {mg : Str → Option Value} {fd : FuncData} (F : FunD Kf "_law_told" "_law_told" (defArgs s_law_told) (defBody s_law_told) (defScope s_law_told) [] [] (He.ga Kf "_law_told") fd) (gl : mg "_law_told" = some (.ref (He.ga Kf "_law_told"))) (cl : ∀ q ∈ cs8, mg q.1 = some (.ref (He.ga Kf q.1))) : ToldAt Kf mg "_law_told" cs8 := by
  refine ⟨⟨fd, _, _, _, n_law_told, "what", _, _, _, _, _, _, F, F.bindsN fun kV doc pm an cdv ct us hl => match us, hl with | [u], _ => rfl, sc_law_told.fs, rfl, .inl rfl, rfl, ?_, fun _ => rfl, rfl, rfl⟩, gl, cl⟩
  repeat (first | exact THds.nil | (refine THds.cons rfl rfl ?_))
local macro_rules | `(tactic| tm_at "gF") => `(tactic| ((guard_target = (IsIns _ _ _ _ _ ∧ _)); (with_reducible refine And.intro ?hh ?_); (case hh => exact ins_dp (by tm_at "sSel") (fun _ _ _ _ _ _ => by tm_at "sNoF") (by rfl))))
def stV : LSt → V | .non => .non | .num k => .int k | .gone => .str (Str.ofString "gone")
abbrev RQ := Addr × Str × LSt
abbrev rowG (q : RQ) : SA := pt q.1 (.lst [.str q.2.1, stV q.2.2])
structure Cat (Kf : PySem.W.Frag) : Prop where
  nd : ∀ P : Str → Prop, P "due" → Catch Kf cs8 (ND Kf) P
  fe : ∀ P : Str → Prop, P "fenced" → Catch Kf cs8 (FE Kf) P
section
variable {T : List (Addr × Str)} {P : Program} {w : World} {Kf : PySem.W.Frag} {mg : Str → Option Value} {base : Heap} {f : Addr} {fd : FuncData}
def spLE (Kf : PySem.W.Frag) : SpL := fun vs L K kx => ∃ (od td : Addr) (t : Int) (kvs : List (Key × V)) (S : DS) (R : List SA), vs = [.ref od, .ref td] ∧ L = DeedsP Kf od S :: pt td (.dK kvs) :: R ∧ valV kvs (.inr (Str.ofString "p")) = some (.int t) ∧ sget S.tu (Str.ofString "p") = some t ∧ DI S ∧ Bd 290 S ∧ K (.bl true) R
theorem ok_le (fx : Fx Kf mg) (ca : Cat Kf) (hbt : MeAt T P w Kf mg base 6 "Deeds" "begin_turn" (spBT Kf)) (hpt : MeAt T P w Kf mg base 5 "Deeds" "put" (spPT Kf)) (hkm : MeAt T P w Kf mg base 2 "Deeds" "keep_mark" (spKM Kf)) (TD : ToldAt Kf mg "_law_told" cs8)
    (LA : ∀ A outer s H E, LamAt T (bx P w Kf mg base n_law_elder "_law_elder" (defScope s_law_elder) f fd.code A outer s H E))
    (F : FunD Kf "_law_elder" "_law_elder" (defArgs s_law_elder) (defBody s_law_elder) (defScope s_law_elder) [] [] f fd) : FnOk P w Kf mg base (L2.CX P w) 9 f fd ["deeds", "turns"] (spOf T (spLE Kf)) := by
  refine def_in F sc_law_elder (fun vs L K kx h => ?_) (fun A outer s H E hr n vs L KK kx h hx σ hσ => ?_)
  · obtain ⟨od, td, t, kvs, S, R, rfl, _⟩ := h; rfl
  · obtain ⟨od, td, t, kvs, S, R, rfl, rfl, hv, ht, di, bd, k⟩ := h
    obtain rfl : σ = [some (.ref od), some (.ref td), none] := hσ
    have LA1 := LA A outer s H E
    cases fx
    have gk2 : strGood (Str.ofString "v") := by unfold strGood; decide +kernel
    refine gss_cons ?_
    tm_at "go"
    refine gi_d hr (v := .int t) (by rw [← hv]; tm_at "sDF") ?_
    tm_at "gs"
    refine gss_cons ?_
    tm_at "go"
    refine CallS.mk (S := spBT Kf) ⟨od, Str.ofString "p", S, pt td (.dK kvs) :: R, rfl, rfl, di, bd.mono (by omega), ?_⟩ (by tm_at "ent")
    have ht2 := turn_tu S (Str.ofString "p")
    rw [ht] at ht2
    have bd2 := bd.turn di (Str.ofString "p")
    have di2 : DI (S.turn (Str.ofString "p")) ∧ sget (S.turn (Str.ofString "p")).wk (Str.ofString "p") = none := by
      unfold DS.turn
      cases e : sget S.wk (Str.ofString "p") with
      | none => exact ⟨di.tu _, e⟩
      | some w =>
        refine ⟨((di.tu _).endW (S := S.tn (Str.ofString "p")) e (.inr rfl)).1, ?_⟩
        show sget (S.wk.filter _) _ = none
        rw [sget_filter, if_pos rfl]
    generalize S.turn (Str.ofString "p") = S2 at ht2 bd2 di2
    tm_at "gs"
    refine gss_cons ?_
    tm_at "go"
    refine ge_told n (by tm_at "sKd") TD LA1 (k := 6) (L2.Room.mono hr (by decide)) (LamX.lamS_by (by show LamX.lamSB (defScope s_law_elder) _ = true; decide +kernel)) rfl (fun _ _ _ _ _ => rfl) rfl (by decide +kernel) fun A1 outer1 s1 H1 E1 f1 c1 hr1 n1 hx1 => ?_
    tm_at "go"
    refine CallS.mk (S := spPT Kf) ⟨od, Str.ofString "p", Str.ofString "k", Str.ofString "v", t, t + 1, false, S2, pt td (.dK kvs) :: R, rfl, rfl, di2.1, bd2.mono (by omega), kS_good, gk2, ht2, fun h => by exfalso; omega, fun _ => ca.fe _ ?_⟩ (by tm_at "ent")
    tm_at "go"
    rw [if_neg (by simp)]
    tm_at "gs"
    refine gss_cons ?_
    tm_at "go"
    refine ge_told n (by tm_at "sKd") TD LA1 (k := 6) (L2.Room.mono hr (by decide)) (LamX.lamS_by (by show LamX.lamSB (defScope s_law_elder) _ = true; decide +kernel)) rfl (fun _ _ _ _ _ => rfl) rfl (by decide +kernel) fun A1 outer1 s1 H1 E1 f1 c1 hr1 n1 hx1 => ?_
    tm_at "go"
    refine CallS.mk (S := spKM Kf) ⟨od, Str.ofString "p", Str.ofString "g", t + 1, 0, 1, S2, pt td (.dK kvs) :: R, rfl, rfl, di2.1, ht2, fun _ => ca.nd _ ?_, fun w hw => by rw [di2.2] at hw; cases hw⟩ (by tm_at "ent")
    tm_at "go"
    rw [if_neg (by simp)]
    refine gb_or1 (gt_cmp rfl ?_)
    refine dp_inE0 (by tm_at "sSel") fun A ew => ?_
    tm_at "go"
    rw [ad_none ew di2.2]
    refine iteNone ?_
    tm_at "gs"
    refine gss_cons ?_
    tm_at "go"
    exact Clo.mk k (by tm_at "ent")
end
def sureI (ls : List (Str × LSt)) (j : Nat) : List Str := ((ls.take j).filter fun r => decide (r.2 = .non)).map (·.1)
theorem sureI_snoc {ls : List (Str × LSt)} {j : Nat} {r : Str × LSt} (h : ls[j]? = some r) : sureI ls (j + 1) = sureI ls j ++ if r.2 = .non then [r.1] else [] := by
  unfold sureI
  rw [take_succ' h, List.filter_append, List.map_append]
  congr 1
  by_cases c : r.2 = .non
  · rw [if_pos c, List.filter_cons, if_pos (decide_eq_true c)]; rfl
  · rw [if_neg c, List.filter_cons, if_neg (by simpa using c)]; rfl
theorem sure_brk {ls : List (Str × LSt)} {j : Nat} {r : Str × LSt} (h : ls[j]? = some r) (hn : isN r.2 = true) (h0 : ∀ x ∈ ls.take j, isN x.2 = false) : sureL ls = sureI ls j := by
  unfold sureL sureI
  congr 2
  have e : ls = ls.take j ++ r :: ls.drop (j + 1) := split_at h
  conv => lhs; rw [e]
  rw [List.takeWhile_append_of_pos fun x hx => by rw [h0 x hx]; rfl, List.takeWhile_cons, if_neg (by rw [hn]; simp), List.append_nil]
theorem sure_end {ls : List (Str × LSt)} (h0 : ∀ x ∈ ls, isN x.2 = false) : sureL ls = sureI ls ls.length := by
  rw [sure_nn h0]
  unfold sureI
  rw [List.take_length]
abbrev rwL (rl : Addr) (r : Bool → Addr) (ds : Bool → List RQ) (R : List SA) : List SA := pt rl (.lst [.ref (r false), .ref (r true)]) :: ObDL rowG (fun q => q.1) (r false) (ds false) :: ObDL rowG (fun q => q.1) (r true) (ds true) :: R
theorem stV_in (s : LSt) : inV (stV s) [V.non, V.str (Str.ofString "gone")] = !isN s := by
  cases s with
  | non => rfl
  | num k => rfl
  | gone => decide
theorem stV_flat (s : LSt) : flatV (stV s) = true := by cases s <;> rfl
theorem stV_non (s : LSt) : decide (stV s = V.non) = decide (s = .non) := by cases s <;> simp [stV]
theorem gi_lstF {T : List (Addr × Str)} {X : Cx} {L : List SA} {K : GK} {p : Addr} {xs : List V} {i : Int} {v : V} (f : ∀ H, Hs T L H → H p = some (.lst xs)) (ha : atI xs i = some v) (k : K v L) : GIx T X (.ref p) (.int i) L K :=
  GIx.of ix_list fun H hs Q q => ⟨p, xs, i, v, rfl, rfl, SqL.of (f H hs), ha, q _ _ _ k hs⟩
theorem rep_st (s : LSt) (v : Str) : (List.replicate (if decide (stV s = V.non) = true then (1 : Int) else 0).toNat [V.str v]).flatten = (if s = .non then [v] else []).map V.str := by
  rw [stV_non]
  by_cases c : s = .non
  · rw [if_pos c, if_pos (decide_eq_true c)]; rfl
  · rw [if_neg c, if_neg (by simpa using c)]; rfl
section
variable {T : List (Addr × Str)} {P : Program} {w : World} {Kf : PySem.W.Frag} {mg : Str → Option Value} {base : Heap} {f : Addr} {fd : FuncData}
def spLS (Kf : PySem.W.Frag) : SpL := fun vs L K kx => ∃ (od rl : Addr) (r : Bool → Addr) (ds : Bool → List RQ) (S : DS) (R : List SA), vs = [.ref od, .ref rl] ∧ L = DeedsP Kf od S :: rwL rl r ds R ∧ DI S ∧ Bd 300 S ∧ (∀ b, (ds b).map (·.2) = rowsL S b) ∧ (∀ b, ∀ q ∈ ds b, strGood q.2.1) ∧ K (.bl true) L
theorem ok_ls (fx : Fx Kf mg) (hrd : MeAt T P w Kf mg base 3 "Deeds" "read" (spRD Kf)) (F : FunD Kf "_law_seen" "_law_seen" (defArgs s_law_seen) (defBody s_law_seen) (defScope s_law_seen) [] [] f fd) : FnOk P w Kf mg base (L2.CX P w) 4 f fd ["deeds", "rows"] (spOf T (spLS Kf)) := by
  refine def_in F sc_law_seen (fun vs L K kx h => ?_) (fun A outer s H E hr n vs L KK kx h hx σ hσ => ?_)
  · obtain ⟨od, rl, r, ds, S, R, rfl, _⟩ := h; rfl
  · obtain ⟨od, rl, r, ds, S, R, rfl, rfl, di, bd, hds, hgd, k⟩ := h
    obtain rfl : σ = [some (.ref od), some (.ref rl), none, none, none, none, none, none, none] := hσ
    cases fx
    have hdl : ∀ b, (ds b).length ≤ 300 := fun b => by
      have h1 := congrArg List.length (hds b)
      rw [List.length_map] at h1
      have h2 := List.length_filter_le isRow (S.pa b)
      have h3 := bd.pa b
      unfold rowsL at h1
      rw [List.length_map] at h1
      omega
    refine gss_cons ?_
    refine gs_forI (passes_of rfl) rfl (fun _ => rfl) (git_N (n.gl (by tm_at "sKd")) (by assumption) rfl ?_)
    tm_at "go"
    refine ⟨by decide, by decide, fun i σ' L' => ∃ u2 u3 u4 u5 u6 u7 u8, σ' = [some (.ref od), some (.ref rl), u2, u3, u4, u5, u6, u7, u8] ∧ L' = DeedsP Kf od S :: rwL rl r ds R, ?_, fun i σ' L' _ => True.intro, ?_, ?_⟩
    · exact Fits.mk ⟨_, _, _, _, _, _, _, rfl, rfl⟩ Ent.refl
    · rintro i x Lx σ' L' hi ⟨rfl, rfl⟩ ⟨u2, u3, u4, u5, u6, u7, u8, rfl, rfl⟩
      obtain ⟨b, hb⟩ : ∃ b, (i : Int) = bI b := by
        have hi : i < 2 := hi
        have : i = 0 ∨ i = 1 := by omega
        rcases this with rfl | rfl
        · exact ⟨false, rfl⟩
        · exact ⟨true, rfl⟩
      simp only [List.nil_append]
      rw [hb]
      tm_at "gs"
      refine gss_cons ?_
      tm_at "gs"
      rename_i sl0
      refine GSs.ent (Fit.ent (Fit.tl (Fit.tl (Fit.tl (two_parts (F := fun b => ObDL rowG (fun q => q.1) (r b) (ds b)) (b := b)))))) ?_
      refine GSs.ent (L' := ObDL rowG (fun q => q.1) (r b) (ds b) :: pt sl0 (.lst []) :: DeedsP Kf od S :: pt rl (.lst [.ref (r false), .ref (r true)]) :: ObDL rowG (fun q => q.1) (r (!b)) (ds (!b)) :: R) (by tm_at "ent") ?_
      refine GSs.ent (Fit.ent obdl_out) ?_
      refine gss_cons ?_
      refine gs_jn (fun σ' L' => ∃ (u4 u5 : Option V) (sl : Addr), σ' = [some (.ref od), some (.ref rl), some (.int (bI b)), some (.ref sl), u4, u5, u6, u7, u8] ∧ Ent T L' (pt sl (.lst ((sureL (rowsL S b)).map V.str)) :: pt (r b) (.lst ((ds b).map fun q => V.ref q.1)) :: ObD rowG (ds b) :: DeedsP Kf od S :: pt rl (.lst [.ref (r false), .ref (r true)]) :: ObDL rowG (fun q => q.1) (r (!b)) (ds (!b)) :: R)) ?_ ?_
      · refine gs_forI (passes_of rfl) rfl (fun _ => rfl) (git_L ?_)
        tm_at "go"
        refine gi_lst (by tm_at "sSel") at_b ?_
        refine ⟨r b, (ds b).map fun q => V.ref q.1, rfl, ⟨_, by tm_at "sSel"⟩, fun j σ' L' => ∃ (u4 u5 : Option V) (sl : Addr), σ' = [some (.ref od), some (.ref rl), some (.int (bI b)), some (.ref sl), u4, u5, u6, u7, u8] ∧ L' = pt sl (.lst ((sureI (rowsL S b) j).map V.str)) :: pt (r b) (.lst ((ds b).map fun q => V.ref q.1)) :: ObD rowG (ds b) :: DeedsP Kf od S :: pt rl (.lst [.ref (r false), .ref (r true)]) :: ObDL rowG (fun q => q.1) (r (!b)) (ds (!b)) :: R ∧ ∀ x ∈ (rowsL S b).take j, isN x.2 = false, ?_, ?_, ?_, ?_⟩
        · exact Fits.mk ⟨_, _, sl0, rfl, rfl, (by simp)⟩ (by tm_at "ent")
        · rintro j σ' L' ⟨u4, u5, sl, rfl, rfl, _⟩
          exact ⟨_, by tm_at "sSel"⟩
        · rintro j x Lx σ' L' hj ⟨hx2, rfl⟩ ⟨u4, u5, sl, rfl, rfl, h0⟩
          obtain ⟨q, hq, rfl⟩ : ∃ q, (ds b)[j]? = some q ∧ x = V.ref q.1 := by
            rw [List.getElem?_map] at hx2
            cases c : (ds b)[j]? with
            | none => rw [c] at hx2; cases hx2
            | some q => rw [c] at hx2; cases hx2; exact ⟨q, rfl, rfl⟩
          have hrj : (rowsL S b)[j]? = some q.2 := by rw [← hds, List.getElem?_map, hq]; rfl
          have hqm := List.mem_of_getElem? hq
          have hsl : (sureI (rowsL S b) j).length ≤ 300 := by
            have h1 := List.length_filter_le (fun r : Str × LSt => decide (r.2 = .non)) ((rowsL S b).take j)
            rw [List.length_take, ← hds, List.length_map] at h1
            have := hdl b
            unfold sureI
            rw [List.length_map, ← hds]
            omega
          simp only [List.nil_append]
          refine gg_lst (xs := [.str q.2.1, stV q.2.2]) rfl rfl rfl (fun H hs => ?_) ?_
          · obtain ⟨R0, h1⟩ := obd_each (show Sel _ (ObD rowG (ds b)) _ by tm_at "sSel") hs.pcs hqm
            exact Pcs.get h1
          tm_at "gs"
          refine gss_cons ?_
          tm_at "go"
          refine go_ninFl (by tm_at "sSel") (stV_flat _) rfl (stV_in q.2.2) ?_
          rw [Bool.not_not]
          tm_at "go"
          tm_at "if"
          · rename_i hN
            tm_at "go"
            exact ⟨_, _, sl, rfl, by rw [sure_brk hrj hN h0]; tm_at "ent"⟩
          · rename_i hN
            have hN : isN q.2.2 = false := by simpa using hN
            tm_at "gs"
            refine gss_cons ?_
            tm_at "go"
            refine go_rep (xs := [V.str q.2.1]) (by tm_at "sSel") (by split <;> decide) (by split <;> decide) (by rw [sizeLine_eq]; split <;> simp) fun p2 => ?_
            rw [rep_st]
            tm_at "go"
            refine go_catL (by tm_at "sSel") (by tm_at "sSel") (by rw [List.length_map, List.length_map, sizeLine_eq]; split <;> simp <;> omega) fun sl2 => ?_
            rw [← List.map_append, ← sureI_snoc hrj]
            tm_at "go"
            refine ⟨pt sl2 (.lst ((sureI (rowsL S b) (j + 1)).map V.str)) :: pt (r b) (.lst ((ds b).map fun q => V.ref q.1)) :: ObD rowG (ds b) :: DeedsP Kf od S :: pt rl (.lst [.ref (r false), .ref (r true)]) :: ObDL rowG (fun q => q.1) (r (!b)) (ds (!b)) :: R, by tm_at "ent", _, _, sl2, rfl, rfl, fun x hx => ?_⟩
            rw [take_succ' hrj] at hx
            rcases List.mem_append.mp hx with hx | hx
            · exact h0 x hx
            · rw [List.mem_singleton.mp hx]; exact hN
        · rintro σ' L' ⟨u4, u5, sl, rfl, rfl, h0⟩
          have e0 : ((ds b).map fun q => V.ref q.1).length = (rowsL S b).length := by rw [List.length_map, ← hds, List.length_map]
          rw [e0] at h0 ⊢
          rw [List.take_length] at h0
          rw [← sure_end h0]
          exact ⟨_, _, sl, rfl, Ent.refl⟩
      · rintro σ' L' ⟨u4, u5, sl, rfl, t⟩
        refine GSs.ent t ?_
        have hgs : ∀ v ∈ sureL (rowsL S b), strGood v := fun v hv => by
          unfold sureL at hv
          obtain ⟨x, hx, rfl⟩ := List.mem_map.mp hv
          have hx2 := (List.takeWhile_sublist _).subset (List.mem_filter.mp hx).1
          rw [← hds] at hx2
          obtain ⟨q, hq, rfl⟩ := List.mem_map.mp hx2
          exact hgd b q hq
        refine GSs.ent (L' := LstR rStr sl (sureL (rowsL S b)) :: DeedsP Kf od S :: pt (r b) (.lst ((ds b).map fun q => V.ref q.1)) :: ObD rowG (ds b) :: pt rl (.lst [.ref (r false), .ref (r true)]) :: ObDL rowG (fun q => q.1) (r (!b)) (ds (!b)) :: R) (Fit.ent (Fit.trans (Fit.cons .here (Cv.scal cStr hgs) Fit.refl) (by tm_at "fit"))) ?_
        refine gss_cons ?_
        tm_at "go"
        refine ge_lcI ow0_law_seen rfl n.ndN (blkOk_by (N := n_law_seen) (sc := defScope s_law_seen) (by decide +kernel)) (by tm_at "sWp") (fun _ => rfl) (git_T rRw ?_)
        tm_at "go"
        refine CallS.mk (S := spRD Kf) ⟨od, b, true, 0, S, LstR rStr sl (sureL (rowsL S b)) :: pt (r b) (.lst ((ds b).map fun q => V.ref q.1)) :: ObD rowG (ds b) :: pt rl (.lst [.ref (r false), .ref (r true)]) :: ObDL rowG (fun q => q.1) (r (!b)) (ds (!b)) :: R, rfl, rfl, di, bd, fun mm v hmm => ?_⟩ (by tm_at "ent")
        rw [if_pos rfl] at hmm
        have hseen := di.seen hmm.1 hmm.2
        have hrlen : (readF (S.pa b) 0 mm true).length ≤ 300 := by
          unfold readF
          rw [List.length_map]
          have h1 := List.length_filter_le (fun q : PR × Nat => decide ((0 : Int) ≤ (q.2 : Int)) && decide ((q.2 : Int) < mm) && isRow q.1 && (!true || seenB (S.pa b) q.1)) (S.pa b).zipIdx
          rw [List.length_zipIdx] at h1
          have := bd.pa b
          omega
        generalize readF (S.pa b) 0 mm true = dd at hseen hrlen
        tm_at "go"
        refine ⟨dd, rv_val (by tm_at "sSel"), fun A1 => rv_val (by tm_at "sSel"), lcgo_g (S := rStr) (as := dd) rfl (fun _ => true) (fun q => q.2.2) (by rw [sizeLine_eq]; omega) ?_ ?_⟩
        · rintro D i x Lx a ys hj ⟨a', ha', rfl⟩ s' H' C cl fpp
          obtain rfl : a = a' := by rw [hj] at ha'; exact Option.some.inj ha'
          simp only [List.cons_append, List.nil_append]
          refine gg_blk (kc := kc0_law_seen) n rfl (by decide) fun nb => ?_
          refine gg_tri cInt cStr cStr (rv_val .here) rfl rfl rfl fun _ _ g3 => ?_
          tm_at "go"
          intro s' H' C cl fpp
          refine gts_blk (kc := kc0_law_seen) n rfl (by decide) fun nb => ?_
          tm_at "go"
          refine tst_b (q := true) rfl (fun _ => ?_) (fun z => nomatch z)
          intro s' H' C cl fpp
          refine ge_blk (kc := kc0_law_seen) n rfl (by decide) fun nb => ?_
          tm_at "go"
          exact endm (by tm_at "sSel") (rv_str g3) (by tm_at "fit")
        · intro D1
          rw [List.filter_eq_self.mpr (fun _ _ => rfl), hseen]
          tm_at "go"
          refine go_neE hr (sees_lst (R := rStr) (l := D1) (ds := sureL (rowsL S b)) (by tm_at "sSel") (by decide)) (sees_lst (R := rStr) (l := sl) (ds := sureL (rowsL S b)) (by tm_at "sSel") (by decide)) (eqv_lst (R := rStr) _ _) ?_
          refine KB.mk ?_
          rw [if_neg (by simp)]
          tm_at "gs"
          refine gss_cons ?_
          tm_at "go"
          refine ge_lcI ow1_law_seen rfl n.ndN (blkOk_by (N := n_law_seen) (sc := defScope s_law_seen) (by decide +kernel)) (by tm_at "sWp") (fun _ => rfl) (git_T rRw ?_)
          tm_at "go"
          refine CallS.mk (S := spRD Kf) ⟨od, b, false, 0, S, pt (r b) (.lst ((ds b).map fun q => V.ref q.1)) :: ObD rowG (ds b) :: pt rl (.lst [.ref (r false), .ref (r true)]) :: ObDL rowG (fun q => q.1) (r (!b)) (ds (!b)) :: R, rfl, rfl, di, bd, fun mm v2 hmm => ?_⟩ (by tm_at "ent")
          rw [if_neg Bool.false_ne_true] at hmm
          have hall := read_all S b
          rw [← hmm] at hall
          have hrlen2 : (readF (S.pa b) 0 mm false).length ≤ 300 := by
            have h1 := congrArg List.length hall
            rw [List.length_map, List.length_map, ← hds, List.length_map] at h1
            have := hdl b
            omega
          generalize readF (S.pa b) 0 mm false = dd2 at hall hrlen2
          tm_at "go"
          refine ⟨dd2, rv_val (by tm_at "sSel"), fun A1 => rv_val (by tm_at "sSel"), lcgo_g (S := rStr) (as := dd2) rfl (fun _ => true) (fun q => q.2.2) (by rw [sizeLine_eq]; omega) ?_ ?_⟩
          · rintro D i x Lx a ys hj ⟨a', ha', rfl⟩ s' H' C cl fpp
            obtain rfl : a = a' := by rw [hj] at ha'; exact Option.some.inj ha'
            simp only [List.cons_append, List.nil_append]
            refine gg_blk (kc := kc1_law_seen) n rfl (by decide) fun nb => ?_
            refine gg_tri cInt cStr cStr (rv_val .here) rfl rfl rfl fun _ _ g3 => ?_
            tm_at "go"
            intro s' H' C cl fpp
            refine gts_blk (kc := kc1_law_seen) n rfl (by decide) fun nb => ?_
            tm_at "go"
            refine tst_b (q := true) rfl (fun _ => ?_) (fun z => nomatch z)
            intro s' H' C cl fpp
            refine ge_blk (kc := kc1_law_seen) n rfl (by decide) fun nb => ?_
            tm_at "go"
            exact endm (by tm_at "sSel") (rv_str g3) (by tm_at "fit")
          · intro D2
            rw [List.filter_eq_self.mpr (fun _ _ => rfl), hall]
            tm_at "go"
            refine ge_lcI ow2_law_seen rfl n.ndN (blkOk_by (N := n_law_seen) (sc := defScope s_law_seen) (by decide +kernel)) (by tm_at "sWp") (fun _ => rfl) (git_L ?_)
            tm_at "go"
            refine gi_lst (by tm_at "sSel") at_b ?_
            refine ⟨r b, (ds b).map fun q => V.ref q.1, rfl, ⟨_, by tm_at "sSel"⟩, fun A1 => ⟨_, by tm_at "sSel"⟩, lcgo_g (S := rStr) (as := ds b) (by rw [List.length_map]) (fun _ => true) (fun q => q.2.1) (by rw [List.length_map, sizeLine_eq]; have := hdl b; omega) ?_ ?_⟩
            · rintro D i x Lx a ys hj ⟨hx2, rfl⟩ s' H' C cl fpp
              obtain rfl : x = V.ref a.1 := by
                rw [List.getElem?_map, hj] at hx2
                exact (Option.some.inj hx2).symm
              have hqm := List.mem_of_getElem? hj
              simp only [List.nil_append]
              refine gg_blk (kc := kc2_law_seen) n rfl (by decide) fun nb => ?_
              tm_at "go"
              intro s' H' C cl fpp
              refine gts_blk (kc := kc2_law_seen) n rfl (by decide) fun nb => ?_
              tm_at "go"
              refine tst_b (q := true) rfl (fun _ => ?_) (fun z => nomatch z)
              intro s' H' C cl fpp
              refine ge_blk (kc := kc2_law_seen) n rfl (by decide) fun nb => ?_
              tm_at "go"
              refine gi_lstF (xs := [.str a.2.1, stV a.2.2]) (fun H hs => ?_) rfl ?_
              · obtain ⟨R0, h1⟩ := obd_each (show Sel _ (ObD rowG (ds b)) _ by tm_at "sSel") hs.pcs hqm
                exact Pcs.get h1
              exact endm (by tm_at "sSel") (rv_str (hgd b a hqm)) (by tm_at "fit")
            · intro D3
              have e3 : ((ds b).map fun q => q.2.1) = (rowsL S b).map (·.1) := by rw [← hds, List.map_map]; rfl
              rw [List.filter_eq_self.mpr (fun _ _ => rfl), e3]
              refine go_neE hr (sees_lst (R := rStr) (l := D2) (ds := (rowsL S b).map (·.1)) (by tm_at "sSel") (by decide)) (sees_lst (R := rStr) (l := D3) (ds := (rowsL S b).map (·.1)) (by tm_at "sSel") (by decide)) (eqv_lst (R := rStr) _ _) ?_
              refine KB.mk ?_
              rw [if_neg (by simp)]
              tm_at "go"
              refine ⟨DeedsP Kf od S :: rwL rl r ds R, Fit.ent ?_, _, _, _, _, _, _, _, rfl, rfl⟩
              refine Fit.trans (L1 := pt (r b) (.lst ((ds b).map fun q => V.ref q.1)) :: ObD rowG (ds b) :: ObDL rowG (fun q => q.1) (r (!b)) (ds (!b)) :: DeedsP Kf od S :: pt rl (.lst [.ref (r false), .ref (r true)]) :: R) (by tm_at "fit") ?_
              refine Fit.trans (obdl_back (F := rowG) (a := fun q => q.1)) ?_
              refine Fit.trans (two_parts' (F := fun b => ObDL rowG (fun q => q.1) (r b) (ds b)) (b := b)) ?_
              tm_at "fit"
    · rintro σ' L' ⟨u2, u3, u4, u5, u6, u7, u8, rfl, rfl⟩
      refine gss_cons ?_
      tm_at "go"
      exact Clo.id k
end
local macro_rules | `(tactic| tm_at "gF") => `(tactic| ((guard_target = (IsIns _ _ _ _ _ ∧ _)); (with_reducible refine And.intro ?hh ?_); (case hh => exact ins_dp (by tm_at "sSel") (fun _ _ _ _ _ _ => by tm_at "sNoF") (by rfl))))
def forBody : Stmt → List Stmt
  | .For _ _ b _ _ => b
  | _ => []
abbrev lawB : List Stmt := forBody ((defBody s_law).getD 0 (.Pass ⟨0, 0, 0, 0⟩))
abbrev stepB : List Stmt := forBody (lawB.getD 2 (.Pass ⟨0, 0, 0, 0⟩))
def pS : Str := Str.ofString "p"
def qS : Str := Str.ofString "q"
def wkD (wk : List WK0) : List (Key × V) := toK (Sum.inr : Str → Key) V.int (wk.map fun w => (w.1, w.2.1))
def tuD : List (Key × V) := [(Sum.inr pS, V.int 1), (Sum.inr qS, V.int 1)]
theorem wkD_len (wk : List WK0) : (wkD wk).length = wk.length := by simp [wkD, toK]
theorem wkD_get (wk : List WK0) (g : Str) : valV (wkD wk) (Sum.inr g) = (sget wk g).map fun w => V.int w.1 := by
  unfold wkD
  rw [toK_get inr_inj, show (wk.map fun w => (w.1, w.2.1)) = wk.map fun x => (x.1, (fun (x : WKA) => x.1) x.2) from rfl]
  have : ∀ l : List WK0, sget (l.map fun x => (x.1, x.2.1)) g = (sget l g).map (·.1) := fun l => by
    induction l with
    | nil => rfl
    | cons p l ih =>
      rw [List.map_cons, sget_cons, sget_cons, ih]
      by_cases c : p.1 = g
      · rw [if_pos c, if_pos c]; rfl
      · rw [if_neg c, if_neg c]
  rw [this, Option.map_map]; rfl
theorem wkD_snoc {wk : List WK0} {g : Str} {k : Int} (h : sget wk g = none) : putK (wkD wk) (Sum.inr g) (V.int k) = wkD (wk ++ [(g, k, [], [])]) := by
  unfold putK
  rw [if_neg]
  · unfold wkD toK
    rw [List.map_append, List.map_append]; rfl
  · rw [valV_any, wkD_get, h]; simp
theorem wkD_put (wk : List WK0) (g : Str) (b : Bool) (m : Int) : wkD (wput wk g b m) = wkD wk := by
  unfold wkD
  rw [wput_names]
theorem wkD_drop (wk : List WK0) (g : Str) : dropK (wkD wk) (Sum.inr g) = wkD (wk.filter fun x => decide (x.1 ≠ g)) := by
  unfold dropK wkD toK
  rw [List.map_map, List.map_map, List.filter_map]
  congr 1
  refine List.filter_congr fun x _ => ?_
  show decide ((Sum.inr x.1 : Key) ≠ Sum.inr g) = decide (x.1 ≠ g)
  by_cases c : x.1 = g <;> simp [c]
theorem tuD_get {g : Str} (h : g ∈ [pS, qS]) : valV tuD (Sum.inr g) = some (V.int 1) := by
  simp only [List.mem_cons, List.not_mem_nil, or_false] at h
  rcases h with rfl | rfl <;> rfl
structure LP (S : DS) (ds : Bool → List RQ) (j : Nat) : Prop where
  di : DI S
  bd : Bd (4 + j) S
  tp : ∀ g ∈ [pS, qS], sget S.tu g = some 1
  dr : ∀ b, (ds b).map (·.2) = rowsL S b
  gd : ∀ b, ∀ q ∈ ds b, strGood q.2.1
abbrev lawL (Kf : PySem.W.Frag) (od rl td wd : Addr) (r : Bool → Addr) (S : DS) (ds : Bool → List RQ) (R : List SA) : List SA := DeedsP Kf od S :: rwL rl r ds (pt td (.dK tuD) :: pt wd (.dK (wkD S.wk)) :: R)
theorem LP.begin {S : DS} {ds : Bool → List RQ} {j : Nat} (h : LP S ds j) {g : Str} (hg : sget S.wk g = none) : LP (S.begin g) ds (j + 1) := by
  obtain ⟨d, r⟩ := h.di.begin hg
  exact ⟨d, h.bd.begin g, h.tp, fun b => by rw [r]; exact h.dr b, h.gd⟩
theorem LP.mono {S : DS} {ds : Bool → List RQ} {j : Nat} (h : LP S ds j) : LP S ds (j + 1) := ⟨h.di, h.bd.mono (by omega), h.tp, h.dr, h.gd⟩
theorem LP.put {S : DS} {ds : Bool → List RQ} {j : Nat} (h : LP S ds j) {g v : Str} {b : Bool} {a : Addr} (gv : strGood v) : LP (S.put g b kS v) (fun c => if c = b then ds b ++ [(a, v, stNew S g)] else ds c) (j + 1) := by
  obtain ⟨d, r⟩ := h.di.put g b kS v
  refine ⟨d, h.bd.put g b kS v, h.tp, fun c => ?_, fun c q hq => ?_⟩
  · rw [r]
    by_cases cb : c = b
    · rw [if_pos cb, if_pos cb, List.map_append, h.dr]; rfl
    · rw [if_neg cb, if_neg cb, h.dr]
  · by_cases cb : c = b
    · simp only [if_pos cb] at hq
      rcases List.mem_append.mp hq with hq | hq
      · exact h.gd b q hq
      · rw [List.mem_singleton.mp hq]; exact gv
    · simp only [if_neg cb] at hq
      exact h.gd c q hq
def upQ (kind : Str) (k : Int) (q : RQ) : RQ := (q.1, stEnd kind k q.2)
theorem stEnd_1 (kind : Str) (k : Int) (r : Str × LSt) : (stEnd kind k r).1 = r.1 := by unfold stEnd; split <;> rfl
theorem LP.endW {S : DS} {ds : Bool → List RQ} {j : Nat} (h : LP S ds j) {g kind num : Str} {w : WKA} (hg : sget S.wk g = some w) (hk : kind = keptS ∨ kind = leftS) : LP (S.endW g kind w num) (fun c => (ds c).map (upQ kind w.1)) (j + 1) := by
  obtain ⟨d, r⟩ := h.di.endW (num := num) hg hk
  refine ⟨d, h.bd.endW g kind num w (h.di.ml _ (mem_of_sget hg)), h.tp, fun c => ?_, fun c q hq => ?_⟩
  · rw [r, ← h.dr, List.map_map, List.map_map]; rfl
  · obtain ⟨q0, hq0, rfl⟩ := List.mem_map.mp hq
    show strGood (stEnd kind w.1 q0.2).1
    rw [stEnd_1]; exact h.gd c q0 hq0
structure Me (T : List (Addr × Str)) (P : Program) (w : World) (Kf : PySem.W.Frag) (mg : Str → Option Value) (base : Heap) : Prop where
  bg : MeAt T P w Kf mg base 2 "Deeds" "begin" (spBG Kf)
  pt : MeAt T P w Kf mg base 5 "Deeds" "put" (spPT Kf)
  fn : MeAt T P w Kf mg base 6 "Deeds" "finish" (spFN Kf)
theorem ix_b {z : Int} (h0 : 0 ≤ z) (h1 : z < 2) : ∃ b, z = bI b := by
  have : z = 0 ∨ z = 1 := by omega
  rcases this with rfl | rfl
  · exact ⟨false, rfl⟩
  · exact ⟨true, rfl⟩
theorem name_at {z : Int} (h0 : 0 ≤ z) (h1 : z < 2) : ∃ g, g ∈ [pS, qS] ∧ atI [V.str (Str.ofString "p"), V.str (Str.ofString "q")] z = some (.str g) := by
  have : z = 0 ∨ z = 1 := by omega
  rcases this with rfl | rfl
  · exact ⟨pS, by simp, rfl⟩
  · exact ⟨qS, by simp, rfl⟩
def ifT : Stmt → List Stmt
  | .If _ b _ _ => b
  | _ => []
def ifE : Stmt → List Stmt
  | .If _ _ b _ => b
  | _ => []
abbrev pS0 : Stmt := .Pass ⟨0, 0, 0, 0⟩
abbrev updS : Stmt := (ifT ((ifE ((ifE (stepB.getD 1 pS0)).getD 0 pS0)).getD 2 pS0)).getD 1 pS0
theorem stV_num (s : LSt) (k : Int) : scal (stV s) (V.int k) = true ∧ decide (stV s = V.int k) = decide (s = .num k) := by cases s <;> exact ⟨rfl, by simp [stV]⟩
section
variable {T : List (Addr × Str)} {P : Program} {w : World} {Kf : PySem.W.Frag} {mg : Str → Option Value} {base : Heap} {f : Addr} {fd : FuncData}
theorem law_upd (fx : Fx Kf mg) {A : Around} {outer : List Env} {s : Shared} {H : Hp} {E : XK}
    (hr : Room 10 (bx P w Kf mg base n_law "law" (defScope s_law) f fd.code A outer s H E).A) (n : Nm (bx P w Kf mg base n_law "law" (defScope s_law) f fd.code A outer s H E) n_law k_law)
    {rl : Addr} {r : Bool → Addr} {ds : Bool → List RQ} {k : Int} {en : Str} {Q : List SA} {D : EndsL} {u0 u1 u3 u4 u5 u6 u7 u9 u10 u12 u13 : Option V} (hdl : ∀ b, (ds b).length ≤ 300)
    (hnx : ∀ (u9 : Option V) L', Ent T L' (rwL rl r (fun c => (ds c).map (upQ en k)) Q) → D.nx [u0, u1, some (.ref rl), u3, u4, u5, u6, u7, some (.int k), u9, u10, some (.str en), u12, u13] L') :
    GS T (bx P w Kf mg base n_law "law" (defScope s_law) f fd.code A outer s H E) updS D [u0, u1, some (.ref rl), u3, u4, u5, u6, u7, some (.int k), u9, u10, some (.str en), u12, u13] (rwL rl r ds Q) := by
  cases fx
  generalize hD : ds false ++ ds true = DD
  have hmap : (ds false).map (fun q => V.ref q.1) ++ (ds true).map (fun q => V.ref q.1) = DD.map fun q => V.ref q.1 := by rw [← hD, List.map_append]
  have hl : DD.length ≤ 600 := by rw [← hD, List.length_append]; have h0 := hdl false; have h1 := hdl true; omega
  refine GS.ent (L' := ObD rowG DD :: pt (r false) (.lst ((ds false).map fun q => V.ref q.1)) :: pt (r true) (.lst ((ds true).map fun q => V.ref q.1)) :: pt rl (.lst [.ref (r false), .ref (r true)]) :: Q) (Fit.ent ?_) ?_
  · rw [← hD]
    refine Fit.trans (L1 := ObDL rowG (fun q => q.1) (r false) (ds false) :: ObDL rowG (fun q => q.1) (r true) (ds true) :: pt rl (.lst [.ref (r false), .ref (r true)]) :: Q) (by tm_at "fit") ?_
    refine Fit.trans obdl_out ?_
    refine Fit.trans (L1 := ObDL rowG (fun q => q.1) (r true) (ds true) :: ObD rowG (ds false) :: pt (r false) (.lst ((ds false).map fun q => V.ref q.1)) :: pt rl (.lst [.ref (r false), .ref (r true)]) :: Q) (by tm_at "fit") ?_
    refine Fit.trans obdl_out ?_
    refine Fit.trans (L1 := ObD rowG (ds false) :: ObD rowG (ds true) :: pt (r false) (.lst ((ds false).map fun q => V.ref q.1)) :: pt (r true) (.lst ((ds true).map fun q => V.ref q.1)) :: pt rl (.lst [.ref (r false), .ref (r true)]) :: Q) (by tm_at "fit") ?_
    exact obd_app'
  refine gs_forI (passes_of rfl) rfl (fun _ => rfl) (git_L ?_)
  tm_at "go"
  refine go_catL (xs := (ds false).map fun q => V.ref q.1) (ys := (ds true).map fun q => V.ref q.1) (by tm_at "sSel") (by tm_at "sSel") (by rw [List.length_map, List.length_map, sizeLine_eq]; have h0 := hdl false; have h1 := hdl true; omega) fun cl => ?_
  rw [hmap]
  refine ⟨cl, DD.map fun q => V.ref q.1, rfl, ⟨_, .here⟩, fun j σ' L' => ∃ u9, σ' = [u0, u1, some (.ref rl), u3, u4, u5, u6, u7, some (.int k), u9, u10, some (.str en), u12, u13] ∧ L' = pt cl (.lst (DD.map fun q => V.ref q.1)) :: ObD rowG ((DD.take j).map (upQ en k) ++ DD.drop j) :: pt (r false) (.lst ((ds false).map fun q => V.ref q.1)) :: pt (r true) (.lst ((ds true).map fun q => V.ref q.1)) :: pt rl (.lst [.ref (r false), .ref (r true)]) :: Q, ?_, ?_, ?_, ?_⟩
  · refine Fits.mk ⟨_, rfl, rfl⟩ ?_
    rw [List.take_zero, List.map_nil, List.nil_append, List.drop_zero]
    tm_at "ent"
  · rintro j σ' L' ⟨u9, rfl, rfl⟩
    exact ⟨_, .here⟩
  · rintro j x Lx σ' L' hj ⟨hx2, rfl⟩ ⟨u9, rfl, rfl⟩
    obtain ⟨q, hq, rfl⟩ : ∃ q, DD[j]? = some q ∧ x = V.ref q.1 := by
      rw [List.getElem?_map] at hx2
      cases c : DD[j]? with
      | none => rw [c] at hx2; cases hx2
      | some q => rw [c] at hx2; cases hx2; exact ⟨q, rfl, rfl⟩
    have hdr : DD.drop j = q :: DD.drop (j + 1) := by
      have hlt := lt_of_get hq
      rw [List.drop_eq_getElem_cons hlt]
      congr 1
      rw [List.getElem?_eq_getElem hlt] at hq
      exact Option.some.inj hq
    simp only [List.nil_append]
    rw [hdr]
    generalize hQ : (pt (r false) (.lst ((ds false).map fun q => V.ref q.1)) :: pt (r true) (.lst ((ds true).map fun q => V.ref q.1)) :: pt rl (.lst [.ref (r false), .ref (r true)]) :: Q) = QQ
    tm_at "gs"
    refine GSs.ent (L' := ObD rowG ((DD.take j).map (upQ en k) ++ q :: DD.drop (j + 1)) :: pt cl (.lst (DD.map fun q => V.ref q.1)) :: QQ) (by tm_at "ent") ?_
    refine GSs.ent (Fit.ent obd_out) ?_
    have hs1 := (stV_num q.2.2 k).1
    have hs2 := (stV_num q.2.2 k).2
    have htk : (DD.take (j + 1)).map (upQ en k) = (DD.take j).map (upQ en k) ++ [upQ en k q] := by rw [take_succ' hq, List.map_append]; rfl
    refine gss_cons ?_
    tm_at "go"
    refine go_eqS hs1 ?_
    rw [hs2]
    tm_at "go"
    tm_at "if"
    · rename_i hst
      have hup : upQ en k q = (q.1, q.2.1, if en = leftS then .gone else .non) := by
        unfold upQ stEnd
        rw [if_pos hst]
      refine gss_cons ?_
      refine gs_asg rfl rfl rfl ?_
      refine ge_if ?_
      tm_at "go"
      tm_at "if"
      · rename_i hel
        have hel : en = leftS := hel
        tm_at "go"
        refine ⟨_, Fit.ent ?_, _, rfl, rfl⟩
        rw [htk, hup, if_pos hel]
        refine Fit.trans (L1 := rowG (q.1, q.2.1, .gone) :: ObD rowG ((DD.take j).map (upQ en k)) :: ObD rowG (DD.drop (j + 1)) :: pt cl (.lst (DD.map fun q => V.ref q.1)) :: QQ) (by tm_at "fit") ?_
        refine Fit.trans (obd_in (p := ((q.1, q.2.1, .gone) : RQ))) ?_
        rw [List.append_assoc, List.singleton_append]
        tm_at "fit"
      · rename_i hel
        have hel : ¬ en = leftS := hel
        tm_at "go"
        refine ⟨_, Fit.ent ?_, _, rfl, rfl⟩
        rw [htk, hup, if_neg hel]
        refine Fit.trans (L1 := rowG (q.1, q.2.1, .non) :: ObD rowG ((DD.take j).map (upQ en k)) :: ObD rowG (DD.drop (j + 1)) :: pt cl (.lst (DD.map fun q => V.ref q.1)) :: QQ) (by tm_at "fit") ?_
        refine Fit.trans (obd_in (p := ((q.1, q.2.1, .non) : RQ))) ?_
        rw [List.append_assoc, List.singleton_append]
        tm_at "fit"
    · rename_i hst
      have hup : upQ en k q = q := by
        unfold upQ stEnd
        rw [if_neg hst]
      tm_at "go"
      refine ⟨_, Fit.ent ?_, _, rfl, rfl⟩
      rw [htk, hup]
      refine Fit.trans (obd_in (p := q)) ?_
      rw [List.append_assoc, List.singleton_append]
      tm_at "fit"
  · rintro σ' L' ⟨u9, rfl, rfl⟩
    refine hnx u9 _ (Fit.ent ?_)
    rw [List.length_map, List.take_length, List.drop_length, List.append_nil, show DD.map (upQ en k) = (ds false).map (upQ en k) ++ (ds true).map (upQ en k) by rw [← hD, List.map_append]]
    show Fit _ (pt rl (.lst [.ref (r false), .ref (r true)]) :: ObDL rowG (fun q => q.1) (r false) ((ds false).map (upQ en k)) :: ObDL rowG (fun q => q.1) (r true) ((ds true).map (upQ en k)) :: Q)
    have hr1 : ∀ b, (ds b).map (fun q => V.ref q.1) = ((ds b).map (upQ en k)).map fun q => V.ref q.1 := fun b => by rw [List.map_map]; rfl
    rw [hr1 false, hr1 true]
    generalize (ds false).map (upQ en k) = d0
    generalize (ds true).map (upQ en k) = d1
    refine Fit.drop ?_
    refine Fit.trans obd_app ?_
    refine Fit.trans (L1 := pt (r false) (.lst (d0.map fun q => V.ref q.1)) :: ObD rowG d0 :: ObD rowG d1 :: pt (r true) (.lst (d1.map fun q => V.ref q.1)) :: pt rl (.lst [.ref (r false), .ref (r true)]) :: Q) (by tm_at "fit") ?_
    refine Fit.trans (obdl_back (F := rowG) (a := fun q => q.1)) ?_
    refine Fit.trans (L1 := pt (r true) (.lst (d1.map fun q => V.ref q.1)) :: ObD rowG d1 :: ObDL rowG (fun q => q.1) (r false) d0 :: pt rl (.lst [.ref (r false), .ref (r true)]) :: Q) (by tm_at "fit") ?_
    refine Fit.trans (obdl_back (F := rowG) (a := fun q => q.1)) ?_
    tm_at "fit"
end
local macro_rules | `(tactic| tm_at "gF") => `(tactic| ((guard_target = (IsIns _ _ _ _ _ ∧ _)); (with_reducible refine And.intro ?hh ?_); (case hh => exact ins_dp (by tm_at "sSel") (fun _ _ _ _ _ _ => by tm_at "sNoF") (by rfl))))
section
variable {T : List (Addr × Str)} {P : Program} {w : World} {Kf : PySem.W.Frag} {mg : Str → Option Value} {base : Heap} {f : Addr} {fd : FuncData}
theorem law_step (fx : Fx Kf mg) (ca : Cat Kf) (me : Me T P w Kf mg base) (hro : FnAt T P w Kf mg base 1 "_law_roll" spRoll) (TD : ToldAt Kf mg "_law_told" cs8) {A : Around} {outer : List Env} {s : Shared} {H : Hp} {E : XK}
    (LA1 : LamAt T (bx P w Kf mg base n_law "law" (defScope s_law) f fd.code A outer s H E))
    (hr : Room 10 (bx P w Kf mg base n_law "law" (defScope s_law) f fd.code A outer s H E).A) (n : Nm (bx P w Kf mg base n_law "law" (defScope s_law) f fd.code A outer s H E) n_law k_law)
    {kx : KX} (hx : Xok T (bx P w Kf mg base n_law "law" (defScope s_law) f fd.code A outer s H E) kx) {s0 d_ od rl td wd : Addr} {r : Bool → Addr} {S : DS} {ds : Bool → List RQ} {j : Nat} {R : List SA} {D : EndsL} {u6 u7 u8 u9 u11 u12 : Option V}
    (lp : LP S ds j) (hj : j ≤ 12)
    (hnx : ∀ (S' : DS) (ds' : Bool → List RQ) (u6 u7 u8 u9 u11 u12 : Option V) L', LP S' ds' (j + 1) → Ent T L' (lawL Kf od rl td wd r S' ds' (dcP d_ :: R)) → D.nx [some (.ref s0), some (.ref d_), some (.ref rl), some (.ref wd), some (.int S'.ct), some (.int (j : Nat)), u6, u7, u8, u9, some (.ref od), u11, u12, some (.ref td)] L') :
    GSs T (bx P w Kf mg base n_law "law" (defScope s_law) f fd.code A outer s H E) stepB D [some (.ref s0), some (.ref d_), some (.ref rl), some (.ref wd), some (.int S.ct), some (.int (j : Nat)), u6, u7, u8, u9, some (.ref od), u11, u12, some (.ref td)]
      (lawL Kf od rl td wd r S ds (dcP d_ :: R)) := by
  have fx1 := fx
  cases fx
  obtain ⟨hbg, hpt, hfn⟩ := me
  have hwl := lp.bd.wk
  have hzw : (wkD S.wk).length < sizeLine := by rw [wkD_len, sizeLine_eq]; omega
  refine gss_cons ?_
  tm_at "go"
  refine call_roll (by tm_at "ent") (by decide) (by decide) fun z0 hz0 hz1 => ?_
  obtain ⟨g, hg, eg⟩ := name_at hz0 hz1
  refine gi_lst (v := .str g) (.there .here) eg ?_
  tm_at "go"
  refine call_roll (by tm_at "ent") (by decide) (by decide) fun z1 hz2 hz3 => ?_
  obtain ⟨b, rfl⟩ := ix_b hz2 hz3
  tm_at "go"
  refine call_roll (by tm_at "ent") (by decide) (by decide) fun kd hz4 hz5 => ?_
  tm_at "gs"
  refine GSs.ent (L' := lawL Kf od rl td wd r S ds (dcP d_ :: R)) (by tm_at "ent") ?_
  have htg := lp.tp g hg
  have htd := tuD_get hg
  have hwg := wkD_get S.wk g
  refine gss_cons ?_
  tm_at "go"
  tm_at "if"
  · rename_i ck
    refine gss_cons ?_
    tm_at "go"
    refine ge_told n (by tm_at "sKd") TD LA1 (k := 7) (L2.Room.mono hr (by decide)) (LamX.lamS_by (by show LamX.lamSB (defScope s_law) _ = true; decide +kernel)) rfl (fun _ _ _ _ _ => rfl) rfl (by decide +kernel) fun A1 outer1 s1 H1 E1 f1 c1 hr1 n1 hx1 => ?_
    tm_at "go"
    refine gi_d hr1 (v := .int 1) (by rw [← htd]; tm_at "sDF") ?_
    tm_at "go"
    cases hw : sget S.wk g with
    | none =>
      rw [hw] at hwg
      refine CallS.mk (S := spBG Kf) ⟨od, g, 1, S, rwL rl r ds (pt td (.dK tuD) :: pt wd (.dK (wkD S.wk)) :: dcP d_ :: R), rfl, rfl, lp.bd.mono (by omega), lp.di.nn, htg, fun _ => ?_, fun x hx => by rw [hw] at hx; cases hx⟩ (by tm_at "ent")
      have lp2 := lp.begin hw
      tm_at "go"
      rw [hwg]
      refine iteNone ?_
      tm_at "go"
      rw [hwg]
      refine iteNNone ?_
      refine gss_cons ?_
      tm_at "gs"
      refine gss_cons ?_
      tm_at "go"
      rw [wkD_snoc hw]
      exact hnx (S.begin g) ds _ _ _ _ _ _ _ lp2 (by tm_at "ent")
    | some x =>
      rw [hw] at hwg
      refine CallS.mk (S := spBG Kf) ⟨od, g, 1, S, rwL rl r ds (pt td (.dK tuD) :: pt wd (.dK (wkD S.wk)) :: dcP d_ :: R), rfl, rfl, lp.bd.mono (by omega), lp.di.nn, htg, (fun h => by rw [hw] at h; cases h), fun x hx => ca.nd _ ?_⟩ (by tm_at "ent")
      tm_at "go"
      rw [hwg]
      refine iteSome ?_
      tm_at "go"
      rw [if_neg (by simp)]
      tm_at "go"
      rw [hwg]
      refine iteNSome ?_
      tm_at "go"
      exact hnx S ds _ _ _ _ _ _ _ lp.mono (by tm_at "ent")
  · rename_i ck
    refine gss_cons ?_
    tm_at "go"
    tm_at "if"
    · rename_i ck2
      obtain ⟨gn, gl⟩ := num_good (k := ((j : Nat) : Int)) (by omega) (by omega)
      refine gss_cons ?_
      tm_at "go"
      refine gi_d hr (v := .int 1) (by rw [← htd]; tm_at "sDF") ?_
      tm_at "go"
      refine gc_strI gl ?_
      tm_at "go"
      refine CallS.mk (S := spPT Kf) ⟨od, g, kS, numT (j : Int), 1, 1, b, S, rwL rl r ds (pt td (.dK tuD) :: pt wd (.dK (wkD S.wk)) :: dcP d_ :: R), rfl, rfl, lp.di, lp.bd.mono (by omega), kS_good, gn, htg, fun _ => ?_, fun h => absurd rfl h⟩ (by tm_at "ent")
      tm_at "gs"
      have hv : (valV (wkD S.wk) (Sum.inr g)).getD V.non = stV (stNew S g) := by
        rw [hwg]
        unfold stNew
        cases sget S.wk g <;> rfl
      have hdl : (ds b).length ≤ 300 := by
        have h1 := congrArg List.length (lp.dr b)
        rw [List.length_map] at h1
        have h2 := List.length_filter_le isRow (S.pa b)
        have h3 := lp.bd.pa b
        unfold rowsL at h1
        rw [List.length_map] at h1
        omega
      generalize hS2 : S.put g b kS (numT (j : Int)) = S2
      refine GSs.ent (L' := ObDL rowG (fun q => q.1) (r b) (ds b) :: ObDL rowG (fun q => q.1) (r (!b)) (ds (!b)) :: DeedsP Kf od S2 :: pt rl (.lst [.ref (r false), .ref (r true)]) :: pt td (.dK tuD) :: pt wd (.dK (wkD S.wk)) :: dcP d_ :: R) (Fit.ent (Fit.trans (Fit.tl (Fit.tl (two_parts (F := fun b => ObDL rowG (fun q => q.1) (r b) (ds b)) (b := b)))) (by tm_at "fit"))) ?_
      refine GSs.ent (Fit.ent obdl_out) ?_
      refine gss_cons ?_
      tm_at "go"
      refine gi_lst (by tm_at "sSel") at_b ?_
      tm_at "go"
      refine gc_strI gl ?_
      tm_at "go"
      rw [hv]
      tm_at "go"
      rename_i ra
      refine gapp_pt (xs := (ds b).map fun q => V.ref q.1) (by tm_at "sRpl") (by rw [List.length_map, sizeLine_eq]; omega) ?_
      tm_at "go"
      have lp2 := lp.put (g := g) (b := b) (a := ra) gn
      have ewk : wkD S2.wk = wkD S.wk := by rw [← hS2]; exact wkD_put _ _ _ _
      have ect : S2.ct = S.ct := by rw [← hS2]; rfl
      rw [hS2] at lp2
      rw [← ect]
      generalize hdn : (fun c => if c = b then ds b ++ [((ra, numT (j : Int), stNew S g) : RQ)] else ds c) = dn at lp2
      have e1 : dn b = ds b ++ [((ra, numT (j : Int), stNew S g) : RQ)] := by rw [← hdn]; exact if_pos rfl
      have e2 : dn (!b) = ds (!b) := by rw [← hdn]; exact if_neg (by cases b <;> decide)
      refine hnx S2 dn _ _ _ _ _ _ _ lp2 (Fit.ent ?_)
      show Fit _ (DeedsP Kf od S2 :: pt rl (.lst [.ref (r false), .ref (r true)]) :: ObDL rowG (fun q => q.1) (r false) (dn false) :: ObDL rowG (fun q => q.1) (r true) (dn true) :: pt td (.dK tuD) :: pt wd (.dK (wkD S2.wk)) :: dcP d_ :: R)
      rw [ewk]
      refine Fit.trans (L1 := pt (r b) (.lst ((ds b).map (fun q => V.ref q.1) ++ [.ref ra])) :: rowG (ra, numT (j : Int), stNew S g) :: ObD rowG (ds b) :: ObDL rowG (fun q => q.1) (r (!b)) (ds (!b)) :: DeedsP Kf od S2 :: pt rl (.lst [.ref (r false), .ref (r true)]) :: pt td (.dK tuD) :: pt wd (.dK (wkD S.wk)) :: dcP d_ :: R) (by tm_at "fit") ?_
      refine Fit.trans (obdl_in (F := rowG) (a := fun q => q.1) (d := ((ra, numT (j : Int), stNew S g) : RQ))) ?_
      rw [← e1, ← e2]
      refine Fit.trans (two_parts' (F := fun c => ObDL rowG (fun q => q.1) (r c) (dn c)) (b := b)) ?_
      tm_at "fit"
    · rename_i ck2
      obtain ⟨en, hen, een⟩ : ∃ en, (en = keptS ∨ en = leftS) ∧ atI [V.str (Str.ofString "kept"), V.str (Str.ofString "left")] (kd - 4) = some (.str en) := by
        have : kd = 4 ∨ kd = 5 := by omega
        rcases this with rfl | rfl
        · exact ⟨keptS, .inl rfl, rfl⟩
        · exact ⟨leftS, .inr rfl, rfl⟩
      refine gss_cons ?_
      tm_at "go"
      refine gi_lst (v := .str en) (.here) een ?_
      tm_at "gs"
      refine GSs.ent (L' := lawL Kf od rl td wd r S ds (dcP d_ :: R)) (by tm_at "ent") ?_
      refine gss_cons ?_
      tm_at "go"
      refine ge_told n (by tm_at "sKd") TD LA1 (k := 7) (L2.Room.mono hr (by decide)) (LamX.lamS_by (by show LamX.lamSB (defScope s_law) _ = true; decide +kernel)) rfl (fun _ _ _ _ _ => rfl) rfl (by decide +kernel) fun A1 outer1 s1 H1 E1 f1 c1 hr1 n1 hx1 => ?_
      tm_at "go"
      refine gi_d hr1 (v := .int 1) (by rw [← htd]; tm_at "sDF") ?_
      tm_at "go"
      cases hw : sget S.wk g with
      | none =>
        rw [hw] at hwg
        refine CallS.mk (S := spFN Kf) ⟨od, g, en, 1, S, rwL rl r ds (pt td (.dK tuD) :: pt wd (.dK (wkD S.wk)) :: dcP d_ :: R), rfl, rfl, lp.di, lp.bd.mono (by omega), htg, hen, (fun _ => ca.nd _ ?_), fun x hx => by rw [hw] at hx; cases hx⟩ (by tm_at "ent")
        tm_at "go"
        rw [hwg]
        refine iteNone ?_
        tm_at "go"
        rw [if_neg (by simp)]
        tm_at "go"
        rw [hwg]
        refine iteNone ?_
        tm_at "go"
        exact hnx S ds _ _ _ _ _ _ _ lp.mono (by tm_at "ent")
      | some x =>
        rw [hw] at hwg
        refine CallS.mk (S := spFN Kf) ⟨od, g, en, 1, S, rwL rl r ds (pt td (.dK tuD) :: pt wd (.dK (wkD S.wk)) :: dcP d_ :: R), rfl, rfl, lp.di, lp.bd.mono (by omega), htg, hen, (fun h => by rw [hw] at h; cases h), fun x' hx' => ?_⟩ (by tm_at "ent")
        obtain rfl : x' = x := by rw [hw] at hx'; exact (Option.some.inj hx').symm
        have lp2 := lp.endW (num := numT x'.1) hw hen
        have ewk : dropK (wkD S.wk) (Sum.inr g) = wkD (S.endW g en x' (numT x'.1)).wk := wkD_drop _ _
        have ect : (S.endW g en x' (numT x'.1)).ct = S.ct := rfl
        generalize S.endW g en x' (numT x'.1) = S2 at lp2 ewk ect
        tm_at "go"
        rw [hwg]
        refine iteSome ?_
        tm_at "go"
        rw [hwg]
        refine iteSome ?_
        refine gss_cons ?_
        tm_at "go"
        refine gdpop1 (k := .inr g) (by tm_at "sRpl") rfl hwg ?_
        rw [ewk]
        tm_at "gs"
        have hdl : ∀ c, (ds c).length ≤ 300 := fun c => by
          have h1 := congrArg List.length (lp.dr c)
          rw [List.length_map] at h1
          have h2 := List.length_filter_le isRow (S.pa c)
          have h3 := lp.bd.pa c
          unfold rowsL at h1
          rw [List.length_map] at h1
          omega
        generalize hdn : (fun c => (ds c).map (upQ en x'.1)) = dn at lp2
        refine gss_cons ?_
        refine GS.ent (L' := rwL rl r ds (DeedsP Kf od S2 :: pt td (.dK tuD) :: pt wd (.dK (wkD S2.wk)) :: dcP d_ :: R)) (by tm_at "ent") ?_
        refine law_upd fx1 hr n hdl fun u9 L' t => ?_
        rw [hdn] at t
        tm_at "go"
        rw [← ect]
        exact hnx S2 dn _ _ _ _ _ _ _ lp2 (Ent.trans t (show Ent T (rwL rl r dn (DeedsP Kf od S2 :: pt td (.dK tuD) :: pt wd (.dK (wkD S2.wk)) :: dcP d_ :: R)) (DeedsP Kf od S2 :: rwL rl r dn (pt td (.dK tuD) :: pt wd (.dK (wkD S2.wk)) :: dcP d_ :: R)) by tm_at "ent"))
end
local macro_rules | `(tactic| tm_at "gF") => `(tactic| ((guard_target = (IsIns _ _ _ _ _ ∧ _)); (with_reducible refine And.intro ?hh ?_); (case hh => exact ins_dp (by tm_at "sSel") (fun _ _ _ _ _ _ => by tm_at "sNoF") (by rfl))))
structure T0 (l : List Str) (S : DS) : Prop where
  di : DI S
  pa : ∀ b, S.pa b = []
  wk : S.wk = []
  ct : S.ct = 0
  bd : Bd (2 * l.length) S
  tu : ∀ g, sget S.tu g = if g ∈ l then some 1 else none
theorem T0.new : T0 [] DS.new := ⟨DI.start, fun _ => rfl, rfl, rfl, Bd.new, fun g => rfl⟩
theorem T0.turn {l : List Str} {S : DS} (h : T0 l S) {g : Str} (hg : g ∉ l) : T0 (l ++ [g]) (S.turn g) ∧ (sget S.tu g).getD 0 + 1 = 1 := by
  have hn : sget S.tu g = none := by rw [h.tu, if_neg hg]
  have e : S.turn g = S.tn g := by unfold DS.turn; rw [h.wk]; rfl
  refine ⟨?_, by rw [hn]; rfl⟩
  have bd := h.bd.turn h.di g
  rw [e] at bd ⊢
  refine ⟨h.di.tu _, h.pa, h.wk, h.ct, bd.mono (by rw [List.length_append, List.length_singleton]; omega), fun g' => ?_⟩
  show sget (sput S.tu g ((sget S.tu g).getD 0 + 1)) g' = _
  rw [sget_put, hn]
  by_cases c : g' = g
  · rw [if_pos c, if_pos (by rw [c]; simp)]; rfl
  · rw [if_neg c, h.tu]
    simp [c]
theorem T0.lp {S : DS} (h : T0 [pS, qS] S) : LP S (fun _ => []) 0 := by
  refine ⟨h.di, h.bd.mono (by simp), fun g hg => by rw [h.tu, if_pos hg], fun b => ?_, fun b q hq => by cases hq⟩
  unfold rowsL; rw [h.pa]; rfl
def tuL (l : List Str) : List (Key × V) := l.map fun g => ((Sum.inr g : Key), V.int 1)
theorem tuL_put {l : List Str} {g : Str} (h : g ∉ l) : putK (tuL l) (Sum.inr g) (V.int 1) = tuL (l ++ [g]) := by
  unfold putK
  rw [if_neg]
  · unfold tuL; rw [List.map_append]; rfl
  · intro z
    obtain ⟨p, hp, e⟩ := List.any_eq_true.mp z
    obtain ⟨g', hg', rfl⟩ := List.mem_map.mp hp
    exact h (by rw [← Sum.inr.inj (of_decide_eq_true e)]; exact hg')
section
variable {T : List (Addr × Str)} {P : Program} {w : World} {Kf : PySem.W.Frag} {mg : Str → Option Value} {base : Heap} {f : Addr} {fd : FuncData}
def spLaw (Kf : PySem.W.Frag) : SpL := fun vs L K kx => ∃ (s0 : Addr) (ns : List Int) (R : List SA), vs = [.ref s0] ∧ L = ScrP Kf s0 ns :: R ∧ ns.length ≤ 1000 ∧ ∀ L', K (.bl true) L'
theorem ok_law (fx : Fx Kf mg) (ca : Cat Kf) (me : Me T P w Kf mg base) (hro : FnAt T P w Kf mg base 1 "_law_roll" spRoll) (hrs : FnAt T P w Kf mg base 2 "_law_rounds" (spRounds Kf)) (hmd : MkAt T P w Kf mg base 3 "Deeds" (spDI Kf)) (hbt : MeAt T P w Kf mg base 6 "Deeds" "begin_turn" (spBT Kf)) (hls : FnAt T P w Kf mg base 4 "_law_seen" (spLS Kf)) (hle : FnAt T P w Kf mg base 9 "_law_elder" (spLE Kf)) (hlc : FnAt T P w Kf mg base 9 "_law_chain" spLC) (TD : ToldAt Kf mg "_law_told" cs8)
    (LA : ∀ A outer s H E, LamAt T (bx P w Kf mg base n_law "law" (defScope s_law) f fd.code A outer s H E))
    (F : FunD Kf "law" "law" (defArgs s_law) (defBody s_law) (defScope s_law) [] [] f fd) : FnOk P w Kf mg base (L2.CX P w) 11 f fd ["script"] (spOf T (spLaw Kf)) := by
  refine def_in F sc_law (fun vs L K kx h => ?_) (fun A outer s H E hr n vs L KK kx h hx σ hσ => ?_)
  · obtain ⟨s0, ns, R, rfl, _⟩ := h; rfl
  · obtain ⟨s0, ns, R, rfl, rfl, hz, k⟩ := h
    obtain rfl : σ = [some (.ref s0), none, none, none, none, none, none, none, none, none, none, none, none, none] := hσ
    have LA1 := LA A outer s H E
    have fx1 := fx
    have me1 := me
    cases fx
    refine gss_cons ?_
    refine gs_forLx (passes_of rfl) rfl (fun _ => rfl) ?_
    tm_at "go"
    refine CallS.mk ⟨s0, ns, 2, R, rfl, rfl, hz, fun Dl as => ?_⟩ (by tm_at "ent")
    refine ⟨Dl, as.map V.ref, fun i σ' L' => ∃ u1 u2 u3 u4 u5 u6 u7 u8 u9 u10 u11 u12 u13, σ' = [some (.ref s0), u1, u2, u3, u4, u5, u6, u7, u8, u9, u10, u11, u12, u13] ∧ L' = pt Dl (.lst (as.map V.ref)) :: ObS dcP (as.drop i) :: R, rfl, ?_, ?_, ?_, ?_⟩
    · exact Fits.mk ⟨_, _, _, _, _, _, _, _, _, _, _, _, _, rfl, rfl⟩ obl_out
    · rintro i σ' L' ⟨u1, u2, u3, u4, u5, u6, u7, u8, u9, u10, u11, u12, u13, rfl, rfl⟩
      exact ⟨_, .here⟩
    · rintro i x σ' L' hi ⟨u1, u2, u3, u4, u5, u6, u7, u8, u9, u10, u11, u12, u13, rfl, rfl⟩
      obtain ⟨d_, hd, rfl⟩ : ∃ d, as[i]? = some d ∧ x = V.ref d := by
        rw [List.getElem?_map] at hi
        cases hq : as[i]? with
        | none => rw [hq] at hi; cases hi
        | some y => rw [hq] at hi; cases hi; exact ⟨y, rfl, rfl⟩
      refine GG.ent (L' := dcP d_ :: pt Dl (.lst (as.map V.ref)) :: ObS dcP (as.drop (i + 1)) :: R) ?_ ?_
      · exact Ent.trans (Ent.perm (List.Perm.swap _ _ _)) (Ent.trans (obs_drop hd) (Fit.ent (Fit.tl (Fit.of (List.Perm.swap _ _ _)))))
      generalize hObs : ObS dcP (as.drop (i + 1)) = Obs
      generalize hG : (pt Dl (.lst (as.map V.ref)) :: Obs :: R) = G
      tm_at "gs"
      refine gss_cons ?_
      tm_at "go"
      intro od dx
      refine CallS.mk (S := spDI Kf) ⟨od, dx, dcP d_ :: G, rfl, rfl, ⟨rfl, ?_⟩⟩ (by tm_at "ent")
      tm_at "gs"
      rename_i td r0 r1 rl wd tp
      refine GSs.ent (L' := DeedsP Kf od DS.new :: pt td (.dK []) :: pt r0 (.lst []) :: pt r1 (.lst []) :: pt rl (.lst [.ref r0, .ref r1]) :: pt wd (.dK []) :: dcP d_ :: G) (by tm_at "ent") ?_
      refine gss_cons ?_
      refine gs_forI (passes_of rfl) rfl (fun _ => rfl) (git_L ?_)
      tm_at "go"
      rename_i nl
      refine ⟨nl, [V.str pS, V.str qS], rfl, ⟨_, .here⟩, fun j σ' L' => ∃ (u12 : Option V) (S : DS), σ' = [some (.ref s0), some (.ref d_), some (.ref rl), some (.ref wd), some (.int 0), u5, u6, u7, u8, u9, some (.ref od), u11, u12, some (.ref td)] ∧ L' = pt nl (.lst [V.str pS, V.str qS]) :: DeedsP Kf od S :: pt td (.dK (tuL ([pS, qS].take j))) :: pt r0 (.lst []) :: pt r1 (.lst []) :: pt rl (.lst [.ref r0, .ref r1]) :: pt wd (.dK []) :: dcP d_ :: G ∧ T0 ([pS, qS].take j) S, ?_, ?_, ?_, ?_⟩
      · exact Fits.mk ⟨_, DS.new, rfl, rfl, T0.new⟩ Ent.refl
      · rintro j σ' L' ⟨u12, S, rfl, rfl, _⟩
        exact ⟨_, .here⟩
      · rintro j x Lx σ' L' hj ⟨hx2, rfl⟩ ⟨u12, S, rfl, rfl, t0⟩
        obtain ⟨g, hg, hgn, rfl⟩ : ∃ g, [pS, qS][j]? = some g ∧ g ∉ [pS, qS].take j ∧ x = V.str g := by
          have : j = 0 ∨ j = 1 := by have : j < 2 := hj; omega
          rcases this with rfl | rfl
          · exact ⟨pS, rfl, by simp, (Option.some.inj hx2).symm⟩
          · exact ⟨qS, rfl, by show qS ∉ [pS]; decide +kernel, (Option.some.inj hx2).symm⟩
        obtain ⟨t1, e1⟩ := t0.turn hgn
        have hbd := t0.bd
        have hl2 : ([pS, qS].take j).length ≤ 2 := by rw [List.length_take]; exact Nat.min_le_right _ _
        have hzt : (tuL ([pS, qS].take j)).length < sizeLine := by unfold tuL; rw [List.length_map, sizeLine_eq]; omega
        have etk : [pS, qS].take (j + 1) = [pS, qS].take j ++ [g] := take_succ' hg
        simp only [List.nil_append]
        tm_at "gs"
        refine gss_cons ?_
        tm_at "go"
        refine CallS.mk (S := spBT Kf) ⟨od, g, S, pt nl (.lst [V.str pS, V.str qS]) :: pt td (.dK (tuL ([pS, qS].take j))) :: pt r0 (.lst []) :: pt r1 (.lst []) :: pt rl (.lst [.ref r0, .ref r1]) :: pt wd (.dK []) :: dcP d_ :: G, rfl, rfl, t0.di, hbd.mono (by omega), ?_⟩ (by tm_at "ent")
        rw [e1]
        tm_at "go"
        rw [tuL_put hgn]
        refine ⟨pt nl (.lst [V.str pS, V.str qS]) :: DeedsP Kf od (S.turn g) :: pt td (.dK (tuL ([pS, qS].take (j + 1)))) :: pt r0 (.lst []) :: pt r1 (.lst []) :: pt rl (.lst [.ref r0, .ref r1]) :: pt wd (.dK []) :: dcP d_ :: G, ?_, _, S.turn g, rfl, rfl, ?_⟩
        · rw [etk]; tm_at "ent"
        · rw [etk]; exact t1
      · rintro σ' L' ⟨u12, S, rfl, rfl, t0⟩
        have lp0 := T0.lp (S := S) t0
        have hct : S.ct = 0 := t0.ct
        have hwk0 : S.wk = [] := t0.wk
        generalize hr2 : (fun b : Bool => if b = false then r0 else r1) = r
        have er0 : r false = r0 := by rw [← hr2]; rfl
        have er1 : r true = r1 := by rw [← hr2]; rfl
        refine GSs.ent (L' := lawL Kf od rl td wd r S (fun _ => []) (dcP d_ :: G)) (Fit.ent ?_) ?_
        · show Fit _ (DeedsP Kf od S :: pt rl (.lst [.ref (r false), .ref (r true)]) :: ObDL rowG (fun q => q.1) (r false) [] :: ObDL rowG (fun q => q.1) (r true) [] :: pt td (.dK tuD) :: pt wd (.dK (wkD S.wk)) :: dcP d_ :: G)
          rw [er0, er1, hwk0]
          refine Fit.trans (L1 := pt r0 (.lst []) :: pt r1 (.lst []) :: DeedsP Kf od S :: pt rl (.lst [.ref r0, .ref r1]) :: pt td (.dK tuD) :: pt wd (.dK []) :: dcP d_ :: G) ?_ ?_
          · show Fit (pt nl (.lst [V.str pS, V.str qS]) :: DeedsP Kf od S :: pt td (.dK tuD) :: pt r0 (.lst []) :: pt r1 (.lst []) :: pt rl (.lst [.ref r0, .ref r1]) :: pt wd (.dK []) :: dcP d_ :: G) _
            tm_at "fit"
          · refine Fit.trans (L1 := ObDL rowG (fun q => q.1) r0 [] :: ObDL rowG (fun q => q.1) r1 [] :: DeedsP Kf od S :: pt rl (.lst [.ref r0, .ref r1]) :: pt td (.dK tuD) :: pt wd (.dK []) :: dcP d_ :: G) ?_ (show Fit _ (DeedsP Kf od S :: pt rl (.lst [.ref r0, .ref r1]) :: ObDL rowG (fun q => q.1) r0 [] :: ObDL rowG (fun q => q.1) r1 [] :: pt td (.dK tuD) :: pt wd (.dK []) :: dcP d_ :: G) by tm_at "fit")
            refine Fit.cons .here (fun h e => obdl_nil (F := rowG) (a := fun q => q.1) e) ?_
            exact Fit.cons .here (fun h e => obdl_nil (F := rowG) (a := fun q => q.1) e) Fit.refl
        refine gss_cons ?_
        refine gs_forI (passes_of rfl) rfl (fun _ => rfl) (git_N (n.gl (by tm_at "sKd")) (by assumption) rfl ?_)
        tm_at "go"
        refine call_roll (by tm_at "ent") (by decide) (by decide) fun z2 hz4 hz5 => ?_
        tm_at "go"
        refine ⟨by omega, by omega, fun j σ' L' => ∃ (S : DS) (ds : Bool → List RQ) (v5 v6 v7 v8 v9 v11 v12 : Option V), σ' = [some (.ref s0), some (.ref d_), some (.ref rl), some (.ref wd), some (.int S.ct), v5, v6, v7, v8, v9, some (.ref od), v11, v12, some (.ref td)] ∧ L' = lawL Kf od rl td wd r S ds (dcP d_ :: G) ∧ LP S ds j, ?_, fun i σ' L' _ => True.intro, ?_, ?_⟩
        · exact Fits.mk ⟨S, fun _ => [], u5, u6, u7, u8, u9, u11, u12, (by rw [hct]), rfl, lp0⟩ (by tm_at "ent")
        · rintro j x Lx σ' L' hj ⟨rfl, rfl⟩ ⟨S, ds, v5, v6, v7, v8, v9, v11, v12, rfl, rfl, lp⟩
          simp only [List.nil_append]
          tm_at "gs"
          refine law_step fx1 ca me1 hro TD LA1 hr n hx lp (by omega) fun S' ds' u6 u7 u8 u9 u11 u12 L' lp' t => ?_
          exact ⟨_, t, S', ds', _, _, _, _, _, _, _, rfl, rfl, lp'⟩
        · rintro σ' L' ⟨S, ds, v5, v6, v7, v8, v9, v11, v12, rfl, rfl, lp⟩
          have hbd : Bd 280 S := lp.bd.mono (by omega)
          refine gss_cons ?_
          tm_at "go"
          refine CallS.mk (S := spLS Kf) ⟨od, rl, r, ds, S, pt td (.dK tuD) :: pt wd (.dK (wkD S.wk)) :: dcP d_ :: G, rfl, rfl, lp.di, hbd.mono (by omega), lp.dr, lp.gd, ?_⟩ (by tm_at "ent")
          tm_at "gs"
          refine gss_cons ?_
          tm_at "go"
          refine CallS.mk (S := spLE Kf) ⟨od, td, 1, tuD, S, dcP d_ :: G, rfl, rfl, tuD_get (g := pS) (by simp), lp.tp pS (by simp), lp.di, hbd.mono (by omega), ?_⟩ (by tm_at "ent")
          tm_at "gs"
          refine gss_cons ?_
          tm_at "go"
          refine CallS.mk (S := spLC) ⟨d_, G, rfl, rfl, ?_⟩ (by tm_at "ent")
          tm_at "go"
          subst hG
          subst hObs
          exact ⟨pt Dl (.lst (as.map V.ref)) :: ObS dcP (as.drop (i + 1)) :: R, by tm_at "ent", _, _, _, _, _, _, _, _, _, _, _, _, _, rfl, rfl⟩
    · rintro σ' L' ⟨u1, u2, u3, u4, u5, u6, u7, u8, u9, u10, u11, u12, u13, rfl, rfl⟩
      tm_at "go"
      exact Clo.id (k _)
end
end K08
set_option Elab.async false
set_option linter.all false
set_option maxRecDepth 100000
set_option maxHeartbeats 0
namespace K08
open PySem PySem.Spec L2 SW
open PyProof.Rows hiding St
/-! ### the head: facts by names, the run -/
/-- the tables of lambdas -/
def TT (K : PySem.W.Frag) : List (Addr × Str) := [((He.cT K ("law", none)).2, (("law" : Str) ++ ".<locals>.") ++ "<lambda>"), ((He.cT K ("_law_elder", none)).2, (("_law_elder" : Str) ++ ".<locals>.") ++ "<lambda>")]
theorem code_at {K : PySem.W.Frag} {p : He.Defn} {x qual : Str} {pa : Arguments} {bd : List Stmt} {sc : Scope} {fd : FuncData} (F : FunD K x qual pa bd sc [] [] (He.fAd K p) fd) : fd.code = .ref (He.cT K p).1 := by
  obtain ⟨oc, od, dV, kV, doc, pm, an, cdv, ct, osl, rfl, lk, hcd, hD, hK⟩ := F.ex
  obtain ⟨c, e⟩ := He.codeIn_ref hcd
  have e2 := He.codeOf_eq lk e
  rw [e]
  show Value.ref c = .ref (He.codeOf K p)
  rw [e2]
section
variable {w : World} {K : PySem.W.Frag} {h : Heap} {mg : Str → Option Value}
abbrev P : Program := PySem.Challenge.pw_brookhall_k08_deeds_all_or_nothing
abbrev SX (K : PySem.W.Frag) (h : Heap) : Prop := SaysY fal fnl tfl sfl exl h K
theorem ex0 (c : SX K h) : supB PySem.Challenge.pw_brookhall_k08_deeds_all_or_nothing K "BadRecord" = true := (He.ba c.more).1
theorem ex1 (c : SX K h) : decide ((He.cT K ("law", none)).2 ≠ (He.cT K ("_law_elder", none)).2) = true := (He.ba (He.ba c.more).2).1
theorem ex_0_1 (c : SX K h) : decide ((He.cT K ("law", none)).2 ≠ (He.cT K ("_law_elder", none)).2) = true := ex1 c
theorem fun0 (c : SX K h) : ∃ fd, FunD K "check_record" "check_record" (defArgs s_check_record) (defBody s_check_record) (defScope s_check_record) [] [] (He.ga K "check_record") fd := c.d.def_ 0 (d := d0) rfl
theorem bind0 {fd : FuncData} (F : FunD K "check_record" "check_record" (defArgs s_check_record) (defBody s_check_record) (defScope s_check_record) [] [] (He.ga K "check_record") fd) : Binds K fd ["time", "key", "value"] [] := F.bindsN fun kV doc pm an cdv ct us hl => match us, hl with | [u0, u1, u2], _ => rfl
theorem fun1 (c : SX K h) : ∃ fd, FunD K "__init__" "Log.__init__" (defArgs s_Log__init) (defBody s_Log__init) (defScope s_Log__init) [] [] (He.ma K (He.ga K "Log") "__init__") fd := c.d.def_ 1 (d := d1) rfl
theorem bind1 {fd : FuncData} (F : FunD K "__init__" "Log.__init__" (defArgs s_Log__init) (defBody s_Log__init) (defScope s_Log__init) [] [] (He.ma K (He.ga K "Log") "__init__") fd) : Binds K fd ["self", "piece"] [] := F.bindsN fun kV doc pm an cdv ct us hl => match us, hl with | [u0, u1], _ => rfl
theorem fun2 (c : SX K h) : ∃ fd, FunD K "put" "Log.put" (defArgs s_Log_put) (defBody s_Log_put) (defScope s_Log_put) [] [] (He.ma K (He.ga K "Log") "put") fd := c.d.def_ 2 (d := d2) rfl
theorem bind2 {fd : FuncData} (F : FunD K "put" "Log.put" (defArgs s_Log_put) (defBody s_Log_put) (defScope s_Log_put) [] [] (He.ma K (He.ga K "Log") "put") fd) : Binds K fd ["self", "time", "key", "value"] [] := F.bindsN fun kV doc pm an cdv ct us hl => match us, hl with | [u0, u1, u2, u3], _ => rfl
theorem fun3 (c : SX K h) : ∃ fd, FunD K "kept" "Log.kept" (defArgs s_Log_kept) (defBody s_Log_kept) (defScope s_Log_kept) [] [] (He.ma K (He.ga K "Log") "kept") fd := c.d.def_ 3 (d := d3) rfl
theorem bind3 {fd : FuncData} (F : FunD K "kept" "Log.kept" (defArgs s_Log_kept) (defBody s_Log_kept) (defScope s_Log_kept) [] [] (He.ma K (He.ga K "Log") "kept") fd) : Binds K fd ["self"] [] := F.bindsN fun kV doc pm an cdv ct us hl => match us, hl with | [u0], _ => rfl
theorem fun4 (c : SX K h) : ∃ fd, FunD K "__init__" "Deeds.__init__" (defArgs s_Deeds__init) (defBody s_Deeds__init) (defScope s_Deeds__init) [] [] (He.ma K (He.ga K "Deeds") "__init__") fd := c.d.def_ 4 (d := d4) rfl
theorem bind4 {fd : FuncData} (F : FunD K "__init__" "Deeds.__init__" (defArgs s_Deeds__init) (defBody s_Deeds__init) (defScope s_Deeds__init) [] [] (He.ma K (He.ga K "Deeds") "__init__") fd) : Binds K fd ["self", "parts"] [] := F.bindsN fun kV doc pm an cdv ct us hl => match us, hl with | [u0, u1], _ => rfl
theorem fun5 (c : SX K h) : ∃ fd, FunD K "begin_turn" "Deeds.begin_turn" (defArgs s_Deeds_begin_turn) (defBody s_Deeds_begin_turn) (defScope s_Deeds_begin_turn) [] [] (He.ma K (He.ga K "Deeds") "begin_turn") fd := c.d.def_ 5 (d := d5) rfl
theorem bind5 {fd : FuncData} (F : FunD K "begin_turn" "Deeds.begin_turn" (defArgs s_Deeds_begin_turn) (defBody s_Deeds_begin_turn) (defScope s_Deeds_begin_turn) [] [] (He.ma K (He.ga K "Deeds") "begin_turn") fd) : Binds K fd ["self", "giver"] [] := F.bindsN fun kV doc pm an cdv ct us hl => match us, hl with | [u0, u1], _ => rfl
theorem fun6 (c : SX K h) : ∃ fd, FunD K "check" "Deeds.check" (defArgs s_Deeds_check) (defBody s_Deeds_check) (defScope s_Deeds_check) [] [] (He.ma K (He.ga K "Deeds") "check") fd := c.d.def_ 6 (d := d6) rfl
theorem bind6 {fd : FuncData} (F : FunD K "check" "Deeds.check" (defArgs s_Deeds_check) (defBody s_Deeds_check) (defScope s_Deeds_check) [] [] (He.ma K (He.ga K "Deeds") "check") fd) : Binds K fd ["self", "giver", "turn"] [] := F.bindsN fun kV doc pm an cdv ct us hl => match us, hl with | [u0, u1, u2], _ => rfl
theorem fun7 (c : SX K h) : ∃ fd, FunD K "begin" "Deeds.begin" (defArgs s_Deeds_begin) (defBody s_Deeds_begin) (defScope s_Deeds_begin) [] [] (He.ma K (He.ga K "Deeds") "begin") fd := c.d.def_ 7 (d := d7) rfl
theorem bind7 {fd : FuncData} (F : FunD K "begin" "Deeds.begin" (defArgs s_Deeds_begin) (defBody s_Deeds_begin) (defScope s_Deeds_begin) [] [] (He.ma K (He.ga K "Deeds") "begin") fd) : Binds K fd ["self", "giver", "turn"] [] := F.bindsN fun kV doc pm an cdv ct us hl => match us, hl with | [u0, u1, u2], _ => rfl
theorem fun8 (c : SX K h) : ∃ fd, FunD K "put" "Deeds.put" (defArgs s_Deeds_put) (defBody s_Deeds_put) (defScope s_Deeds_put) [] [] (He.ma K (He.ga K "Deeds") "put") fd := c.d.def_ 8 (d := d8) rfl
theorem bind8 {fd : FuncData} (F : FunD K "put" "Deeds.put" (defArgs s_Deeds_put) (defBody s_Deeds_put) (defScope s_Deeds_put) [] [] (He.ma K (He.ga K "Deeds") "put") fd) : Binds K fd ["self", "giver", "turn", "part", "key", "value"] [] := F.bindsN fun kV doc pm an cdv ct us hl => match us, hl with | [u0, u1, u2, u3, u4, u5], _ => rfl
theorem fun9 (c : SX K h) : ∃ fd, FunD K "keep_mark" "Deeds.keep_mark" (defArgs s_Deeds_keep_mark) (defBody s_Deeds_keep_mark) (defScope s_Deeds_keep_mark) [] [] (He.ma K (He.ga K "Deeds") "keep_mark") fd := c.d.def_ 9 (d := d9) rfl
theorem bind9 {fd : FuncData} (F : FunD K "keep_mark" "Deeds.keep_mark" (defArgs s_Deeds_keep_mark) (defBody s_Deeds_keep_mark) (defScope s_Deeds_keep_mark) [] [] (He.ma K (He.ga K "Deeds") "keep_mark") fd) : Binds K fd ["self", "giver", "turn", "group", "part", "mark"] [] := F.bindsN fun kV doc pm an cdv ct us hl => match us, hl with | [u0, u1, u2, u3, u4, u5], _ => rfl
theorem fun10 (c : SX K h) : ∃ fd, FunD K "finish" "Deeds.finish" (defArgs s_Deeds_finish) (defBody s_Deeds_finish) (defScope s_Deeds_finish) [] [] (He.ma K (He.ga K "Deeds") "finish") fd := c.d.def_ 10 (d := d10) rfl
theorem bind10 {fd : FuncData} (F : FunD K "finish" "Deeds.finish" (defArgs s_Deeds_finish) (defBody s_Deeds_finish) (defScope s_Deeds_finish) [] [] (He.ma K (He.ga K "Deeds") "finish") fd) : Binds K fd ["self", "giver", "turn", "kind"] [] := F.bindsN fun kV doc pm an cdv ct us hl => match us, hl with | [u0, u1, u2, u3], _ => rfl
theorem fun11 (c : SX K h) : ∃ fd, FunD K "end_at" "Deeds.end_at" (defArgs s_Deeds_end_at) (defBody s_Deeds_end_at) (defScope s_Deeds_end_at) [] [] (He.ma K (He.ga K "Deeds") "end_at") fd := c.d.def_ 11 (d := d11) rfl
theorem bind11 {fd : FuncData} (F : FunD K "end_at" "Deeds.end_at" (defArgs s_Deeds_end_at) (defBody s_Deeds_end_at) (defScope s_Deeds_end_at) [] [] (He.ma K (He.ga K "Deeds") "end_at") fd) : Binds K fd ["self", "giver", "kind"] [] := F.bindsN fun kV doc pm an cdv ct us hl => match us, hl with | [u0, u1, u2], _ => rfl
theorem fun12 (c : SX K h) : ∃ fd, FunD K "sure_end" "Deeds.sure_end" (defArgs s_Deeds_sure_end) (defBody s_Deeds_sure_end) (defScope s_Deeds_sure_end) [] [] (He.ma K (He.ga K "Deeds") "sure_end") fd := c.d.def_ 12 (d := d12) rfl
theorem bind12 {fd : FuncData} (F : FunD K "sure_end" "Deeds.sure_end" (defArgs s_Deeds_sure_end) (defBody s_Deeds_sure_end) (defScope s_Deeds_sure_end) [] [] (He.ma K (He.ga K "Deeds") "sure_end") fd) : Binds K fd ["self", "part"] [] := F.bindsN fun kV doc pm an cdv ct us hl => match us, hl with | [u0, u1], _ => rfl
theorem fun13 (c : SX K h) : ∃ fd, FunD K "read" "Deeds.read" (defArgs s_Deeds_read) (defBody s_Deeds_read) (defScope s_Deeds_read) [] [] (He.ma K (He.ga K "Deeds") "read") fd := c.d.def_ 13 (d := d13) rfl
theorem bind13 {fd : FuncData} (F : FunD K "read" "Deeds.read" (defArgs s_Deeds_read) (defBody s_Deeds_read) (defScope s_Deeds_read) [] [] (He.ma K (He.ga K "Deeds") "read") fd) : Binds K fd ["self", "part", "mark", "waits"] [] := F.bindsN fun kV doc pm an cdv ct us hl => match us, hl with | [u0, u1, u2, u3], _ => rfl
theorem fun14 (c : SX K h) : ∃ fd, FunD K "ends_of" "Deeds.ends_of" (defArgs s_Deeds_ends_of) (defBody s_Deeds_ends_of) (defScope s_Deeds_ends_of) [] [] (He.ma K (He.ga K "Deeds") "ends_of") fd := c.d.def_ 14 (d := d14) rfl
theorem bind14 {fd : FuncData} (F : FunD K "ends_of" "Deeds.ends_of" (defArgs s_Deeds_ends_of) (defBody s_Deeds_ends_of) (defScope s_Deeds_ends_of) [] [] (He.ma K (He.ga K "Deeds") "ends_of") fd) : Binds K fd ["self", "part"] [] := F.bindsN fun kV doc pm an cdv ct us hl => match us, hl with | [u0, u1], _ => rfl
theorem fun15 (c : SX K h) : ∃ fd, FunD K "__init__" "Chain.__init__" (defArgs s_Chain__init) (defBody s_Chain__init) (defScope s_Chain__init) [] [] (He.ma K (He.ga K "Chain") "__init__") fd := c.d.def_ 15 (d := d15) rfl
theorem bind15 {fd : FuncData} (F : FunD K "__init__" "Chain.__init__" (defArgs s_Chain__init) (defBody s_Chain__init) (defScope s_Chain__init) [] [] (He.ma K (He.ga K "Chain") "__init__") fd) : Binds K fd ["self", "deeds", "giver", "goal", "group"] [] := F.bindsN fun kV doc pm an cdv ct us hl => match us, hl with | [u0, u1, u2, u3, u4], _ => rfl
theorem fun16 (c : SX K h) : ∃ fd, FunD K "step" "Chain.step" (defArgs s_Chain_step) (defBody s_Chain_step) (defScope s_Chain_step) [] [] (He.ma K (He.ga K "Chain") "step") fd := c.d.def_ 16 (d := d16) rfl
theorem bind16 {fd : FuncData} (F : FunD K "step" "Chain.step" (defArgs s_Chain_step) (defBody s_Chain_step) (defScope s_Chain_step) [] [] (He.ma K (He.ga K "Chain") "step") fd) : Binds K fd ["self", "part", "most", "stop"] [] := F.bindsN fun kV doc pm an cdv ct us hl => match us, hl with | [u0, u1, u2, u3], _ => rfl
theorem fun17 (c : SX K h) : ∃ fd, FunD K "again" "Chain.again" (defArgs s_Chain_again) (defBody s_Chain_again) (defScope s_Chain_again) [] [] (He.ma K (He.ga K "Chain") "again") fd := c.d.def_ 17 (d := d17) rfl
theorem bind17 {fd : FuncData} (F : FunD K "again" "Chain.again" (defArgs s_Chain_again) (defBody s_Chain_again) (defScope s_Chain_again) [] [] (He.ma K (He.ga K "Chain") "again") fd) : Binds K fd ["self"] [] := F.bindsN fun kV doc pm an cdv ct us hl => match us, hl with | [u0], _ => rfl
theorem fun18 (c : SX K h) : ∃ fd, FunD K "_law_dice" "_law_dice" (defArgs s_law_dice) (defBody s_law_dice) (defScope s_law_dice) [] [] (He.ga K "_law_dice") fd := c.d.def_ 18 (d := d18) rfl
theorem bind18 {fd : FuncData} (F : FunD K "_law_dice" "_law_dice" (defArgs s_law_dice) (defBody s_law_dice) (defScope s_law_dice) [] [] (He.ga K "_law_dice") fd) : Binds K fd ["cell"] [] := F.bindsN fun kV doc pm an cdv ct us hl => match us, hl with | [u0], _ => rfl
theorem fun19 (c : SX K h) : ∃ fd, FunD K "_law_roll" "_law_roll" (defArgs s_law_roll) (defBody s_law_roll) (defScope s_law_roll) [] [] (He.ga K "_law_roll") fd := c.d.def_ 19 (d := d19) rfl
theorem bind19 {fd : FuncData} (F : FunD K "_law_roll" "_law_roll" (defArgs s_law_roll) (defBody s_law_roll) (defScope s_law_roll) [] [] (He.ga K "_law_roll") fd) : Binds K fd ["dice", "many"] [] := F.bindsN fun kV doc pm an cdv ct us hl => match us, hl with | [u0, u1], _ => rfl
theorem fun20 (c : SX K h) : ∃ fd, FunD K "_law_rounds" "_law_rounds" (defArgs s_law_rounds) (defBody s_law_rounds) (defScope s_law_rounds) [] [] (He.ga K "_law_rounds") fd := c.d.def_ 20 (d := d20) rfl
theorem bind20 {fd : FuncData} (F : FunD K "_law_rounds" "_law_rounds" (defArgs s_law_rounds) (defBody s_law_rounds) (defScope s_law_rounds) [] [] (He.ga K "_law_rounds") fd) : Binds K fd ["script", "most"] [] := F.bindsN fun kV doc pm an cdv ct us hl => match us, hl with | [u0, u1], _ => rfl
theorem fun21 (c : SX K h) : ∃ fd, FunD K "_law_told" "_law_told" (defArgs s_law_told) (defBody s_law_told) (defScope s_law_told) [] [] (He.ga K "_law_told") fd := c.d.def_ 21 (d := d21) rfl
theorem bind21 {fd : FuncData} (F : FunD K "_law_told" "_law_told" (defArgs s_law_told) (defBody s_law_told) (defScope s_law_told) [] [] (He.ga K "_law_told") fd) : Binds K fd ["what"] [] := F.bindsN fun kV doc pm an cdv ct us hl => match us, hl with | [u0], _ => rfl
theorem fun22 (c : SX K h) : ∃ fd, FunD K "_law_chain" "_law_chain" (defArgs s_law_chain) (defBody s_law_chain) (defScope s_law_chain) [] [] (He.ga K "_law_chain") fd := c.d.def_ 22 (d := d22) rfl
theorem bind22 {fd : FuncData} (F : FunD K "_law_chain" "_law_chain" (defArgs s_law_chain) (defBody s_law_chain) (defScope s_law_chain) [] [] (He.ga K "_law_chain") fd) : Binds K fd ["dice"] [] := F.bindsN fun kV doc pm an cdv ct us hl => match us, hl with | [u0], _ => rfl
theorem fun23 (c : SX K h) : ∃ fd, FunD K "_law_elder" "_law_elder" (defArgs s_law_elder) (defBody s_law_elder) (defScope s_law_elder) [] [] (He.ga K "_law_elder") fd := c.d.def_ 23 (d := d23) rfl
theorem bind23 {fd : FuncData} (F : FunD K "_law_elder" "_law_elder" (defArgs s_law_elder) (defBody s_law_elder) (defScope s_law_elder) [] [] (He.ga K "_law_elder") fd) : Binds K fd ["deeds", "turns"] [] := F.bindsN fun kV doc pm an cdv ct us hl => match us, hl with | [u0, u1], _ => rfl
theorem fun24 (c : SX K h) : ∃ fd, FunD K "_law_seen" "_law_seen" (defArgs s_law_seen) (defBody s_law_seen) (defScope s_law_seen) [] [] (He.ga K "_law_seen") fd := c.d.def_ 24 (d := d24) rfl
theorem bind24 {fd : FuncData} (F : FunD K "_law_seen" "_law_seen" (defArgs s_law_seen) (defBody s_law_seen) (defScope s_law_seen) [] [] (He.ga K "_law_seen") fd) : Binds K fd ["deeds", "rows"] [] := F.bindsN fun kV doc pm an cdv ct us hl => match us, hl with | [u0, u1], _ => rfl
theorem fun25 (c : SX K h) : ∃ fd, FunD K "law" "law" (defArgs s_law) (defBody s_law) (defScope s_law) [] [] (He.ga K "law") fd := c.d.def_ 25 (d := d25) rfl
theorem bind25 {fd : FuncData} (F : FunD K "law" "law" (defArgs s_law) (defBody s_law) (defScope s_law) [] [] (He.ga K "law") fd) : Binds K fd ["script"] [] := F.bindsN fun kV doc pm an cdv ct us hl => match us, hl with | [u0], _ => rfl
theorem h_free_int {hh : Heap} (c : SX K h) (X : K.In hh) (G : hh.Ns mainGlobals mg) : mg "int" = none := He.free_ok X G (c.d.fact 0 (f := .free "int") rfl)
theorem h_free_bool {hh : Heap} (c : SX K h) (X : K.In hh) (G : hh.Ns mainGlobals mg) : mg "bool" = none := He.free_ok X G (c.d.fact 1 (f := .free "bool") rfl)
theorem h_free_str {hh : Heap} (c : SX K h) (X : K.In hh) (G : hh.Ns mainGlobals mg) : mg "str" = none := He.free_ok X G (c.d.fact 2 (f := .free "str") rfl)
theorem h_free_isinstance {hh : Heap} (c : SX K h) (X : K.In hh) (G : hh.Ns mainGlobals mg) : mg "isinstance" = none := He.free_ok X G (c.d.fact 3 (f := .free "isinstance") rfl)
theorem h_free_len {hh : Heap} (c : SX K h) (X : K.In hh) (G : hh.Ns mainGlobals mg) : mg "len" = none := He.free_ok X G (c.d.fact 4 (f := .free "len") rfl)
theorem h_free_range {hh : Heap} (c : SX K h) (X : K.In hh) (G : hh.Ns mainGlobals mg) : mg "range" = none := He.free_ok X G (c.d.fact 5 (f := .free "range") rfl)
theorem h_free_tuple {hh : Heap} (c : SX K h) (X : K.In hh) (G : hh.Ns mainGlobals mg) : mg "tuple" = none := He.free_ok X G (c.d.fact 6 (f := .free "tuple") rfl)
theorem h_free_list {hh : Heap} (c : SX K h) (X : K.In hh) (G : hh.Ns mainGlobals mg) : mg "list" = none := He.free_ok X G (c.d.fact 7 (f := .free "list") rfl)
theorem h_free_dict {hh : Heap} (c : SX K h) (X : K.In hh) (G : hh.Ns mainGlobals mg) : mg "dict" = none := He.free_ok X G (c.d.fact 8 (f := .free "dict") rfl)
theorem h_free_ord {hh : Heap} (c : SX K h) (X : K.In hh) (G : hh.Ns mainGlobals mg) : mg "ord" = none := He.free_ok X G (c.d.fact 9 (f := .free "ord") rfl)
theorem h_free_sum {hh : Heap} (c : SX K h) (X : K.In hh) (G : hh.Ns mainGlobals mg) : mg "sum" = none := He.free_ok X G (c.d.fact 10 (f := .free "sum") rfl)
theorem h_free_sorted {hh : Heap} (c : SX K h) (X : K.In hh) (G : hh.Ns mainGlobals mg) : mg "sorted" = none := He.free_ok X G (c.d.fact 11 (f := .free "sorted") rfl)
theorem h_free_min {hh : Heap} (c : SX K h) (X : K.In hh) (G : hh.Ns mainGlobals mg) : mg "min" = none := He.free_ok X G (c.d.fact 12 (f := .free "min") rfl)
theorem h_free_super {hh : Heap} (c : SX K h) (X : K.In hh) (G : hh.Ns mainGlobals mg) : mg "super" = none := He.free_ok X G (c.d.fact 13 (f := .free "super") rfl)
theorem h_free_abs {hh : Heap} (c : SX K h) (X : K.In hh) (G : hh.Ns mainGlobals mg) : mg "abs" = none := He.free_ok X G (c.d.fact 14 (f := .free "abs") rfl)
theorem h_glo_BadRecord {hh : Heap} (c : SX K h) (X : K.In hh) (G : hh.Ns mainGlobals mg) : mg "BadRecord" = some (.ref (He.ga K "BadRecord")) := He.glo_ok X G (c.d.fact 15 (f := .glo "BadRecord") rfl)
theorem h_glo_OutOfLog {hh : Heap} (c : SX K h) (X : K.In hh) (G : hh.Ns mainGlobals mg) : mg "OutOfLog" = some (.ref (He.ga K "OutOfLog")) := He.glo_ok X G (c.d.fact 16 (f := .glo "OutOfLog") rfl)
theorem h_glo_Fenced {hh : Heap} (c : SX K h) (X : K.In hh) (G : hh.Ns mainGlobals mg) : mg "Fenced" = some (.ref (He.ga K "Fenced")) := He.glo_ok X G (c.d.fact 17 (f := .glo "Fenced") rfl)
theorem h_glo_OutOfOrder {hh : Heap} (c : SX K h) (X : K.In hh) (G : hh.Ns mainGlobals mg) : mg "OutOfOrder" = some (.ref (He.ga K "OutOfOrder")) := He.glo_ok X G (c.d.fact 18 (f := .glo "OutOfOrder") rfl)
theorem h_glo_NotDue {hh : Heap} (c : SX K h) (X : K.In hh) (G : hh.Ns mainGlobals mg) : mg "NotDue" = some (.ref (He.ga K "NotDue")) := He.glo_ok X G (c.d.fact 19 (f := .glo "NotDue") rfl)
theorem h_glo_BadPlan {hh : Heap} (c : SX K h) (X : K.In hh) (G : hh.Ns mainGlobals mg) : mg "BadPlan" = some (.ref (He.ga K "BadPlan")) := He.glo_ok X G (c.d.fact 20 (f := .glo "BadPlan") rfl)
theorem h_glo_BadText {hh : Heap} (c : SX K h) (X : K.In hh) (G : hh.Ns mainGlobals mg) : mg "BadText" = some (.ref (He.ga K "BadText")) := He.glo_ok X G (c.d.fact 21 (f := .glo "BadText") rfl)
theorem h_glo_TooLarge {hh : Heap} (c : SX K h) (X : K.In hh) (G : hh.Ns mainGlobals mg) : mg "TooLarge" = some (.ref (He.ga K "TooLarge")) := He.glo_ok X G (c.d.fact 22 (f := .glo "TooLarge") rfl)
theorem h_glo_check_record {hh : Heap} (c : SX K h) (X : K.In hh) (G : hh.Ns mainGlobals mg) : mg "check_record" = some (.ref (He.ga K "check_record")) := He.glo_ok X G (c.d.fact 23 (f := .glo "check_record") rfl)
theorem h_glo_Log {hh : Heap} (c : SX K h) (X : K.In hh) (G : hh.Ns mainGlobals mg) : mg "Log" = some (.ref (He.ga K "Log")) := He.glo_ok X G (c.d.fact 24 (f := .glo "Log") rfl)
theorem h_glo_Deeds {hh : Heap} (c : SX K h) (X : K.In hh) (G : hh.Ns mainGlobals mg) : mg "Deeds" = some (.ref (He.ga K "Deeds")) := He.glo_ok X G (c.d.fact 25 (f := .glo "Deeds") rfl)
theorem h_glo_Chain {hh : Heap} (c : SX K h) (X : K.In hh) (G : hh.Ns mainGlobals mg) : mg "Chain" = some (.ref (He.ga K "Chain")) := He.glo_ok X G (c.d.fact 26 (f := .glo "Chain") rfl)
theorem h_glo__law_dice {hh : Heap} (c : SX K h) (X : K.In hh) (G : hh.Ns mainGlobals mg) : mg "_law_dice" = some (.ref (He.ga K "_law_dice")) := He.glo_ok X G (c.d.fact 27 (f := .glo "_law_dice") rfl)
theorem h_glo__law_roll {hh : Heap} (c : SX K h) (X : K.In hh) (G : hh.Ns mainGlobals mg) : mg "_law_roll" = some (.ref (He.ga K "_law_roll")) := He.glo_ok X G (c.d.fact 28 (f := .glo "_law_roll") rfl)
theorem h_glo__law_rounds {hh : Heap} (c : SX K h) (X : K.In hh) (G : hh.Ns mainGlobals mg) : mg "_law_rounds" = some (.ref (He.ga K "_law_rounds")) := He.glo_ok X G (c.d.fact 29 (f := .glo "_law_rounds") rfl)
theorem h_glo__law_told {hh : Heap} (c : SX K h) (X : K.In hh) (G : hh.Ns mainGlobals mg) : mg "_law_told" = some (.ref (He.ga K "_law_told")) := He.glo_ok X G (c.d.fact 30 (f := .glo "_law_told") rfl)
theorem h_glo__law_chain {hh : Heap} (c : SX K h) (X : K.In hh) (G : hh.Ns mainGlobals mg) : mg "_law_chain" = some (.ref (He.ga K "_law_chain")) := He.glo_ok X G (c.d.fact 31 (f := .glo "_law_chain") rfl)
theorem h_glo__law_elder {hh : Heap} (c : SX K h) (X : K.In hh) (G : hh.Ns mainGlobals mg) : mg "_law_elder" = some (.ref (He.ga K "_law_elder")) := He.glo_ok X G (c.d.fact 32 (f := .glo "_law_elder") rfl)
theorem h_glo__law_seen {hh : Heap} (c : SX K h) (X : K.In hh) (G : hh.Ns mainGlobals mg) : mg "_law_seen" = some (.ref (He.ga K "_law_seen")) := He.glo_ok X G (c.d.fact 33 (f := .glo "_law_seen") rfl)
theorem h_glo_law {hh : Heap} (c : SX K h) (X : K.In hh) (G : hh.Ns mainGlobals mg) : mg "law" = some (.ref (He.ga K "law")) := He.glo_ok X G (c.d.fact 34 (f := .glo "law") rfl)
theorem h_cls_Deeds (c : SX K h) : Cls K (He.ga K "Deeds") := He.cls_ok (c.d.fact 35 (f := .cls "Deeds") rfl)
theorem h_noat_Deeds_logs (c : SX K h) : NoAttr K (He.ga K "Deeds") "logs" := He.noat_ok (c.d.fact 36 (f := .noat "Deeds" "logs") rfl)
theorem h_noat_Deeds_what (c : SX K h) : NoAttr K (He.ga K "Deeds") "what" := He.noat_ok (c.d.fact 37 (f := .noat "Deeds" "what") rfl)
theorem h_noat_Deeds_turns (c : SX K h) : NoAttr K (He.ga K "Deeds") "turns" := He.noat_ok (c.d.fact 38 (f := .noat "Deeds" "turns") rfl)
theorem h_noat_Deeds_at_work (c : SX K h) : NoAttr K (He.ga K "Deeds") "at_work" := He.noat_ok (c.d.fact 39 (f := .noat "Deeds" "at_work") rfl)
theorem h_noat_Deeds_count (c : SX K h) : NoAttr K (He.ga K "Deeds") "count" := He.noat_ok (c.d.fact 40 (f := .noat "Deeds" "count") rfl)
theorem h_noat_Deeds_marks (c : SX K h) : NoAttr K (He.ga K "Deeds") "marks" := He.noat_ok (c.d.fact 41 (f := .noat "Deeds" "marks") rfl)
theorem h_cls_Chain (c : SX K h) : Cls K (He.ga K "Chain") := He.cls_ok (c.d.fact 42 (f := .cls "Chain") rfl)
theorem h_noat_Chain_deeds (c : SX K h) : NoAttr K (He.ga K "Chain") "deeds" := He.noat_ok (c.d.fact 43 (f := .noat "Chain" "deeds") rfl)
theorem h_noat_Chain_giver (c : SX K h) : NoAttr K (He.ga K "Chain") "giver" := He.noat_ok (c.d.fact 44 (f := .noat "Chain" "giver") rfl)
theorem h_noat_Chain_goal (c : SX K h) : NoAttr K (He.ga K "Chain") "goal" := He.noat_ok (c.d.fact 45 (f := .noat "Chain" "goal") rfl)
theorem h_noat_Chain_group (c : SX K h) : NoAttr K (He.ga K "Chain") "group" := He.noat_ok (c.d.fact 46 (f := .noat "Chain" "group") rfl)
theorem h_noat_Chain_turn (c : SX K h) : NoAttr K (He.ga K "Chain") "turn" := He.noat_ok (c.d.fact 47 (f := .noat "Chain" "turn") rfl)
theorem h_cls_Log (c : SX K h) : Cls K (He.ga K "Log") := He.cls_ok (c.d.fact 48 (f := .cls "Log") rfl)
theorem h_noat_Log_piece (c : SX K h) : NoAttr K (He.ga K "Log") "piece" := He.noat_ok (c.d.fact 49 (f := .noat "Log" "piece") rfl)
theorem h_noat_Log_pieces (c : SX K h) : NoAttr K (He.ga K "Log") "pieces" := He.noat_ok (c.d.fact 50 (f := .noat "Log" "pieces") rfl)
theorem h_noat_Log_start (c : SX K h) : NoAttr K (He.ga K "Log") "start" := He.noat_ok (c.d.fact 51 (f := .noat "Log" "start") rfl)
theorem h_noat_Log_end (c : SX K h) : NoAttr K (He.ga K "Log") "end" := He.noat_ok (c.d.fact 52 (f := .noat "Log" "end") rfl)
theorem h_noat_BadRecord_place (c : SX K h) : NoAttr K (He.ga K "BadRecord") "place" := He.noat_ok (c.d.fact 53 (f := .noat "BadRecord" "place") rfl)
theorem h_exc_NotDue (c : SX K h) : (He.Fa.exc "NotDue").ok K = true := c.d.fact 54 (f := .exc "NotDue") rfl
theorem h_exc_Fenced (c : SX K h) : (He.Fa.exc "Fenced").ok K = true := c.d.fact 55 (f := .exc "Fenced") rfl
theorem h_exm_NotDue_BadRecord_false (c : SX K h) : PySem.W.exmOne K (.ref (He.ga K "NotDue")) (.ref (He.ga K "BadRecord")) = some false := He.exm_ok (c.d.fact 56 (f := .exm "NotDue" "BadRecord" false) rfl)
theorem h_exm_NotDue_OutOfLog_false (c : SX K h) : PySem.W.exmOne K (.ref (He.ga K "NotDue")) (.ref (He.ga K "OutOfLog")) = some false := He.exm_ok (c.d.fact 57 (f := .exm "NotDue" "OutOfLog" false) rfl)
theorem h_exm_NotDue_Fenced_false (c : SX K h) : PySem.W.exmOne K (.ref (He.ga K "NotDue")) (.ref (He.ga K "Fenced")) = some false := He.exm_ok (c.d.fact 58 (f := .exm "NotDue" "Fenced" false) rfl)
theorem h_exm_NotDue_OutOfOrder_false (c : SX K h) : PySem.W.exmOne K (.ref (He.ga K "NotDue")) (.ref (He.ga K "OutOfOrder")) = some false := He.exm_ok (c.d.fact 59 (f := .exm "NotDue" "OutOfOrder" false) rfl)
theorem h_exm_NotDue_NotDue_true (c : SX K h) : PySem.W.exmOne K (.ref (He.ga K "NotDue")) (.ref (He.ga K "NotDue")) = some true := He.exm_ok (c.d.fact 60 (f := .exm "NotDue" "NotDue" true) rfl)
theorem h_exm_Fenced_BadRecord_false (c : SX K h) : PySem.W.exmOne K (.ref (He.ga K "Fenced")) (.ref (He.ga K "BadRecord")) = some false := He.exm_ok (c.d.fact 61 (f := .exm "Fenced" "BadRecord" false) rfl)
theorem h_exm_Fenced_OutOfLog_false (c : SX K h) : PySem.W.exmOne K (.ref (He.ga K "Fenced")) (.ref (He.ga K "OutOfLog")) = some false := He.exm_ok (c.d.fact 62 (f := .exm "Fenced" "OutOfLog" false) rfl)
theorem h_exm_Fenced_Fenced_true (c : SX K h) : PySem.W.exmOne K (.ref (He.ga K "Fenced")) (.ref (He.ga K "Fenced")) = some true := He.exm_ok (c.d.fact 63 (f := .exm "Fenced" "Fenced" true) rfl)
theorem h_keep_check_record (c : SX K h) : PySem.W.keepIn K (.ref (He.ga K "check_record")) = true := He.keep_ok (c.d.fact 64 (f := .keep "check_record") rfl)
theorem h_mkr_Log (c : SX K h) : Mk K (He.ga K "Log") (He.ma K (He.ga K "Log") "__init__") := He.mkr_ok (c.d.fact 65 (f := .mkr "Log") rfl)
theorem h_meth_Log_put (c : SX K h) : Meth K (He.ga K "Log") "put" (He.ma K (He.ga K "Log") "put") := He.meth_ok (c.d.fact 66 (f := .meth "Log" "put") rfl)
theorem h_meth_Log_kept (c : SX K h) : Meth K (He.ga K "Log") "kept" (He.ma K (He.ga K "Log") "kept") := He.meth_ok (c.d.fact 67 (f := .meth "Log" "kept") rfl)
theorem h_mkr_Deeds (c : SX K h) : Mk K (He.ga K "Deeds") (He.ma K (He.ga K "Deeds") "__init__") := He.mkr_ok (c.d.fact 68 (f := .mkr "Deeds") rfl)
theorem h_meth_Deeds_begin_turn (c : SX K h) : Meth K (He.ga K "Deeds") "begin_turn" (He.ma K (He.ga K "Deeds") "begin_turn") := He.meth_ok (c.d.fact 69 (f := .meth "Deeds" "begin_turn") rfl)
theorem h_meth_Deeds_check (c : SX K h) : Meth K (He.ga K "Deeds") "check" (He.ma K (He.ga K "Deeds") "check") := He.meth_ok (c.d.fact 70 (f := .meth "Deeds" "check") rfl)
theorem h_meth_Deeds_begin (c : SX K h) : Meth K (He.ga K "Deeds") "begin" (He.ma K (He.ga K "Deeds") "begin") := He.meth_ok (c.d.fact 71 (f := .meth "Deeds" "begin") rfl)
theorem h_meth_Deeds_put (c : SX K h) : Meth K (He.ga K "Deeds") "put" (He.ma K (He.ga K "Deeds") "put") := He.meth_ok (c.d.fact 72 (f := .meth "Deeds" "put") rfl)
theorem h_meth_Deeds_keep_mark (c : SX K h) : Meth K (He.ga K "Deeds") "keep_mark" (He.ma K (He.ga K "Deeds") "keep_mark") := He.meth_ok (c.d.fact 73 (f := .meth "Deeds" "keep_mark") rfl)
theorem h_meth_Deeds_finish (c : SX K h) : Meth K (He.ga K "Deeds") "finish" (He.ma K (He.ga K "Deeds") "finish") := He.meth_ok (c.d.fact 74 (f := .meth "Deeds" "finish") rfl)
theorem h_meth_Deeds_end_at (c : SX K h) : Meth K (He.ga K "Deeds") "end_at" (He.ma K (He.ga K "Deeds") "end_at") := He.meth_ok (c.d.fact 75 (f := .meth "Deeds" "end_at") rfl)
theorem h_meth_Deeds_sure_end (c : SX K h) : Meth K (He.ga K "Deeds") "sure_end" (He.ma K (He.ga K "Deeds") "sure_end") := He.meth_ok (c.d.fact 76 (f := .meth "Deeds" "sure_end") rfl)
theorem h_meth_Deeds_read (c : SX K h) : Meth K (He.ga K "Deeds") "read" (He.ma K (He.ga K "Deeds") "read") := He.meth_ok (c.d.fact 77 (f := .meth "Deeds" "read") rfl)
theorem h_meth_Deeds_ends_of (c : SX K h) : Meth K (He.ga K "Deeds") "ends_of" (He.ma K (He.ga K "Deeds") "ends_of") := He.meth_ok (c.d.fact 78 (f := .meth "Deeds" "ends_of") rfl)
theorem h_mkr_Chain (c : SX K h) : Mk K (He.ga K "Chain") (He.ma K (He.ga K "Chain") "__init__") := He.mkr_ok (c.d.fact 79 (f := .mkr "Chain") rfl)
theorem h_meth_Chain_step (c : SX K h) : Meth K (He.ga K "Chain") "step" (He.ma K (He.ga K "Chain") "step") := He.meth_ok (c.d.fact 80 (f := .meth "Chain" "step") rfl)
theorem h_meth_Chain_again (c : SX K h) : Meth K (He.ga K "Chain") "again" (He.ma K (He.ga K "Chain") "again") := He.meth_ok (c.d.fact 81 (f := .meth "Chain" "again") rfl)
theorem h_keep__law_dice (c : SX K h) : PySem.W.keepIn K (.ref (He.ga K "_law_dice")) = true := He.keep_ok (c.d.fact 82 (f := .keep "_law_dice") rfl)
theorem h_keep__law_roll (c : SX K h) : PySem.W.keepIn K (.ref (He.ga K "_law_roll")) = true := He.keep_ok (c.d.fact 83 (f := .keep "_law_roll") rfl)
theorem h_keep__law_rounds (c : SX K h) : PySem.W.keepIn K (.ref (He.ga K "_law_rounds")) = true := He.keep_ok (c.d.fact 84 (f := .keep "_law_rounds") rfl)
theorem h_keep__law_told (c : SX K h) : PySem.W.keepIn K (.ref (He.ga K "_law_told")) = true := He.keep_ok (c.d.fact 85 (f := .keep "_law_told") rfl)
theorem h_keep__law_chain (c : SX K h) : PySem.W.keepIn K (.ref (He.ga K "_law_chain")) = true := He.keep_ok (c.d.fact 86 (f := .keep "_law_chain") rfl)
theorem h_keep__law_elder (c : SX K h) : PySem.W.keepIn K (.ref (He.ga K "_law_elder")) = true := He.keep_ok (c.d.fact 87 (f := .keep "_law_elder") rfl)
theorem h_keep__law_seen (c : SX K h) : PySem.W.keepIn K (.ref (He.ga K "_law_seen")) = true := He.keep_ok (c.d.fact 88 (f := .keep "_law_seen") rfl)
theorem h_keep_law (c : SX K h) : PySem.W.keepIn K (.ref (He.ga K "law")) = true := He.keep_ok (c.d.fact 89 (f := .keep "law") rfl)
theorem sx_BadRecord : SupScope ["self", "place"] (defScope s_BadRecord__init) := ⟨rfl, rfl, rfl, by decide +kernel, by decide +kernel, by decide +kernel, by decide +kernel, rfl, rfl⟩
theorem xi_BadRecord {hh base : Heap} (c : SX K h) (X : K.In hh) (G : hh.Ns mainGlobals mg) : ExiAt P w K mg base 1 "BadRecord" ["place"] := by
  obtain ⟨fd, F, iC, tI, hb⟩ := supB_ok (P := P) (d := ("BadRecord", defArgs s_BadRecord__init, defBody s_BadRecord__init, defScope s_BadRecord__init)) (ex0 c) (c.xi_at 0 (d := ("BadRecord", defArgs s_BadRecord__init, defBody s_BadRecord__init, defScope s_BadRecord__init)))
  exact ⟨⟨fd, ["self", "place"], ok_init1 F sx_BadRecord (h_free_super c X G) rfl rfl rfl rfl (h_noat_BadRecord_place c) rfl (fun _ => rfl), hb _ fun cl kV doc pm an cdv ct us hl => match us, hl with | [u0, u1], _ => rfl⟩, F.oex, iC, tI, h_glo_BadRecord c X G⟩
theorem fx_of {hh : Heap} (c : SX K h) (X : K.In hh) (G : hh.Ns mainGlobals mg) : Fx K mg where
  int := h_free_int c X G
  bool := h_free_bool c X G
  str := h_free_str c X G
  isi := h_free_isinstance c X G
  len := h_free_len c X G
  range := h_free_range c X G
  tuple := h_free_tuple c X G
  list := h_free_list c X G
  dict := h_free_dict c X G
  ord := h_free_ord c X G
  sum := h_free_sum c X G
  cL := h_cls_Log c
  sorted := h_free_sorted c X G
  min := h_free_min c X G
  cD := h_cls_Deeds c
  d1 := h_noat_Deeds_logs c
  d2 := h_noat_Deeds_what c
  d3 := h_noat_Deeds_turns c
  d4 := h_noat_Deeds_at_work c
  d5 := h_noat_Deeds_count c
  d6 := h_noat_Deeds_marks c
  cC := h_cls_Chain c
  c1 := h_noat_Chain_deeds c
  c2 := h_noat_Chain_giver c
  c3 := h_noat_Chain_goal c
  c4 := h_noat_Chain_group c
  c5 := h_noat_Chain_turn c
  nd := ⟨h_glo_NotDue c X G, h_exc_NotDue c⟩
  fe := ⟨h_glo_Fenced c X G, h_exc_Fenced c⟩
  n1 := h_noat_Log_piece c
  n2 := h_noat_Log_pieces c
  n3 := h_noat_Log_start c
  n4 := h_noat_Log_end c
theorem cat_of (c : SX K h) : Cat K where
  nd := fun P p => ⟨_, h_exm_NotDue_BadRecord_false c, nofun, fun _ => ⟨_, h_exm_NotDue_OutOfLog_false c, nofun, fun _ => ⟨_, h_exm_NotDue_Fenced_false c, nofun, fun _ => ⟨_, h_exm_NotDue_OutOfOrder_false c, nofun, fun _ => ⟨_, h_exm_NotDue_NotDue_true c, fun _ => p, nofun⟩⟩⟩⟩⟩
  fe := fun P p => ⟨_, h_exm_Fenced_BadRecord_false c, nofun, fun _ => ⟨_, h_exm_Fenced_OutOfLog_false c, nofun, fun _ => ⟨_, h_exm_Fenced_Fenced_true c, fun _ => p, nofun⟩⟩⟩
theorem lam_law (c : SX K h) {base : Heap} (TB : ∀ p ∈ tfl.map (He.cT K), LamX.TabB base mg p.1 p.2) {fd : FuncData} (F : FunD K "law" "law" (defArgs s_law) (defBody s_law) (defScope s_law) [] [] (He.ga K "law") fd) :
    ∀ A outer s H E, LamAt (TT K) (bx P w K mg base n_law "law" (defScope s_law) (He.ga K "law") fd.code A outer s H E) := fun A outer s H E =>
  ⟨(He.cT K ("law", none)).1, (He.cT K ("law", none)).2, TB _ List.mem_cons_self, code_at (p := ("law", none)) F, List.mem_cons_self, fun p hp e => by
    have hp : p ∈ [((He.cT K ("law", none)).2, (("law" : Str) ++ ".<locals>.") ++ "<lambda>"), ((He.cT K ("_law_elder", none)).2, (("_law_elder" : Str) ++ ".<locals>.") ++ "<lambda>")] := hp
    simp only [List.mem_cons, List.not_mem_nil, or_false] at hp
    rcases hp with rfl | rfl
    · rfl
    · exact absurd e (fun z => of_decide_eq_true (ex_0_1 c) z.symm)⟩
theorem lam__law_elder (c : SX K h) {base : Heap} (TB : ∀ p ∈ tfl.map (He.cT K), LamX.TabB base mg p.1 p.2) {fd : FuncData} (F : FunD K "_law_elder" "_law_elder" (defArgs s_law_elder) (defBody s_law_elder) (defScope s_law_elder) [] [] (He.ga K "_law_elder") fd) :
    ∀ A outer s H E, LamAt (TT K) (bx P w K mg base n_law_elder "_law_elder" (defScope s_law_elder) (He.ga K "_law_elder") fd.code A outer s H E) := fun A outer s H E =>
  ⟨(He.cT K ("_law_elder", none)).1, (He.cT K ("_law_elder", none)).2, TB _ (List.mem_cons_of_mem _ List.mem_cons_self), code_at (p := ("_law_elder", none)) F, (List.mem_cons_of_mem _ List.mem_cons_self), fun p hp e => by
    have hp : p ∈ [((He.cT K ("law", none)).2, (("law" : Str) ++ ".<locals>.") ++ "<lambda>"), ((He.cT K ("_law_elder", none)).2, (("_law_elder" : Str) ++ ".<locals>.") ++ "<lambda>")] := hp
    simp only [List.mem_cons, List.not_mem_nil, or_false] at hp
    rcases hp with rfl | rfl
    · exact absurd e (of_decide_eq_true (ex_0_1 c))
    · rfl⟩
theorem law_ok (c : SX K h) {base : Heap} (X : K.In base) (G : base.Ns mainGlobals mg) (TB : ∀ p ∈ tfl.map (He.cT K), LamX.TabB base mg p.1 p.2) {fd : FuncData} (F : FunD K "law" "law" (defArgs s_law) (defBody s_law) (defScope s_law) [] [] (He.ga K "law") fd) :
    FnOk P w K mg base (L2.CX P w) 11 (He.ga K "law") fd ["script"] (spOf (TT K) (spLaw K)) := by
  have fx := fx_of c X G
  have ca := cat_of c
  have br := xi_BadRecord (w := w) c X G (base := base)
  obtain ⟨_, F0⟩ := fun0 c
  obtain ⟨_, F1⟩ := fun1 c
  obtain ⟨_, F2⟩ := fun2 c
  obtain ⟨_, F3⟩ := fun3 c
  obtain ⟨_, F4⟩ := fun4 c
  obtain ⟨_, F5⟩ := fun5 c
  obtain ⟨_, F6⟩ := fun6 c
  obtain ⟨_, F7⟩ := fun7 c
  obtain ⟨_, F8⟩ := fun8 c
  obtain ⟨_, F9⟩ := fun9 c
  obtain ⟨_, F10⟩ := fun10 c
  obtain ⟨_, F11⟩ := fun11 c
  obtain ⟨_, F12⟩ := fun12 c
  obtain ⟨_, F13⟩ := fun13 c
  obtain ⟨_, F14⟩ := fun14 c
  obtain ⟨_, F15⟩ := fun15 c
  obtain ⟨_, F16⟩ := fun16 c
  obtain ⟨_, F17⟩ := fun17 c
  obtain ⟨_, F18⟩ := fun18 c
  obtain ⟨_, F19⟩ := fun19 c
  obtain ⟨_, F20⟩ := fun20 c
  obtain ⟨_, F21⟩ := fun21 c
  obtain ⟨_, F22⟩ := fun22 c
  obtain ⟨_, F23⟩ := fun23 c
  obtain ⟨_, F24⟩ := fun24 c
  have D := told_at F21 (h_glo__law_told c X G) fun q hq => by
    simp only [cs8, List.mem_cons, List.not_mem_nil, or_false] at hq
    rcases hq with rfl | rfl | rfl | rfl | rfl | rfl | rfl | rfl
    · exact h_glo_BadRecord c X G
    · exact h_glo_OutOfLog c X G
    · exact h_glo_Fenced c X G
    · exact h_glo_OutOfOrder c X G
    · exact h_glo_NotDue c X G
    · exact h_glo_BadPlan c X G
    · exact h_glo_BadText c X G
    · exact h_glo_TooLarge c X G
  have A_check_record : FnAt (TT K) P w K mg base 3 "check_record" (spCR K) := ⟨⟨_, _, ok_cr fx br F0, bind0 F0⟩, h_glo_check_record c X G, h_keep_check_record c⟩
  have A_Log : MkAt (TT K) P w K mg base 1 "Log" (spLI K) := ⟨⟨_, _, ok_li fx F1, bind1 F1⟩, h_mkr_Log c, h_glo_Log c X G⟩
  have A_Log_put : MeAt (TT K) P w K mg base 4 "Log" "put" (spPut K) := ⟨⟨_, _, ok_put fx A_check_record F2, bind2 F2⟩, h_cls_Log c, h_meth_Log_put c⟩
  have A_Log_kept : MeAt (TT K) P w K mg base 1 "Log" "kept" (spKept K) := ⟨⟨_, _, ok_kept fx F3, bind3 F3⟩, h_cls_Log c, h_meth_Log_kept c⟩
  have A_Deeds : MkAt (TT K) P w K mg base 3 "Deeds" (spDI K) := ⟨⟨_, _, ok_di fx A_Log F4, bind4 F4⟩, h_mkr_Deeds c, h_glo_Deeds c X G⟩
  have A_Deeds_end_at : MeAt (TT K) P w K mg base 5 "Deeds" "end_at" (spEA K) := ⟨⟨_, _, ok_ea fx A_Log_put F11, bind11 F11⟩, h_cls_Deeds c, h_meth_Deeds_end_at c⟩
  have A_Deeds_begin_turn : MeAt (TT K) P w K mg base 6 "Deeds" "begin_turn" (spBT K) := ⟨⟨_, _, ok_bt fx A_Deeds_end_at F5, bind5 F5⟩, h_cls_Deeds c, h_meth_Deeds_begin_turn c⟩
  have A_Deeds_check : MeAt (TT K) P w K mg base 1 "Deeds" "check" (spCK K) := ⟨⟨_, _, ok_ck fx F6, bind6 F6⟩, h_cls_Deeds c, h_meth_Deeds_check c⟩
  have A_Deeds_begin : MeAt (TT K) P w K mg base 2 "Deeds" "begin" (spBG K) := ⟨⟨_, _, ok_bg fx A_Deeds_check F7, bind7 F7⟩, h_cls_Deeds c, h_meth_Deeds_begin c⟩
  have A_Deeds_put : MeAt (TT K) P w K mg base 5 "Deeds" "put" (spPT K) := ⟨⟨_, _, ok_pt8 fx A_Deeds_check A_Log_put F8, bind8 F8⟩, h_cls_Deeds c, h_meth_Deeds_put c⟩
  have A_Deeds_keep_mark : MeAt (TT K) P w K mg base 2 "Deeds" "keep_mark" (spKM K) := ⟨⟨_, _, ok_km fx A_Deeds_check F9, bind9 F9⟩, h_cls_Deeds c, h_meth_Deeds_keep_mark c⟩
  have A_Deeds_finish : MeAt (TT K) P w K mg base 6 "Deeds" "finish" (spFN K) := ⟨⟨_, _, ok_fn fx A_Deeds_check A_Deeds_end_at F10, bind10 F10⟩, h_cls_Deeds c, h_meth_Deeds_finish c⟩
  have A_Deeds_sure_end : MeAt (TT K) P w K mg base 2 "Deeds" "sure_end" (spSE K) := ⟨⟨_, _, ok_se fx F12, bind12 F12⟩, h_cls_Deeds c, h_meth_Deeds_sure_end c⟩
  have A_Deeds_ends_of : MeAt (TT K) P w K mg base 2 "Deeds" "ends_of" (spEO K) := ⟨⟨_, _, ok_eo fx F14, bind14 F14⟩, h_cls_Deeds c, h_meth_Deeds_ends_of c⟩
  have A_Deeds_read : MeAt (TT K) P w K mg base 3 "Deeds" "read" (spRD K) := ⟨⟨_, _, ok_rd fx A_Deeds_sure_end A_Deeds_ends_of A_Log_kept F13, bind13 F13⟩, h_cls_Deeds c, h_meth_Deeds_read c⟩
  have A_Chain : MkAt (TT K) P w K mg base 7 "Chain" (spCI8 K) := ⟨⟨_, _, ok_chi fx A_Deeds_begin_turn F15, bind15 F15⟩, h_mkr_Chain c, h_glo_Chain c X G⟩
  have A_Chain_step : MeAt (TT K) P w K mg base 7 "Chain" "step" (spST K) := ⟨⟨_, _, ok_st fx A_Deeds_read A_Deeds_begin A_Deeds_put A_Deeds_keep_mark A_Deeds_finish F16, bind16 F16⟩, h_cls_Chain c, h_meth_Chain_step c⟩
  have A_Chain_again : MeAt (TT K) P w K mg base 7 "Chain" "again" (spCA8 K) := ⟨⟨_, _, ok_cha fx A_Deeds_begin_turn F17, bind17 F17⟩, h_cls_Chain c, h_meth_Chain_again c⟩
  have A__law_dice : FnAt (TT K) P w K mg base 1 "_law_dice" spDice := ⟨⟨_, _, ok_dice (h_free_int c X G) (h_free_abs c X G) F18, bind18 F18⟩, h_glo__law_dice c X G, h_keep__law_dice c⟩
  have A__law_roll : FnAt (TT K) P w K mg base 1 "_law_roll" spRoll := ⟨⟨_, _, ok_roll (h_free_int c X G) F19, bind19 F19⟩, h_glo__law_roll c X G, h_keep__law_roll c⟩
  have A__law_rounds : FnAt (TT K) P w K mg base 2 "_law_rounds" (spRounds K) := ⟨⟨_, _, ok_rounds A__law_dice F20, bind20 F20⟩, h_glo__law_rounds c X G, h_keep__law_rounds c⟩
  have A__law_chain : FnAt (TT K) P w K mg base 9 "_law_chain" spLC := ⟨⟨_, _, ok_lc fx A__law_roll A_Deeds A_Deeds_begin_turn A_Deeds_put A_Chain A_Chain_step A_Chain_again A_Deeds_read F22, bind22 F22⟩, h_glo__law_chain c X G, h_keep__law_chain c⟩
  have A__law_seen : FnAt (TT K) P w K mg base 4 "_law_seen" (spLS K) := ⟨⟨_, _, ok_ls fx A_Deeds_read F24, bind24 F24⟩, h_glo__law_seen c X G, h_keep__law_seen c⟩
  have A__law_elder : FnAt (TT K) P w K mg base 9 "_law_elder" (spLE K) := ⟨⟨_, _, ok_le fx ca A_Deeds_begin_turn A_Deeds_put A_Deeds_keep_mark D (lam__law_elder c TB F23) F23, bind23 F23⟩, h_glo__law_elder c X G, h_keep__law_elder c⟩
  have me : Me (TT K) P w K mg base := ⟨A_Deeds_begin, A_Deeds_put, A_Deeds_finish⟩
  exact ok_law fx ca me A__law_roll A__law_rounds A_Deeds A_Deeds_begin_turn A__law_seen A__law_elder A__law_chain D (lam_law c TB F) F
theorem law_start {H : Hp} {a : Addr} {ns : List Int} (hl : ns.length ≤ 63) (hT : ∀ p ∈ tfl.map (He.cT K), H p.2 = some (.tbl #[])) (hS : SqL K H a (ns.map V.int)) : spOf (TT K) (spLaw K) [.ref a] H (fun v _ => v = .bl true) fun _ _ _ => False := by
  refine ⟨[ScrP K a ns], fun v _ => v = .bl true, kx0, ⟨fun p hp => ?_, pcs_scr hS⟩, ⟨a, ns, [], rfl, rfl, by omega, fun _ => rfl⟩, fun v _ _ e _ => e, fun _ _ _ _ k _ => k.elim⟩
  have hz : ∃ q ∈ tfl.map (He.cT K), q.2 = p.1 := by
    have hp : p ∈ [((He.cT K ("law", none)).2, (("law" : Str) ++ ".<locals>.") ++ "<lambda>"), ((He.cT K ("_law_elder", none)).2, (("_law_elder" : Str) ++ ".<locals>.") ++ "<lambda>")] := hp
    simp only [List.mem_cons, List.not_mem_nil, or_false] at hp
    rcases hp with rfl | rfl
    · exact ⟨_, List.mem_cons_self, rfl⟩
    · exact ⟨_, (List.mem_cons_of_mem _ List.mem_cons_self), rfl⟩
  obtain ⟨q, hq, e⟩ := hz
  exact LamX.TabS.nil (by rw [← e]; exact hT q hq)
end
end K08
open PySem PySem.W PySem.Calls PyProof.Rows
theorem PySem.Challenge.cw_brookhall_k08_deeds_all_or_nothing_holds : PySem.Challenge.rw_brookhall_k08_deeds_all_or_nothing.Holds := by
  w_on; o_law
  refine HandSHeadRun.head_any (r := OpenLaw.row PySem.Challenge.rw_brookhall_k08_deeds_all_or_nothing) (q := view (OpenLaw.row PySem.Challenge.rw_brookhall_k08_deeds_all_or_nothing).prog [25]) (H := K08.hk) (ob := K08.ob) (M := 12000) (loose := ["_wall", "BrookFault", "BadRecord", "OutOfLog", "Fenced", "OutOfOrder", "NotDue", "BadPlan", "BadText", "TooLarge", "check_record", "Log", "Deeds", "Chain", "_law_dice", "_law_roll", "_law_rounds", "_law_told", "_law_chain", "_law_elder", "_law_seen"]) (d := HandSHeadRun.topDef (OpenLaw.row PySem.Challenge.rw_brookhall_k08_deeds_all_or_nothing).prog 25) (kwd := []) K08.ob_eq
    (by kernel_rfl) (fun s => by kernel_rfl) K08.run (by kernel_rfl) (by kernel_rfl) (by kernel_rfl) (by rfl) (by first | assumption | decide +kernel) (by decide +kernel) ⟨rfl, rfl, rfl, rfl, rfl, by decide +kernel⟩ ?hw ?hc
  case hw => w_witness2
  case hc =>
    refine LamX.walk_ofTsE (l := PySem.Challenge.rw_brookhall_k08_deeds_all_or_nothing) (n := 63) (k := 11) (x := "script") (CX := fun w => L2.CX (PySem.Challenge.rw_brookhall_k08_deeds_all_or_nothing).prog w) rfl (by decide) (by kernel_rfl) ⟨rfl, by decide, by decide⟩ ?F (fun _ _ _ _ _ ⟨_, _, _, _, _, _, _, _, _, _, _, _, hE⟩ => hE)
    intro w mg fa h Y G hmg0
    obtain ⟨K, KX, c⟩ := Y
    have hmg : mg ("law" : PySem.Str) = some (.ref fa) := by
      have e : (HandSHeadRun.topDef (OpenLaw.row PySem.Challenge.rw_brookhall_k08_deeds_all_or_nothing).prog 25).name = ("law" : PySem.Str) := by kernel_rfl
      rw [← e]
      exact hmg0
    have e := hmg.symm.trans (K08.h_glo_law c KX G)
    cases e
    obtain ⟨fd, F⟩ := K08.fun25 c
    have b := L2.FunD.bindsA (ps := ["script"]) F fun _ _ _ _ _ _ us hl => match us, hl with | [_], _ => rfl
    refine ⟨K, KX, fd, K08.tfl.map (He.cT K), SW.spOf (K08.TT K) (K08.spLaw K), fun p hp => ?_, fun p hp => ?_, fun p hp => ?_, fun s v => b s [v] rfl, fun H a ns hl hb hT hS => ?_, fun base KB GB TB => K08.law_ok c KB GB TB F⟩
    · obtain ⟨z, hz, rfl⟩ := List.mem_map.mp hp; exact c.empty z hz
    · obtain ⟨z, hz, rfl⟩ := List.mem_map.mp hp; exact c.out z hz
    · obtain ⟨z, hz, rfl⟩ := List.mem_map.mp hp; exact PySem.W.codeHd_of_K KX (c.hd z hz)
    · exact K08.law_start hl hT hS
