import PyProof.Rows.All
import Wide.All
import OpenK.AllK
import Wide.FinOn
import HandS.ForMost
import HandS.ForExc
import HandS.TryMany
import HandS.Lambda
import HandS.CallSlots
import HandS.Wide
import HandS.HeadHook4
import HandS.HeadWalk
import HandS.Head0
import HandS.Head1
import HandS.Head2
import HandS.Conv
import HandS.TupAny
import HandS.Deep
import HandS.SetFor
import HandS.Sort
import PyProof.ListRange
import PyProof.Rows.GenSrcRange
import PyProof.SumAnyB
import HandS.Iter
import HandS.Text
import HandS.Replace
import HandS.ExcInit
import KE.KExcSuper
import KE.KSuper
import PySem.Challenge.RW_brookhall_k01_records_as_octets
set_option Elab.async false
set_option linter.all false
set_option maxRecDepth 100000
set_option maxHeartbeats 2000000
/-! Sw1: the abstract heap in pieces (rows of assertions); the judgements over them. -/
namespace SW
open PySem PySem.Spec L2
open PyProof.Rows hiding St
/-! ### rows of pieces -/
inductive A2 {α β : Type} (R : α → β → Prop) : List α → List β → Prop
  | nil : A2 R [] []
  | cons {a b l m} : R a b → A2 R l m → A2 R (a :: l) (b :: m)
theorem A2.mem {α β : Type} {R : α → β → Prop} {l : List α} {m : List β} (h : A2 R l m) {a : α} (ha : a ∈ l) : ∃ b, b ∈ m ∧ R a b := by
  induction h with
  | nil => cases ha
  | cons r t ih =>
    rcases List.mem_cons.mp ha with e | e
    · subst e; exact ⟨_, List.mem_cons_self, r⟩
    · obtain ⟨b, hb, q⟩ := ih e
      exact ⟨b, List.mem_cons_of_mem _ hb, q⟩
theorem A2.perm {α β : Type} {R : α → β → Prop} {l l' : List α} (p : l.Perm l') : ∀ {m : List β}, A2 R l m → ∃ m', A2 R l' m' ∧ m.Perm m' := by
  induction p with
  | nil => intro m h; exact ⟨m, h, List.Perm.refl _⟩
  | cons x _ ih =>
    intro m h
    cases h with
    | cons r t =>
      obtain ⟨m', h', q⟩ := ih t
      exact ⟨_, .cons r h', q.cons _⟩
  | swap x y l =>
    intro m h
    cases h with
    | cons r t =>
      cases t with
      | cons r2 t2 => exact ⟨_, .cons r2 (.cons r t2), List.Perm.swap _ _ _⟩
  | trans _ _ ih1 ih2 =>
    intro m h
    obtain ⟨m1, h1, q1⟩ := ih1 h
    obtain ⟨m2, h2, q2⟩ := ih2 h1
    exact ⟨m2, h2, q1.trans q2⟩
theorem A2.append {α β : Type} {R : α → β → Prop} {l1 : List α} {m1 : List β} (h : A2 R l1 m1) : ∀ {l2 : List α} {m2 : List β}, A2 R l2 m2 → A2 R (l1 ++ l2) (m1 ++ m2) := by
  induction h with
  | nil => intro l2 m2 h2; exact h2
  | cons r _ ih => intro l2 m2 h2; exact .cons r (ih h2)
theorem A2.split {α β : Type} {R : α → β → Prop} : ∀ {l1 l2 : List α} {m : List β}, A2 R (l1 ++ l2) m → ∃ m1 m2, m = m1 ++ m2 ∧ A2 R l1 m1 ∧ A2 R l2 m2
  | [], l2, m, h => ⟨[], m, rfl, .nil, h⟩
  | a :: l1, l2, _, .cons r t => by
    obtain ⟨m1, m2, e, h1, h2⟩ := A2.split t
    exact ⟨_ :: m1, m2, by rw [e]; rfl, .cons r h1, h2⟩
theorem A2.imp {α β : Type} {R R' : α → β → Prop} (f : ∀ a b, R a b → R' a b) {l : List α} {m : List β} (h : A2 R l m) : A2 R' l m := by
  induction h with
  | nil => exact .nil
  | cons r _ ih => exact .cons (f _ _ r) ih
theorem A2.length {α β : Type} {R : α → β → Prop} {l : List α} {m : List β} (h : A2 R l m) : l.length = m.length := by
  induction h with
  | nil => rfl
  | cons _ _ ih => simp [ih]
abbrev SA := Hp → Prop
def Sub (h H : Hp) : Prop := ∀ a o, h a = some o → H a = some o ∧ ∀ ps, o ≠ .tbl ps
def Apart (h g : Hp) : Prop := ∀ a o, h a = some o → g a = some o → ∃ xs, o = HO.tup xs
theorem Apart.symm {h g : Hp} (x : Apart h g) : Apart g h := fun a o e1 e2 => x a o e2 e1
theorem Sub.trans {f g h : Hp} (a : Sub f g) (b : Sub g h) : Sub f h := fun x o e => ⟨(b x o (a x o e).1).1, (a x o e).2⟩
/-- pieces -/
def Pcs (L : List SA) (H : Hp) : Prop := ∃ ps : List Hp, A2 (fun (A : SA) h => A h) L ps ∧ ps.Pairwise Apart ∧ ∀ h ∈ ps, Sub h H
structure Hs (T : List (Addr × Str)) (L : List SA) (H : Hp) : Prop where
  tabs : LamX.Tabs T H
  pcs : Pcs L H
def pt (a : Addr) (o : HO) : SA := fun h => h a = some o
section
variable {T : List (Addr × Str)} {L L' L1 R : List SA} {A B : SA} {H H' : Hp} {a p : Addr} {o o' : HO}
theorem Pcs.nil : Pcs [] H := ⟨[], .nil, List.Pairwise.nil, fun _ h => nomatch h⟩
theorem Pcs.perm (p : L.Perm L') (h : Pcs L H) : Pcs L' H := by
  obtain ⟨ps, h1, h2, h3⟩ := h
  obtain ⟨ps', h1', q⟩ := h1.perm p
  exact ⟨ps', h1', (q.pairwise_iff (fun x => Apart.symm x)).mp h2, fun g hg => h3 g (q.mem_iff.mpr hg)⟩
theorem Pcs.tail (h : Pcs (A :: L) H) : Pcs L H := by
  obtain ⟨ps, h1, h2, h3⟩ := h
  cases h1 with
  | cons r t => exact ⟨_, t, (List.pairwise_cons.mp h2).2, fun g hg => h3 g (List.mem_cons_of_mem _ hg)⟩
theorem Pcs.imp (f : ∀ h, A h → B h) (h : Pcs (A :: L) H) : Pcs (B :: L) H := by
  obtain ⟨ps, h1, h2, h3⟩ := h
  cases h1 with
  | cons r t => exact ⟨_, .cons (f _ r) t, h2, h3⟩
theorem Pcs.mono (e : Sub H H') (h : Pcs L H) : Pcs L H' := by
  obtain ⟨ps, h1, h2, h3⟩ := h
  exact ⟨ps, h1, h2, fun g hg => (h3 g hg).trans e⟩
/-- all pieces stand in H' -/
theorem Pcs.move (h : Pcs L H) (e : ∀ g, Sub g H → Sub g H') : Pcs L H' := by
  obtain ⟨ps, h1, h2, h3⟩ := h
  exact ⟨ps, h1, h2, fun g hg => e g (h3 g hg)⟩
theorem Pcs.get (h : Pcs (pt a o :: L) H) : H a = some o := by
  obtain ⟨ps, h1, h2, h3⟩ := h
  cases h1 with
  | cons r t => exact (h3 _ List.mem_cons_self a o r).1
/-- rows as one piece -/
theorem Pcs.fold (h : Pcs (L1 ++ L) H) : Pcs ((fun g => Pcs L1 g) :: L) H := by
  obtain ⟨ps, h1, h2, h3⟩ := h
  obtain ⟨m1, m2, rfl, k1, k2⟩ := h1.split
  obtain ⟨q1, q2, q3⟩ := List.pairwise_append.mp h2
  classical
  let u : Hp := fun a => if ∃ g ∈ m1, ∃ o, g a = some o then H a else none
  have hu : ∀ g ∈ m1, Sub g u := fun g hg a o e => by
    have s := h3 g (List.mem_append_left _ hg) a o e
    refine ⟨?_, s.2⟩
    show (if ∃ g ∈ m1, ∃ o, g a = some o then H a else none) = some o
    rw [if_pos ⟨g, hg, o, e⟩]; exact s.1
  have uo : ∀ a o, u a = some o → ∃ g ∈ m1, g a = some o := fun a o e => by
    have e' : (if ∃ g ∈ m1, ∃ o, g a = some o then H a else none) = some o := e
    by_cases c : ∃ g ∈ m1, ∃ o, g a = some o
    · rw [if_pos c] at e'
      obtain ⟨g, hg, o2, e2⟩ := c
      have s := (h3 g (List.mem_append_left _ hg) a o2 e2).1
      rw [e'] at s; cases s
      exact ⟨g, hg, e2⟩
    · rw [if_neg c] at e'; cases e'
  refine ⟨u :: m2, .cons ⟨m1, k1, q1, hu⟩ k2, List.pairwise_cons.mpr ⟨fun g hg a o e1 e2 => ?_, q2⟩, fun g hg => ?_⟩
  · obtain ⟨f, hf, e⟩ := uo a o e1
    exact q3 f hf g hg a o e e2
  · rcases List.mem_cons.mp hg with rfl | hg
    · intro a o e
      obtain ⟨f, hf, e'⟩ := uo a o e
      exact h3 f (List.mem_append_left _ hf) a o e'
    · exact h3 g (List.mem_append_right _ hg)
theorem Pcs.unf (h : Pcs ((fun g => Pcs L1 g) :: L) H) : Pcs (L1 ++ L) H := by
  obtain ⟨ps, h1, h2, h3⟩ := h
  cases h1 with
  | cons r t =>
    obtain ⟨m1, k1, k2, k3⟩ := r
    obtain ⟨q1, q2⟩ := List.pairwise_cons.mp h2
    refine ⟨m1 ++ _, k1.append t, List.pairwise_append.mpr ⟨k2, q2, fun f hf g hg a o e1 e2 => q1 g hg a o (k3 f hf a o e1).1 e2⟩, fun g hg => ?_⟩
    rcases List.mem_append.mp hg with hg | hg
    · exact (k3 g hg).trans (h3 _ List.mem_cons_self)
    · exact h3 g (List.mem_cons_of_mem _ hg)
theorem Pcs.of1 (h : Pcs [A] H) (mono : ∀ g, A g → Sub g H → A H) : A H := by
  obtain ⟨ps, h1, _, h3⟩ := h
  cases h1 with
  | cons r t => exact mono _ r (h3 _ List.mem_cons_self)
theorem Pcs.ex {α : Type} {F : α → SA} (h : Pcs ((fun g => ∃ x, F x g) :: L) H) : ∃ x, Pcs (F x :: L) H := by
  obtain ⟨ps, h1, h2, h3⟩ := h
  cases h1 with
  | cons r t =>
    obtain ⟨x, r⟩ := r
    exact ⟨x, _, .cons r t, h2, h3⟩
theorem Pcs.pure {φ : Prop} (h : Pcs ((fun g => φ ∧ A g) :: L) H) : φ ∧ Pcs (A :: L) H := by
  obtain ⟨ps, h1, h2, h3⟩ := h
  cases h1 with
  | cons r t => exact ⟨r.1, _, .cons r.2 t, h2, h3⟩
theorem Pcs.fact {φ : Prop} (f : ∀ g, A g → φ) (h : Pcs (A :: L) H) : φ := by
  obtain ⟨ps, h1, h2, h3⟩ := h
  cases h1 with
  | cons r t => exact f _ r
theorem Pcs.factH {φ : Prop} (f : ∀ g, A g → Sub g H → φ) (h : Pcs (A :: L) H) : φ := by
  obtain ⟨ps, h1, h2, h3⟩ := h
  cases h1 with
  | cons r t => exact f _ r (h3 _ List.mem_cons_self)
/-! ### a new object, an object written -/
def NoTbl (o : HO) : Prop := ∀ ps, o ≠ .tbl ps
def one (a : Addr) (o : HO) : Hp := fun b => if b = a then some o else none
theorem one_same : one a o a = some o := if_pos rfl
theorem one_of {b : Addr} {u : HO} (h : one a o b = some u) : b = a ∧ u = o := by
  unfold one at h
  by_cases e : b = a
  · rw [if_pos e] at h; exact ⟨e, (Option.some.inj h).symm⟩
  · rw [if_neg e] at h; cases h
theorem Pcs.new (hp : H p = none) (ho : NoTbl o) (h : Pcs L H) : Pcs (pt p o :: L) (upd H p o) := by
  obtain ⟨ps, h1, h2, h3⟩ := h
  refine ⟨one p o :: ps, .cons one_same h1, List.pairwise_cons.mpr ⟨fun g hg a u e1 e2 => ?_, h2⟩, fun g hg => ?_⟩
  · obtain ⟨rfl, rfl⟩ := one_of e1
    have := (h3 g hg a u e2).1
    rw [hp] at this; cases this
  · rcases List.mem_cons.mp hg with rfl | hg
    · intro a u e
      obtain ⟨rfl, rfl⟩ := one_of e
      exact ⟨upd_same, ho⟩
    · intro a u e
      have s := h3 g hg a u e
      exact ⟨by rw [upd_ne (ne_of_none s.1 hp)]; exact s.1, s.2⟩
/-- what may be written over -/
def Wr : HO → Prop
  | .lst _ | .dK _ | .dT _ | .set _ _ | .ins _ _ _ | .frz _ _ => True
  | _ => False
theorem Pcs.wr (ho : Wr o) (ho' : NoTbl o') (h : Pcs (pt a o :: L) H) : Pcs (pt a o' :: L) (upd H a o') := by
  have ha := h.get
  obtain ⟨ps, h1, h2, h3⟩ := h
  cases h1 with
  | @cons _ f _ m r t =>
    obtain ⟨q1, q2⟩ := List.pairwise_cons.mp h2
    have no : ∀ g : Hp, g ∈ m → ∀ u, g a = some u → False := fun g hg u e => by
      have s := (h3 g (List.mem_cons_of_mem _ hg) a u e).1
      rw [ha] at s; cases s
      obtain ⟨xs, e3⟩ := q1 g hg a o r e
      subst e3
      exact ho
    refine ⟨one a o' :: m, .cons one_same t, List.pairwise_cons.mpr ⟨fun g hg b u e1 e2 => ?_, q2⟩, fun g hg => ?_⟩
    · obtain ⟨rfl, rfl⟩ := one_of e1
      exact (no g hg u e2).elim
    · rcases List.mem_cons.mp hg with rfl | hg
      · intro b u e
        obtain ⟨rfl, rfl⟩ := one_of e
        exact ⟨upd_same, ho'⟩
      · intro b u e
        have s := h3 g (List.mem_cons_of_mem _ hg) b u e
        have nb : b ≠ a := fun z => no g hg u (z ▸ e)
        exact ⟨by rw [upd_ne nb]; exact s.1, s.2⟩
theorem Tabs.new {T : List (Addr × Str)} (hp : H p = none) (h : LamX.Tabs T H) : LamX.Tabs T (upd H p o) := h.ext fun b u e => by
  rw [upd_ne (ne_of_none e hp)]; exact e
theorem Tabs.wr {T : List (Addr × Str)} (ha : H a = some o) (ho : Wr o) (h : LamX.Tabs T H) : LamX.Tabs T (upd H a o') := fun p hp => by
  obtain ⟨ps, h1, h2, h3⟩ := h p hp
  refine ⟨ps, ?_, h2, fun pos cv hc => ?_⟩
  · rw [upd_ne (ne_of h1 ha (fun z => by subst z; exact ho))]; exact h1
  · obtain ⟨c, e1, e2⟩ := h3 pos cv hc
    refine ⟨c, e1, ?_⟩
    rw [upd_ne (ne_of e2 ha (fun z => by subst z; exact ho))]; exact e2
theorem Hs.new (hp : H p = none) (ho : NoTbl o) (h : Hs T L H) : Hs T (pt p o :: L) (upd H p o) := ⟨Tabs.new hp h.tabs, h.pcs.new hp ho⟩
theorem Hs.wr (ho : Wr o) (ho' : NoTbl o') (h : Hs T (pt a o :: L) H) : Hs T (pt a o' :: L) (upd H a o') := ⟨Tabs.wr h.pcs.get ho h.tabs, h.pcs.wr ho ho'⟩
theorem Hs.perm (p : L.Perm L') (h : Hs T L H) : Hs T L' H := ⟨h.tabs, h.pcs.perm p⟩
theorem Hs.get (h : Hs T (pt a o :: L) H) : H a = some o := h.pcs.get
theorem Hs.tail (h : Hs T (A :: L) H) : Hs T L H := ⟨h.tabs, h.pcs.tail⟩
theorem Hs.imp (f : ∀ h, A h → B h) (h : Hs T (A :: L) H) : Hs T (B :: L) H := ⟨h.tabs, h.pcs.imp f⟩
/-- a lambda was made: all but the tables stand -/
theorem Hs.extN (e : LamX.ExtN H H') (t : LamX.Tabs T H') (h : Hs T L H) : Hs T L H' := ⟨t, h.pcs.move fun g s a o q => ⟨e a o (s a o q).1 (s a o q).2, (s a o q).2⟩⟩
end
/-! ### to find, to put in place, to take out -/
inductive Sel : List SA → SA → List SA → Prop
  | here {A L} : Sel (A :: L) A L
  | there {A B L R} : Sel L A R → Sel (B :: L) A (B :: R)
inductive Rpl : List SA → SA → SA → List SA → Prop
  | here {A B L} : Rpl (A :: L) A B (B :: L)
  | there {A B C L L'} : Rpl L A B L' → Rpl (C :: L) A B (C :: L')
inductive Tk : List SA → List SA → List SA → Prop
  | nil {L} : Tk L [] L
  | cons {A L L1 W R} : Sel L A L1 → Tk L1 W R → Tk L (A :: W) R
theorem Sel.perm {L R : List SA} {A : SA} (h : Sel L A R) : L.Perm (A :: R) := by
  induction h with
  | here => exact List.Perm.refl _
  | there _ ih => exact (ih.cons _).trans (List.Perm.swap _ _ _)
theorem Rpl.perm {L L' : List SA} {A B : SA} (h : Rpl L A B L') : ∃ R, L.Perm (A :: R) ∧ L'.Perm (B :: R) := by
  induction h with
  | here => exact ⟨_, List.Perm.refl _, List.Perm.refl _⟩
  | there _ ih =>
    obtain ⟨R, p, q⟩ := ih
    exact ⟨_ :: R, (p.cons _).trans (List.Perm.swap _ _ _), (q.cons _).trans (List.Perm.swap _ _ _)⟩
theorem Tk.perm {L W R : List SA} (h : Tk L W R) : L.Perm (W ++ R) := by
  induction h with
  | nil => exact List.Perm.refl _
  | cons s _ ih => exact s.perm.trans (ih.cons _)
theorem Hs.take {T : List (Addr × Str)} {L W R : List SA} {H : Hp} (t : Tk L W R) (h : Hs T L H) : Hs T (W ++ R) H := h.perm t.perm
theorem Pcs.drop {H : Hp} : ∀ {W R : List SA}, Pcs (W ++ R) H → Pcs W H
  | W, [], h => by rw [List.append_nil] at h; exact h
  | W, A :: R, h => Pcs.drop (R := R) (Pcs.tail (h.perm List.perm_middle))
theorem Hs.only {T : List (Addr × Str)} {L W R : List SA} {H : Hp} (t : Tk L W R) (h : Hs T L H) : Hs T W H := ⟨h.tabs, Pcs.drop (h.pcs.perm t.perm)⟩
theorem Hs.sel {T : List (Addr × Str)} {L R : List SA} {A : SA} {H : Hp} (t : Sel L A R) (h : Hs T L H) : Hs T (A :: R) H := h.perm t.perm
theorem Hs.at {T : List (Addr × Str)} {L R : List SA} {a : Addr} {o : HO} {H : Hp} (t : Sel L (pt a o) R) (h : Hs T L H) : H a = some o := (h.sel t).get
theorem Hs.rpl {T : List (Addr × Str)} {L L' : List SA} {a : Addr} {o o' : HO} {H : Hp} (r : Rpl L (pt a o) (pt a o') L') (ho : Wr o) (ho' : NoTbl o') (h : Hs T L H) : Hs T L' (upd H a o') := by
  obtain ⟨R, p, q⟩ := r.perm
  exact ((h.perm p).wr ho ho').perm q.symm
theorem Rpl.sel {L L' : List SA} {A B : SA} (h : Rpl L A B L') : ∃ R, Sel L A R := by
  induction h with
  | here => exact ⟨_, .here⟩
  | there _ ih => obtain ⟨R, s⟩ := ih; exact ⟨_, .there s⟩
/-! ### the judgements over rows -/
abbrev GK := V → List SA → Prop
def WE (T : List (Addr × Str)) (te : TE) (σ : St) (L : List SA) (K : GK) : Prop := ∀ H, Hs T L H → ∀ Q : VK, (∀ v L' H', K v L' → Hs T L' H' → Q v H') → te σ H Q
def WT (T : List (Addr × Str)) (t : TT) (σ : St) (L : List SA) (K : Bool → List SA → Prop) : Prop := ∀ H, Hs T L H → ∀ Q : Bool → Hp → Prop, (∀ v L' H', K v L' → Hs T L' H' → Q v H') → t σ H Q
def WA (T : List (Addr × Str)) (ta : TA) (σ : St) (L : List SA) (K : List V → List SA → Prop) : Prop := ∀ H, Hs T L H → ∀ Q : List V → Hp → Prop, (∀ v L' H', K v L' → Hs T L' H' → Q v H') → ta σ H Q
def WR2 (T : List (Addr × Str)) (r : R2) (x y : V) (L : List SA) (K : GK) : Prop := ∀ H, Hs T L H → ∀ Q : VK, (∀ v L' H', K v L' → Hs T L' H' → Q v H') → r x y H Q
def WR1 (T : List (Addr × Str)) (r : V → Hp → VK → Prop) (x : V) (L : List SA) (K : GK) : Prop := ∀ H, Hs T L H → ∀ Q : VK, (∀ v L' H', K v L' → Hs T L' H' → Q v H') → r x H Q
def WRL (T : List (Addr × Str)) (r : List V → Hp → VK → Prop) (xs : List V) (L : List SA) (K : GK) : Prop := ∀ H, Hs T L H → ∀ Q : VK, (∀ v L' H', K v L' → Hs T L' H' → Q v H') → r xs H Q
def WRT (T : List (Addr × Str)) (r : V → Hp → (Bool → Hp → Prop) → Prop) (x : V) (L : List SA) (K : Bool → List SA → Prop) : Prop := ∀ H, Hs T L H → ∀ Q : Bool → Hp → Prop, (∀ v L' H', K v L' → Hs T L' H' → Q v H') → r x H Q
structure EndsL where
  nx : St → List SA → Prop
  rt : GK
  bk : St → List SA → Prop := fun _ _ => False
  ct : St → List SA → Prop := fun _ _ => False
structure EndsL.Le (T : List (Addr × Str)) (D : EndsL) (D0 : Ends) : Prop where
  nx : ∀ σ' L' H', D.nx σ' L' → Hs T L' H' → D0.nx σ' H'
  rt : ∀ v L' H', D.rt v L' → Hs T L' H' → D0.rt v H'
  bk : ∀ σ' L' H', D.bk σ' L' → Hs T L' H' → D0.bk σ' H'
  ct : ∀ σ' L' H', D.ct σ' L' → Hs T L' H' → D0.ct σ' H'
def WS (T : List (Addr × Str)) (t : TS) (D : EndsL) (σ : St) (L : List SA) : Prop := ∀ H, Hs T L H → ∀ D0 : Ends, D.Le T D0 → t D0 σ H
def WG (T : List (Addr × Str)) (t : TG) (v : V) (σ : St) (L : List SA) (K : St → List SA → Prop) : Prop := ∀ H, Hs T L H → ∀ Q : St → Hp → Prop, (∀ σ' L' H', K σ' L' → Hs T L' H' → Q σ' H') → t v σ H Q
def WGs (T : List (Addr × Str)) (t : TGs) (vs : List V) (σ : St) (L : List SA) (K : St → List SA → Prop) : Prop := ∀ H, Hs T L H → ∀ Q : St → Hp → Prop, (∀ σ' L' H', K σ' L' → Hs T L' H' → Q σ' H') → t vs σ H Q
/-! ### the weakest readings -/
def eW (X : Cx) (e : Expr) : TE := fun σ H Q => ∀ pins s, Inv X pins σ H s → wpAny (model X.prog X.w) X.A (eval e X.env) (EP X pins σ Q) X.xe s
def tW (X : Cx) (e : Expr) : TT := fun σ H Q => ∀ pins s, Inv X pins σ H s → wpAny (model X.prog X.w) X.A (isTrue e X.env (eval e X.env)) (TP X pins σ Q) X.xe s
def bW (X : Cx) (e : Expr) : TT := fun σ H Q => ∀ whole pins s, Inv X pins σ H s → wpAny (model X.prog X.w) X.A (isTrue e X.env whole) (TP X pins σ Q) X.xe s
def aW (X : Cx) (es : List Expr) : TA := fun σ H Q => ∀ pos pins s, Inv X pins σ H s → wpAny (model X.prog X.w) X.A (spliced (backTo pos (starEach es X.env))) (AP X pins σ Q) X.xe s
def sW (X : Cx) (st : Stmt) : TS := fun D σ H => ∀ pins s, Inv X pins σ H s → wpAny (model X.prog X.w) X.A (exec st X.env) (SP X pins D) X.xe s
def ssW (X : Cx) (st : List Stmt) : TS := fun D σ H => ∀ pins s, Inv X pins σ H s → wpAny (model X.prog X.w) X.A (execs st X.env) (SP X pins D) X.xe s
def gW (X : Cx) (tg : Expr) : TG := fun v σ H Q => ∀ pins s u, Inv X pins σ H s → RelV v u → wpAny (model X.prog X.w) X.A (assign tg X.env u) (fun _ s' => ∃ σ' H', Inv X pins σ' H' s' ∧ Q σ' H') X.xe s
def gsW (X : Cx) (ts : List Expr) : TGs := fun vs σ H Q => ∀ pins s us, Inv X pins σ H s → Vals vs us → wpAny (model X.prog X.w) X.A (assignInOrder ((assignEach ts X.env).map (·.2)) us) (fun _ s' => ∃ σ' H', Inv X pins σ' H' s' ∧ Q σ' H') X.xe s
def rW (X : Cx) (f : Value → Value → Sem Value) : R2 := fun x y H Q => ∀ pins s σ v u, Inv X pins σ H s → RelV x v → RelV y u → wpAny (model X.prog X.w) X.A (f v u) (EP X pins σ Q) X.xe s
def uW (X : Cx) (f : Value → Sem Value) : V → Hp → VK → Prop := fun x H Q => ∀ pins s σ v, Inv X pins σ H s → RelV x v → wpAny (model X.prog X.w) X.A (f v) (EP X pins σ Q) X.xe s
def cW (X : Cx) (f : Value) : List V → Hp → VK → Prop := fun xs H Q => ∀ pins s σ us, Inv X pins σ H s → Vals xs us → wpAny (model X.prog X.w) X.A (call f us) (EP X pins σ Q) X.xe s
def trW (X : Cx) : V → Hp → (Bool → Hp → Prop) → Prop := fun x H Q => ∀ pins s σ v, Inv X pins σ H s → RelV x v → wpAny (model X.prog X.w) X.A (truthy v) (TP X pins σ Q) X.xe s
section
variable {X : Cx} {e : Expr} {st : Stmt}
theorem peW : PE X e (eW X e) := ⟨fun pins s σ H Q I h => h pins s I⟩
theorem ptW : PT X e (tW X e) := ⟨fun pins s σ H Q I h => h pins s I⟩
theorem pwW : PW X e (bW X e) := ⟨fun wh pins s σ H Q I h => h wh pins s I⟩
theorem paW {es : List Expr} : PA X es (aW X es) := ⟨fun pos pins s σ H Q I h => h pos pins s I⟩
theorem psW : PS X st (sW X st) := ⟨fun pins s σ H D I h => h pins s I⟩
theorem pssW {sts : List Stmt} : PSs X sts (ssW X sts) := ⟨fun pins s σ H D I h => h pins s I⟩
theorem pgW : PG X e (gW X e) := ⟨fun pins s σ H v u Q I r h => h pins s u I r⟩
theorem pgsW {ts : List Expr} : PGs X ts (gsW X ts) := ⟨fun pins s σ H vs us Q I r h => h pins s us I r⟩
theorem opW {f : Value → Value → Sem Value} : OpR X f (rW X f) := fun pins s σ H x y v u Q I rx ry h => h pins s σ v u I rx ry
theorem unW {f : Value → Sem Value} : UnR X f (uW X f) := fun pins s σ H x v Q I rx h => h pins s σ v I rx
theorem caW {f : Value} : CallR X f (cW X f) := fun pins s σ H xs us Q I r h => h pins s σ us I r
end
def GE (T : List (Addr × Str)) (X : Cx) (e : Expr) (σ : St) (L : List SA) (K : GK) : Prop := WE T (eW X e) σ L K
def GT (T : List (Addr × Str)) (X : Cx) (e : Expr) (σ : St) (L : List SA) (K : Bool → List SA → Prop) : Prop := WT T (tW X e) σ L K
def GB (T : List (Addr × Str)) (X : Cx) (e : Expr) (σ : St) (L : List SA) (K : Bool → List SA → Prop) : Prop := WT T (bW X e) σ L K
def GA (T : List (Addr × Str)) (X : Cx) (es : List Expr) (σ : St) (L : List SA) (K : List V → List SA → Prop) : Prop := WA T (aW X es) σ L K
def GS (T : List (Addr × Str)) (X : Cx) (st : Stmt) (D : EndsL) (σ : St) (L : List SA) : Prop := WS T (sW X st) D σ L
def GSs (T : List (Addr × Str)) (X : Cx) (st : List Stmt) (D : EndsL) (σ : St) (L : List SA) : Prop := WS T (ssW X st) D σ L
def GG (T : List (Addr × Str)) (X : Cx) (tg : Expr) (v : V) (σ : St) (L : List SA) (K : St → List SA → Prop) : Prop := WG T (gW X tg) v σ L K
def GGs (T : List (Addr × Str)) (X : Cx) (ts : List Expr) (vs : List V) (σ : St) (L : List SA) (K : St → List SA → Prop) : Prop := WGs T (gsW X ts) vs σ L K
def GOp (T : List (Addr × Str)) (X : Cx) (f : Value → Value → Sem Value) (x y : V) (L : List SA) (K : GK) : Prop := WR2 T (rW X f) x y L K
def GU (T : List (Addr × Str)) (X : Cx) (f : Value → Sem Value) (x : V) (L : List SA) (K : GK) : Prop := WR1 T (uW X f) x L K
def GC (T : List (Addr × Str)) (X : Cx) (f : Value) (xs : List V) (L : List SA) (K : GK) : Prop := WRL T (cW X f) xs L K
def GTr (T : List (Addr × Str)) (X : Cx) (x : V) (L : List SA) (K : Bool → List SA → Prop) : Prop := WRT T (trW X) x L K
section
variable {T : List (Addr × Str)} {X : Cx} {e : Expr} {σ : St} {L : List SA} {K : GK}
theorem GE.of {t : TE} (h : PE X e t) (w : WE T t σ L K) : GE T X e σ L K := fun H hs Q q pins s I => h.run pins s σ H Q I (w H hs Q q)
theorem GT.of {t : TT} {K : Bool → List SA → Prop} (h : PT X e t) (w : WT T t σ L K) : GT T X e σ L K := fun H hs Q q pins s I => h.run pins s σ H Q I (w H hs Q q)
theorem GB.of {t : TT} {K : Bool → List SA → Prop} (h : PW X e t) (w : WT T t σ L K) : GB T X e σ L K := fun H hs Q q wh pins s I => h.run wh pins s σ H Q I (w H hs Q q)
theorem GA.of {es : List Expr} {t : TA} {K : List V → List SA → Prop} (h : PA X es t) (w : WA T t σ L K) : GA T X es σ L K := fun H hs Q q pos pins s I => h.run pos pins s σ H Q I (w H hs Q q)
theorem GS.of {st : Stmt} {t : TS} {D : EndsL} (h : PS X st t) (w : WS T t D σ L) : GS T X st D σ L := fun H hs D0 q pins s I => h.run pins s σ H D0 I (w H hs D0 q)
theorem GSs.of {st : List Stmt} {t : TS} {D : EndsL} (h : PSs X st t) (w : WS T t D σ L) : GSs T X st D σ L := fun H hs D0 q pins s I => h.run pins s σ H D0 I (w H hs D0 q)
theorem GG.of {tg : Expr} {t : TG} {v : V} {K : St → List SA → Prop} (h : PG X tg t) (w : WG T t v σ L K) : GG T X tg v σ L K := fun H hs Q q pins s u I r => h.run pins s σ H v u Q I r (w H hs Q q)
theorem GGs.of {ts : List Expr} {t : TGs} {vs : List V} {K : St → List SA → Prop} (h : PGs X ts t) (w : WGs T t vs σ L K) : GGs T X ts vs σ L K := fun H hs Q q pins s us I r => h.run pins s σ H vs us Q I r (w H hs Q q)
theorem GOp.of {f : Value → Value → Sem Value} {r : R2} {x y : V} (h : OpR X f r) (w : WR2 T r x y L K) : GOp T X f x y L K := fun H hs Q q pins s σ v u I rx ry => h pins s σ H x y v u Q I rx ry (w H hs Q q)
theorem GU.of {f : Value → Sem Value} {r : V → Hp → VK → Prop} {x : V} (h : UnR X f r) (w : WR1 T r x L K) : GU T X f x L K := fun H hs Q q pins s σ v I rx => h pins s σ H x v Q I rx (w H hs Q q)
theorem GC.of {f : Value} {r : List V → Hp → VK → Prop} {xs : List V} (h : CallR X f r) (w : WRL T r xs L K) : GC T X f xs L K := fun H hs Q q pins s σ us I r => h pins s σ H xs us Q I r (w H hs Q q)
theorem GTr.of {r : V → Hp → (Bool → Hp → Prop) → Prop} {x : V} {K : Bool → List SA → Prop} (h : TruR X r) (w : WRT T r x L K) : GTr T X x L K := fun H hs Q q pins s σ v I rx => h pins s σ H x v Q I rx (w H hs Q q)
theorem EndsL.Le.with {D : EndsL} {D0 : Ends} (l : D.Le T D0) {n : St → List SA → Prop} {n0 : St → Hp → Prop} (h : ∀ σ' L' H', n σ' L' → Hs T L' H' → n0 σ' H') : EndsL.Le T { D with nx := n } { D0 with nx := n0 } := ⟨h, l.rt, l.bk, l.ct⟩
/-- weaker ends -/
theorem GE.mono {K' : GK} (h : GE T X e σ L K) (q : ∀ v L', K v L' → K' v L') : GE T X e σ L K' := fun H hs Q k => h H hs Q fun v L' H' x => k v L' H' (q v L' x)
theorem GE.weak {L' W R : List SA} (t : Tk L W R) (h : GE T X e σ W K) : GE T X e σ L K := fun H hs Q k => h H (hs.only t) Q k
theorem GSs.weak {st : List Stmt} {D : EndsL} {W R : List SA} (t : Tk L W R) (h : GSs T X st D σ W) : GSs T X st D σ L := fun H hs Q k => h H (hs.only t) Q k
theorem GSs.perm {st : List Stmt} {D : EndsL} {W : List SA} (t : L.Perm W) (h : GSs T X st D σ W) : GSs T X st D σ L := fun H hs Q k => h H (hs.perm t) Q k
end
end SW
set_option Elab.async false
set_option linter.all false
set_option maxRecDepth 100000
set_option maxHeartbeats 2000000
/-! Sw2: the rules over rows: expressions, statements, calls. -/
namespace SW
open PySem PySem.Spec L2
open PyProof.Rows hiding St
section
variable {T : List (Addr × Str)} {X : Cx} {σ : St} {L : List SA} {K : GK} {e a b c : Expr} {es rest : List Expr} {x f : Str} {p pos p2 : Pos} {v : V} {i j : Nat}
/-! ### names, constants -/
theorem ge_var (hN : X.N[i]? = some x) (hv : Vis X.env.scope x) (hs : σ[i]? = some (some v)) (k : K v L) (hd : (x == ("__debug__" : Str)) = false) (hcd : (x == ("__classdict__" : Str)) = false) : GE T X (.Name x pos) σ L K :=
  GE.of (pe_var hN hv hd hcd) fun H hs' Q q => ⟨v, hs, q v L H k hs'⟩
theorem ge_int {i : Int} {j : Nat} (k : K (.int i) L) : GE T X (.Constant (.int i) j pos) σ L K := GE.of pe_int fun H h Q q => q _ L H k h
theorem ge_bl {b : Bool} {j : Nat} (k : K (.bl b) L) : GE T X (.Constant (.bool b) j pos) σ L K := GE.of pe_bl fun H h Q q => q _ L H k h
theorem ge_none {j : Nat} (k : K .non L) : GE T X (.Constant .none j pos) σ L K := GE.of pe_non fun H h Q q => q _ L H k h
theorem ge_str {x : Str} {j : Nat} (k : K (.str x) L) : GE T X (.Constant (.str x) j pos) σ L K := GE.of pe_str fun H h Q q => q _ L H k h
theorem ge_glob {u : Value} (hg : Gl X x) (hm : X.mg x = some u) (r : RelV v u) (k : K v L) (hd : (x == ("__debug__" : Str)) = false) : GE T X (.Name x pos) σ L K := GE.of (pe_glob hg hm r hd) fun H h Q q => q _ L H k h
/-! ### operators -/
theorem ge_bin {op : Operator} (h : GE T X a σ L fun x L1 => GE T X b σ L1 fun y L2 => GOp T X (binaryOp op) x y L2 K) : GE T X (.BinOp a op b pos) σ L K :=
  GE.of (pe_op opW peW peW) fun H hs Q q => h H hs _ fun x L1 H1 k1 h1 => k1 H1 h1 _ fun y L2 H2 k2 h2 => k2 H2 h2 Q q
theorem ge_un {op : UnaryOp} (h : GE T X a σ L fun x L1 => GU T X (unaryOp op) x L1 K) : GE T X (.UnaryOp op a pos) σ L K :=
  GE.of (pe_un unW peW) fun H hs Q q => h H hs _ fun x L1 H1 k1 h1 => k1 H1 h1 Q q
theorem ge_cmp {op : CmpOp} (hm : behindInMarks op b = false) (h : GE T X a σ L fun x L1 => GE T X b σ L1 fun y L2 => GOp T X (compareOp op) x y L2 K) : GE T X (.Compare a [op] [b] pos) σ L K :=
  GE.of (pe_cmpR opW peW peW hm) fun H hs Q q => h H hs _ fun x L1 H1 k1 h1 => k1 H1 h1 _ fun y L2 H2 k2 h2 => k2 H2 h2 Q q
def KB (K : Bool → List SA → Prop) : GK := fun z L => ∃ b, z = .bl b ∧ K b L
theorem KB.mk {K : Bool → List SA → Prop} {b : Bool} {L : List SA} (k : K b L) : KB K (.bl b) L := ⟨b, rfl, k⟩
theorem gt_cmp {op : CmpOp} {K : Bool → List SA → Prop} (hm : behindInMarks op b = false) (h : GE T X a σ L fun x L1 => GE T X b σ L1 fun y L2 => GOp T X (compareOp op) x y L2 (KB K)) : GT T X (.Compare a [op] [b] pos) σ L K :=
  GT.of (pt_cmpR opW peW peW hm) fun H hs Q q => h H hs _ fun x L1 H1 k1 h1 => k1 H1 h1 _ fun y L2 H2 k2 h2 => k2 H2 h2 _ fun z L3 H3 ⟨b, e, k3⟩ h3 => ⟨b, e, q b L3 H3 k3 h3⟩
/-- a expression that gives a bool, as a test -/
theorem gt_val {K : Bool → List SA → Prop} (he : ∀ whole, isTrue e X.env whole = (do let v ← whole; standAt e.pos; holding [v] (truthy v))) (h : GE T X e σ L (KB K)) : GT T X e σ L K :=
  GT.of (pt_val peW he) fun H hs Q q => h H hs _ fun z L3 H3 ⟨b, e, k3⟩ h3 => ⟨b, e, q b L3 H3 k3 h3⟩
theorem gt_bool {K : Bool → List SA → Prop} (h : GB T X e σ L K) : GT T X e σ L K := fun H hs Q q pins s I => h H hs Q q _ pins s I
theorem gb_and1 {K : Bool → List SA → Prop} (h : GT T X a σ L K) : GB T X (.BoolOp .And [a] pos) σ L K := GB.of (pw_and1 ptW) h
theorem gb_or1 {K : Bool → List SA → Prop} (h : GT T X a σ L K) : GB T X (.BoolOp .Or [a] pos) σ L K := GB.of (pw_or1 ptW) h
theorem gb_and {K : Bool → List SA → Prop} (h : GT T X a σ L fun c L1 => if c = true then GB T X (.BoolOp .And (b :: rest) pos) σ L1 K else K false L1) : GB T X (.BoolOp .And (a :: b :: rest) pos) σ L K :=
  GB.of (pw_and ptW pwW) fun H hs Q q => h H hs _ fun c L1 H1 k1 h1 => by
    cases c with
    | true => rw [if_pos rfl] at k1 ⊢; exact k1 H1 h1 Q q
    | false => rw [if_neg Bool.false_ne_true] at k1 ⊢; exact q _ L1 H1 k1 h1
theorem gb_or {K : Bool → List SA → Prop} (h : GT T X a σ L fun c L1 => if c = true then K true L1 else GB T X (.BoolOp .Or (b :: rest) pos) σ L1 K) : GB T X (.BoolOp .Or (a :: b :: rest) pos) σ L K :=
  GB.of (pw_or ptW pwW) fun H hs Q q => h H hs _ fun c L1 H1 k1 h1 => by
    cases c with
    | false => rw [if_neg Bool.false_ne_true] at k1 ⊢; exact k1 H1 h1 Q q
    | true => rw [if_pos rfl] at k1 ⊢; exact q _ L1 H1 k1 h1
theorem gt_not {K : Bool → List SA → Prop} (h : GT T X a σ L fun c L1 => K (!c) L1) : GT T X (.UnaryOp .Not a pos) σ L K :=
  GT.of (pt_not ptW) fun H hs Q q => h H hs _ fun c L1 H1 k1 h1 => q _ L1 H1 k1 h1
theorem ge_one {op : BoolOp} (h : GE T X a σ L K) : GE T X (.BoolOp op [a] pos) σ L K := GE.of (pe_one peW) h
theorem ge_and (h : GE T X a σ L fun x L1 => ∃ c, x = .bl c ∧ if c = true then GE T X (.BoolOp .And (b :: rest) pos) σ L1 K else K (.bl false) L1) : GE T X (.BoolOp .And (a :: b :: rest) pos) σ L K :=
  GE.of (pe_and peW peW) fun H hs Q q => h H hs _ fun x L1 H1 ⟨c, e, k1⟩ h1 => ⟨c, e, by
    cases c with
    | true => rw [if_pos rfl] at k1 ⊢; exact k1 H1 h1 Q q
    | false => rw [if_neg Bool.false_ne_true] at k1 ⊢; exact q _ L1 H1 k1 h1⟩
theorem ge_or (h : GE T X a σ L fun x L1 => ∃ c, x = .bl c ∧ if c = true then K (.bl true) L1 else GE T X (.BoolOp .Or (b :: rest) pos) σ L1 K) : GE T X (.BoolOp .Or (a :: b :: rest) pos) σ L K :=
  GE.of (pe_or peW peW) fun H hs Q q => h H hs _ fun x L1 H1 ⟨c, e, k1⟩ h1 => ⟨c, e, by
    cases c with
    | false => rw [if_neg Bool.false_ne_true] at k1 ⊢; exact k1 H1 h1 Q q
    | true => rw [if_pos rfl] at k1 ⊢; exact q _ L1 H1 k1 h1⟩
theorem ge_not (h : GE T X a σ L fun x L1 => ∃ c, x = .bl c ∧ K (.bl (!c)) L1) : GE T X (.UnaryOp .Not a pos) σ L K :=
  GE.of (pe_not peW) fun H hs Q q => h H hs _ fun x L1 H1 ⟨c, e, k1⟩ h1 => ⟨c, e, q _ L1 H1 k1 h1⟩
theorem ge_if (h : GT T X c σ L fun d L1 => if d = true then GE T X a σ L1 K else GE T X b σ L1 K) : GE T X (.IfExp c a b pos) σ L K :=
  GE.of (pe_ifExp ptW peW peW) fun H hs Q q => h H hs _ fun d L1 H1 k1 h1 => by
    cases d with
    | true => rw [if_pos rfl] at k1 ⊢; exact k1 H1 h1 Q q
    | false => rw [if_neg Bool.false_ne_true] at k1 ⊢; exact k1 H1 h1 Q q
theorem ge_chain {op op' : CmpOp} (hm : lastMarks [op, op'] [b, c] = false) (h : GE T X a σ L fun x L1 => GE T X b σ L1 fun y L2 => GOp T X (compareOp op) x y L2 fun z L3 => ∃ k, z = .bl k ∧
    if k = true then GE T X c σ L3 fun w L4 => GOp T X (compareOp op') y w L4 K else K (.bl false) L3) : GE T X (.Compare a [op, op'] [b, c] pos) σ L K :=
  GE.of (pe_chain opW opW peW peW peW hm) fun H hs Q q => h H hs _ fun x L1 H1 k1 h1 => k1 H1 h1 _ fun y L2 H2 k2 h2 => k2 H2 h2 _ fun z L3 H3 ⟨k, e, k3⟩ h3 => ⟨k, e, by
    cases k with
    | true => rw [if_pos rfl] at k3 ⊢; exact k3 H3 h3 _ fun w L4 H4 k4 h4 => k4 H4 h4 Q q
    | false => rw [if_neg Bool.false_ne_true] at k3 ⊢; exact q _ L3 H3 k3 h3⟩
theorem gt_chain {op op' : CmpOp} {K : Bool → List SA → Prop} (hm : lastMarks [op, op'] [b, c] = false) (h : GE T X a σ L fun x L1 => GE T X b σ L1 fun y L2 => GOp T X (compareOp op) x y L2 fun z L3 => ∃ k, z = .bl k ∧
    if k = true then GE T X c σ L3 fun w L4 => GOp T X (compareOp op') y w L4 (KB K) else K false L3) : GT T X (.Compare a [op, op'] [b, c] pos) σ L K :=
  GT.of (pt_chain opW opW peW peW peW hm) fun H hs Q q => h H hs _ fun x L1 H1 k1 h1 => k1 H1 h1 _ fun y L2 H2 k2 h2 => k2 H2 h2 _ fun z L3 H3 ⟨k, e, k3⟩ h3 => ⟨k, e, by
    cases k with
    | true =>
      rw [if_pos rfl] at k3 ⊢
      exact k3 H3 h3 _ fun w L4 H4 k4 h4 => k4 H4 h4 _ fun z L5 H5 ⟨b, e, k5⟩ h5 => ⟨b, e, q b L5 H5 k5 h5⟩
    | false =>
      rw [if_neg Bool.false_ne_true] at k3 ⊢
      exact ⟨false, rfl, q _ L3 H3 k3 h3⟩⟩
/-! ### leaves: ints, truth values, texts -/
theorem wr_I0 {g : Int → Int → V} {i j : Int} (k : K (g i j) L) : WR2 T (rI0 g) (.int i) (.int j) L K := fun H hs Q q => ⟨i, j, rfl, rfl, q _ L H k hs⟩
theorem wr_I {C : Int → Int → Prop} {g : Int → Int → V} {i j : Int} (c : C i j) (k : K (g i j) L) : WR2 T (rI C g) (.int i) (.int j) L K := fun H hs Q q => ⟨i, j, rfl, rfl, c, q _ L H k hs⟩
theorem go_add {i j : Int} (k : K (.int (i + j)) L) : GOp T X (binaryOp .Add) (.int i) (.int j) L K := GOp.of op_add (wr_I0 k)
theorem go_sub {i j : Int} (k : K (.int (i - j)) L) : GOp T X (binaryOp .Sub) (.int i) (.int j) L K := GOp.of op_sub (wr_I0 k)
theorem go_mul {i j : Int} (c : (-(2 ^ 64) < i ∧ i < 2 ^ 64) ∨ (-(2 ^ 64) < j ∧ j < 2 ^ 64)) (k : K (.int (i * j)) L) : GOp T X (binaryOp .Mult) (.int i) (.int j) L K := GOp.of op_mul (wr_I c k)
theorem go_div {i j : Int} (c : 0 < j ∧ j < 1073741824) (k : K (.int (i / j)) L) : GOp T X (binaryOp .FloorDiv) (.int i) (.int j) L K := GOp.of op_fdiv (wr_I c k)
theorem go_mod {i j : Int} (c : 0 < j) (k : K (.int (i % j)) L) : GOp T X (binaryOp .Mod) (.int i) (.int j) L K := GOp.of op_mod (wr_I c k)
theorem go_pow {i j : Int} (c : 0 ≤ j ∧ j ≤ 1000000 ∧ i.natAbs < 2 ^ 64) (k : K (.int (i ^ j.toNat)) L) : GOp T X (binaryOp .Pow) (.int i) (.int j) L K := GOp.of op_pow (wr_I c k)
theorem go_lt {i j : Int} (k : K (.bl (decide (i < j))) L) : GOp T X (compareOp .Lt) (.int i) (.int j) L K := GOp.of op_lt (wr_I0 k)
theorem go_le {i j : Int} (k : K (.bl (decide (i ≤ j))) L) : GOp T X (compareOp .LtE) (.int i) (.int j) L K := GOp.of op_le (wr_I0 k)
theorem go_gt {i j : Int} (k : K (.bl (decide (j < i))) L) : GOp T X (compareOp .Gt) (.int i) (.int j) L K := GOp.of op_gt (wr_I0 k)
theorem go_ge {i j : Int} (k : K (.bl (decide (j ≤ i))) L) : GOp T X (compareOp .GtE) (.int i) (.int j) L K := GOp.of op_ge (wr_I0 k)
theorem go_eqS {x y : V} (hx : scal x y = true) (k : K (.bl (decide (x = y))) L) : GOp T X (compareOp .Eq) x y L K := GOp.of op_eq fun H hs Q q => ⟨hx, q _ L H k hs⟩
theorem go_neS {x y : V} (hx : scal x y = true) (k : K (.bl (!decide (x = y))) L) : GOp T X (compareOp .NotEq) x y L K := GOp.of op_ne fun H hs Q q => ⟨hx, q _ L H k hs⟩
theorem dec_int (i j : Int) : decide (V.int i = V.int j) = decide (i = j) := by
  by_cases h : i = j
  · subst h; simp
  · rw [decide_eq_false h, decide_eq_false fun z => h (V.int.inj z)]
theorem dec_str (i j : Str) : decide (V.str i = V.str j) = decide (i = j) := by
  by_cases h : i = j
  · subst h; simp
  · rw [decide_eq_false h, decide_eq_false fun z => h (V.str.inj z)]
theorem dec_bl (i j : Bool) : decide (V.bl i = V.bl j) = decide (i = j) := by
  cases i <;> cases j <;> decide
theorem go_eqI {i j : Int} (k : K (.bl (decide (i = j))) L) : GOp T X (compareOp .Eq) (.int i) (.int j) L K := go_eqS rfl (by rw [dec_int]; exact k)
theorem go_neI {i j : Int} (k : K (.bl (!decide (i = j))) L) : GOp T X (compareOp .NotEq) (.int i) (.int j) L K := go_neS rfl (by rw [dec_int]; exact k)
theorem go_eqT {i j : Str} (k : K (.bl (decide (i = j))) L) : GOp T X (compareOp .Eq) (.str i) (.str j) L K := go_eqS rfl (by rw [dec_str]; exact k)
theorem go_neT {i j : Str} (k : K (.bl (!decide (i = j))) L) : GOp T X (compareOp .NotEq) (.str i) (.str j) L K := go_neS rfl (by rw [dec_str]; exact k)
theorem go_eqB {i j : Bool} (k : K (.bl (decide (i = j))) L) : GOp T X (compareOp .Eq) (.bl i) (.bl j) L K := go_eqS rfl (by rw [dec_bl]; exact k)
theorem go_neB {i j : Bool} (k : K (.bl (!decide (i = j))) L) : GOp T X (compareOp .NotEq) (.bl i) (.bl j) L K := go_neS rfl (by rw [dec_bl]; exact k)
theorem go_isN {x : V} (k : K (.bl (decide (x = .non))) L) : GOp T X (compareOp .Is) x .non L K := GOp.of op_isN fun H hs Q q => ⟨rfl, q _ L H k hs⟩
theorem go_notN {x : V} (k : K (.bl (!decide (x = .non))) L) : GOp T X (compareOp .IsNot) x .non L K := GOp.of op_notN fun H hs Q q => ⟨rfl, q _ L H k hs⟩
theorem gu_neg {i : Int} (k : K (.int (-i)) L) : GU T X (unaryOp .USub) (.int i) L K := GU.of un_neg fun H hs Q q => ⟨i, rfl, q _ L H k hs⟩
theorem go_addS {i j : Str} (hz : i.length + j.length ≤ sizeLine) (k : K (.str (i ++ j)) L) : GOp T X (binaryOp .Add) (.str i) (.str j) L K := GOp.of op_add_str fun H hs Q q => ⟨i, j, rfl, rfl, hz, q _ L H k hs⟩
/-! ### displays, subscripts, attributes -/
theorem ga_nil {K : List V → List SA → Prop} (k : K [] L) : GA T X [] σ L K := GA.of pa_nil fun H h Q q => q _ L H k h
theorem ga_cons {K : List V → List SA → Prop} (hst : starEach (e :: es) X.env = (false, eval e X.env) :: starEach es X.env) (h : GE T X e σ L fun x L1 => GA T X es σ L1 fun xs L2 => K (x :: xs) L2) : GA T X (e :: es) σ L K :=
  GA.of (pa_cons peW paW hst) fun H hs Q q => h H hs _ fun x L1 H1 k1 h1 => k1 H1 h1 _ fun xs L2 H2 k2 h2 => q _ L2 H2 k2 h2
theorem ge_tup {x1} (h : GA T X es σ L fun xs L1 => xs.length ≤ sizeLine ∧ ∀ p, K (.ref p) (pt p (.tup xs) :: L1)) : GE T X (.Tuple es x1 pos) σ L K :=
  GE.of (pe_tup paW) fun H hs Q q => h H hs _ fun xs L1 H1 k1 h1 => ⟨k1.1, fun p hp => q _ _ _ (k1.2 p) (h1.new hp fun _ => nofun)⟩
theorem ge_lst (h : GA T X es σ L fun xs L1 => xs.length ≤ sizeLine ∧ ∀ p, K (.ref p) (pt p (.lst xs) :: L1)) : GE T X (.List es pos) σ L K :=
  GE.of (pe_lst paW) fun H hs Q q => h H hs _ fun xs L1 H1 k1 h1 => ⟨k1.1, fun p hp => q _ _ _ (k1.2 p) (h1.new hp fun _ => nofun)⟩
/-- a[b] by values -/
def ixW (X : Cx) : R2 := fun x y H Q => ∀ (value slice : Expr) (pins : List (Addr × Obj)) (s : Shared) (σ : St) (v u : Value), Inv X pins σ H s → RelV x v → RelV y u → subscripted slice false v u = operate [v, u] (getItem v u) → wpAny (model X.prog X.w) X.A (subscriptTail value slice v u) (EP X pins σ Q) X.xe s
theorem ixWr : IxR X (ixW X) := fun value slice pins s σ H x y v u Q I rx ry h hs => h value slice pins s σ v u I rx ry hs
def GIx (T : List (Addr × Str)) (X : Cx) (x y : V) (L : List SA) (K : GK) : Prop := WR2 T (ixW X) x y L K
theorem GIx.of {r : R2} {x y : V} (h : IxR X r) (w : WR2 T r x y L K) : GIx T X x y L K := fun H hs Q q value slice pins s σ v u I rx ry z => h value slice pins s σ H x y v u Q I rx ry (w H hs Q q) z
theorem ge_sub (hs : PlainIx b) (h : GE T X a σ L fun x L1 => GE T X b σ L1 fun y L2 => GIx T X x y L2 K) : GE T X (.Subscript a b pos) σ L K :=
  GE.of (pe_ix ixWr peW peW hs) fun H hs Q q => h H hs _ fun x L1 H1 k1 h1 => k1 H1 h1 _ fun y L2 H2 k2 h2 => k2 H2 h2 Q q
theorem gi_lst {p : Addr} {xs : List V} {i : Int} {R : List SA} (s : Sel L (pt p (.lst xs)) R) (ha : atI xs i = some v) (k : K v L) : GIx T X (.ref p) (.int i) L K :=
  GIx.of ix_list fun H hs Q q => ⟨p, xs, i, v, rfl, rfl, SqL.of (hs.at s), ha, q _ L H k hs⟩
theorem gi_tup {p : Addr} {xs : List V} {i : Int} {R : List SA} (s : Sel L (pt p (.tup xs)) R) (ha : atI xs i = some v) (k : K v L) : GIx T X (.ref p) (.int i) L K :=
  GIx.of ix_tup fun H hs Q q => ⟨p, xs, i, v, rfl, rfl, SqT.of (hs.at s), ha, q _ L H k hs⟩
theorem gi_str {z : Str} {i : Int} {c : Nat} (hz : z.length ≤ sizeLine) (ha : atI z.cps.toList i = some c) (k : K (.str ⟨#[c]⟩) L) : GIx T X (.str z) (.int i) L K :=
  GIx.of ix_str fun H hs Q q => ⟨z, i, c, rfl, rfl, hz, ha, q _ L H k hs⟩
def GF (T : List (Addr × Str)) (KK : PySem.W.Frag) (x : V) (f : Str) (L : List SA) (K : GK) : Prop := ∃ a C dx fs v R, x = .ref a ∧ Sel L (pt a (.ins C dx fs)) R ∧ Cls KK C ∧ NoAttr KK C f ∧ fs.lookup f = some v ∧ K v L
theorem ge_fld (hb : attributeBase e f X.env (eval e X.env) = eval e X.env) (h : GE T X e σ L fun x L1 => GF T X.K x f L1 K) : GE T X (.Attribute e f pos) σ L K :=
  GE.of (pe_fld peW hb) fun H hs Q q => h H hs _ fun x L1 H1 ⟨a, C, dx, fs, v, R, ex, s, c, n, l, k⟩ h1 => ⟨a, C, dx, fs, v, ex, h1.at s, c, n, l, q _ L1 H1 k h1⟩
/-! ### calls of built-ins by their names -/
theorem ge_callB {id : String} (hg : Gl X x) (hm : X.mg x = none) (hv : bootBuiltins x = some (.builtin id)) (hn : x ≠ "__name__") (hdb : (x == ("__debug__" : Str)) = false) (he : starEach (e :: es) X.env = (false, eval e X.env) :: starEach es X.env) (hpl : (backTo pos (starEach es X.env)).any (·.1) = false)
    (h : GA T X (e :: es) σ L fun vs L1 => GC T X (.builtin id) vs L1 K) : GE T X (.Call (.Name x p) (e :: es) [] pos) σ L K :=
  GE.of (pe_callB caW hg hm hv paW hn hdb he hpl) fun H hs Q q => h H hs _ fun vs L1 H1 k1 h1 => k1 H1 h1 Q q
theorem ge_callTy {id : String} (hg : Gl X x) (hm : X.mg x = none) (hv : bootBuiltins x = some (.type id)) (hn : x ≠ "__name__") (hdb : (x == ("__debug__" : Str)) = false) (he : starEach (e :: es) X.env = (false, eval e X.env) :: starEach es X.env) (hpl : (backTo pos (starEach es X.env)).any (·.1) = false)
    (h : GA T X (e :: es) σ L fun vs L1 => GC T X (.type id) vs L1 K) : GE T X (.Call (.Name x p) (e :: es) [] pos) σ L K :=
  GE.of (pe_callTy caW hg hm hv paW hn hdb he hpl) fun H hs Q q => h H hs _ fun vs L1 H1 k1 h1 => k1 H1 h1 Q q
theorem ge_callTy0 {id : String} (hg : Gl X x) (hm : X.mg x = none) (hv : bootBuiltins x = some (.type id)) (hn : x ≠ "__name__") (hdb : (x == ("__debug__" : Str)) = false)
    (h : GC T X (.type id) [] L K) : GE T X (.Call (.Name x p) [] [] pos) σ L K :=
  GE.of (pe_callTy0 caW hg hm hv hn hdb) fun H hs Q q => h H hs Q q
theorem gc_abs {i : Int} (k : K (.int (if i < 0 then -i else i)) L) : GC T X (.builtin "abs") [.int i] L K := GC.of call_abs fun H hs Q q => ⟨i, rfl, q _ L H k hs⟩
theorem gc_intI {i : Int} (k : K (.int i) L) : GC T X (.type "int") [.int i] L K := GC.of call_int1 fun H hs Q q => .inl ⟨i, rfl, q _ L H k hs⟩
theorem gc_intB {b : Bool} (k : K (.int (if b then 1 else 0)) L) : GC T X (.type "int") [.bl b] L K := GC.of call_int1 fun H hs Q q => .inr ⟨b, rfl, q _ L H k hs⟩
theorem gc_len {p : Addr} {xs : List V} {R : List SA} (s : Sel L (pt p (.lst xs)) R) (k : K (.int xs.length) L) : GC T X (.builtin "len") [.ref p] L K := GC.of call_len_seq fun H hs Q q => ⟨p, xs, rfl, .inl (SqL.of (hs.at s)), q _ L H k hs⟩
theorem gc_lenT {p : Addr} {xs : List V} {R : List SA} (s : Sel L (pt p (.tup xs)) R) (k : K (.int xs.length) L) : GC T X (.builtin "len") [.ref p] L K := GC.of call_len_seq fun H hs Q q => ⟨p, xs, rfl, .inr (SqT.of (hs.at s)), q _ L H k hs⟩
theorem gc_lenS {z : Str} (hz : z.length ≤ sizeLine) (k : K (.int z.length) L) : GC T X (.builtin "len") [.str z] L K := GC.of call_len_str fun H hs Q q => ⟨z, rfl, hz, q _ L H k hs⟩
end
/-! ### own defs -/
abbrev KX := Value → Option Addr → List SA → Prop
abbrev SpL := List V → List SA → GK → KX → Prop
def spOf (T : List (Addr × Str)) (S : SpL) : Sp := fun vs H Q E => ∃ L K kx, Hs T L H ∧ S vs L K kx ∧ (∀ v L' H', K v L' → Hs T L' H' → Q v H') ∧ ∀ cls d L' H', kx cls d L' → Hs T L' H' → E cls d H'
def Xok (T : List (Addr × Str)) (X : Cx) (kx : KX) : Prop := ∃ W : WX, Takes X W ∧ ∀ cls d σ L H, kx cls d L → Hs T L H → W cls d σ H
def kx0 : KX := fun _ _ _ => False
theorem xok0 {T : List (Addr × Str)} {X : Cx} : Xok T X kx0 := ⟨_, takes0, fun _ _ _ _ _ h _ => h.elim⟩
def EX (T : List (Addr × Str)) (kx : KX) : XK := fun cls d H => ∃ L, kx cls d L ∧ Hs T L H
theorem Xok.pass {T : List (Addr × Str)} {X : Cx} {kx : KX} (h : Xok T X kx) : Passes (L2.CX X.prog X.w) X (EX T kx) := by
  obtain ⟨W, tk, hW⟩ := h
  exact passes_call tk fun cls d σ H ⟨L, k, hs⟩ => hW cls d σ L H k hs
theorem Xok.imp {T : List (Addr × Str)} {X : Cx} {kx kx' : KX} (h : Xok T X kx) (f : ∀ c d L, kx' c d L → kx c d L) : Xok T X kx' := by
  obtain ⟨W, tk, hW⟩ := h
  exact ⟨W, tk, fun cls d σ L H k hs => hW cls d σ L H (f _ _ _ k) hs⟩
theorem spOf_of {T : List (Addr × Str)} {S : SpL} {vs : List V} {L : List SA} {K : GK} {kx : KX} {H : Hp} {Q : VK} (h : S vs L K kx) (hs : Hs T L H) (q : ∀ v L' H', K v L' → Hs T L' H' → Q v H') : spOf T S vs H Q (EX T kx) :=
  ⟨L, K, kx, hs, h, q, fun cls d L' H' k h' => ⟨L', k, h'⟩⟩
/-- a def of the module, callable -/
structure FnAt (T : List (Addr × Str)) (P : Program) (w : World) (K : PySem.W.Frag) (mg : Str → Option Value) (base : Heap) (k : Nat) (x : Str) (S : SpL) : Prop where
  ex : ∃ (fd : FuncData) (ps : List Str), FnOk P w K mg base (L2.CX P w) k (He.ga K x) fd ps (spOf T S) ∧ Binds K fd ps []
  mgx : mg x = some (.ref (He.ga K x))
  kp : PySem.W.keepIn K (.ref (He.ga K x)) = true
/-- a method -/
structure MeAt (T : List (Addr × Str)) (P : Program) (w : World) (K : PySem.W.Frag) (mg : Str → Option Value) (base : Heap) (k : Nat) (C m : Str) (S : SpL) : Prop where
  ex : ∃ (fd : FuncData) (ps : List Str), FnOk P w K mg base (L2.CX P w) k (He.ma K (He.ga K C) m) fd ps (spOf T S) ∧ Binds K fd ps []
  cls : Cls K (He.ga K C)
  me : Meth K (He.ga K C) m (He.ma K (He.ga K C) m)
/-- a class that is made by its __init__ -/
structure MkAt (T : List (Addr × Str)) (P : Program) (w : World) (K : PySem.W.Frag) (mg : Str → Option Value) (base : Heap) (k : Nat) (C : Str) (S : SpL) : Prop where
  ex : ∃ (fd : FuncData) (ps : List Str), FnOk P w K mg base (L2.CX P w) k (He.ma K (He.ga K C) "__init__") fd ps (spOf T S) ∧ Binds K fd ps []
  mkr : Mk K (He.ga K C) (He.ma K (He.ga K C) "__init__")
  mgx : mg C = some (.ref (He.ga K C))
section
variable {T : List (Addr × Str)} {X : Cx} {σ : St} {L : List SA} {K : GK} {kx : KX} {S : SpL} {e o : Expr} {es : List Expr} {x m : Str} {p pos apos : Pos} {k : Nat}
theorem ge_call (F : FnAt T X.prog X.w X.K X.mg X.base k x S) (hr : Room k X.A) (hx : Xok T X kx) (hg : Gl X x) (hdb : (x == ("__debug__" : Str)) = false) (he : starEach (e :: es) X.env = (false, eval e X.env) :: starEach es X.env) (hpl : (backTo pos (starEach es X.env)).any (·.1) = false)
    (h : GA T X (e :: es) σ L fun vs L1 => S vs L1 K kx) : GE T X (.Call (.Name x p) (e :: es) [] pos) σ L K := by
  obtain ⟨fd, ps, F1, hb⟩ := F.ex
  refine GE.of (pe_call F1 hr hg F.mgx F.kp hb .nil hx.pass paW hdb he hpl) fun H hs Q q => h H hs _ fun vs L1 H1 k1 h1 => ?_
  rw [List.append_nil]
  exact spOf_of k1 h1 q
theorem ge_call0 (F : FnAt T X.prog X.w X.K X.mg X.base k x S) (hr : Room k X.A) (hx : Xok T X kx) (hg : Gl X x) (hdb : (x == ("__debug__" : Str)) = false)
    (h : S [] L K kx) : GE T X (.Call (.Name x p) [] [] pos) σ L K := by
  obtain ⟨fd, ps, F1, hb⟩ := F.ex
  exact GE.of (pe_call0 F1 hr hg F.mgx F.kp hb .nil hx.pass hdb) fun H hs Q q => spOf_of h hs q
def IsIns (T : List (Addr × Str)) (C : Addr) (x : V) (m : Str) (L : List SA) : Prop := ∃ a, x = .ref a ∧ ∀ H, Hs T L H → ∃ dx fs, H a = some (.ins C dx fs) ∧ fs.lookup m = none
theorem ge_meth {Cn : Str} (F : MeAt T X.prog X.w X.K X.mg X.base k Cn m S) (hr : Room k X.A) (hx : Xok T X kx) (hst : starEach (e :: es) X.env = (false, eval e X.env) :: starEach es X.env) (hpl : (backTo pos (starEach es X.env)).any (·.1) = false)
    (ht : ∃ pl : Sem Bool, eval (.Call (.Attribute o m apos) (e :: es) [] pos) X.env = (do
      let ov ← eval o X.env
      standAt apos.atName
      let (f, first) ← holding [ov] (getMethod ov m pl)
      callWith pos f first (backTo pos (starEach (e :: es) X.env)) (backToKw pos (keywordEach [] X.env))))
    (h : GE T X o σ L fun v L0 => IsIns T (He.ga X.K Cn) v m L0 ∧ GA T X (e :: es) σ L0 fun vs L1 => S (v :: vs) L1 K kx) : GE T X (.Call (.Attribute o m apos) (e :: es) [] pos) σ L K := by
  obtain ⟨fd, ps, F1, hb⟩ := F.ex
  obtain ⟨pl, ht⟩ := ht
  refine GE.of (pe_meth (pl := pl) peW F.cls F.me F1 hr hb .nil hx.pass paW hst hpl ht) fun H hs Q q => h H hs _ fun v L0 H0 ⟨⟨a, ev, fi⟩, k0⟩ h0 => ?_
  subst ev
  obtain ⟨dx, fs, hi, l⟩ := fi H0 h0
  refine ⟨a, dx, fs, rfl, hi, l, k0 H0 h0 _ fun vs L1 H1 k1 h1 => ?_⟩
  rw [List.append_nil]
  exact spOf_of k1 h1 q
theorem ge_meth0 {Cn : Str} (F : MeAt T X.prog X.w X.K X.mg X.base k Cn m S) (hr : Room k X.A) (hx : Xok T X kx)
    (ht : ∃ pl : Sem Bool, eval (.Call (.Attribute o m apos) [] [] pos) X.env = (do
      let ov ← eval o X.env
      standAt apos.atName
      let (f, first) ← holding [ov] (getMethod ov m pl)
      callWith pos f first (backTo pos (starEach [] X.env)) (backToKw pos (keywordEach [] X.env))))
    (h : GE T X o σ L fun v L0 => IsIns T (He.ga X.K Cn) v m L0 ∧ S [v] L0 K kx) : GE T X (.Call (.Attribute o m apos) [] [] pos) σ L K := by
  obtain ⟨fd, ps, F1, hb⟩ := F.ex
  obtain ⟨pl, ht⟩ := ht
  refine GE.of (pe_meth0 (pl := pl) peW F.cls F.me F1 hr hb .nil hx.pass ht) fun H hs Q q => h H hs _ fun v L0 H0 ⟨⟨a, ev, fi⟩, k0⟩ h0 => ?_
  subst ev
  obtain ⟨dx, fs, hi, l⟩ := fi H0 h0
  exact ⟨a, dx, fs, rfl, hi, l, spOf_of k0 h0 q⟩
theorem hs_made {H : Hp} {x dx C : Addr} (h : Hs T L H) (hx : H x = none) (hd : H dx = none) (ne : dx ≠ x) : Hs T (pt x (.ins C dx []) :: L) (upd (upd H dx (.own x)) x (.ins C dx [])) := by
  have h1 : Hs T (pt dx (.own x) :: L) (upd H dx (.own x)) := h.new hd fun _ => nofun
  exact h1.tail.new (by rw [upd_ne ne.symm]; exact hx) fun _ => nofun
theorem ge_make (F : MkAt T X.prog X.w X.K X.mg X.base k x S) (hr : Room (k + 1) X.A) (hx : Xok T X kx) (hg : Gl X x) (hdb : (x == ("__debug__" : Str)) = false) (he : starEach (e :: es) X.env = (false, eval e X.env) :: starEach es X.env) (hpl : (backTo pos (starEach es X.env)).any (·.1) = false)
    (h : GA T X (e :: es) σ L fun vs L1 => ∀ a dx, S (.ref a :: vs) (pt a (.ins (He.ga X.K x) dx []) :: L1) (fun v L2 => v = .non ∧ K (.ref a) L2) kx) : GE T X (.Call (.Name x p) (e :: es) [] pos) σ L K := by
  obtain ⟨fd, ps, F1, hb⟩ := F.ex
  refine GE.of (pe_make F.mkr F1 hr hg F.mgx hb .nil hx.pass paW hdb he hpl) fun H hs Q q => h H hs _ fun vs L1 H1 k1 h1 => fun a dx ha hd ne => ?_
  rw [List.append_nil]
  exact spOf_of (k1 a dx) (hs_made h1 ha hd ne) fun v L2 H2 ⟨e, k2⟩ h2 => ⟨e, q _ L2 H2 k2 h2⟩
theorem ge_make0 (F : MkAt T X.prog X.w X.K X.mg X.base k x S) (hr : Room (k + 1) X.A) (hx : Xok T X kx) (hg : Gl X x) (hdb : (x == ("__debug__" : Str)) = false)
    (h : ∀ a dx, S [.ref a] (pt a (.ins (He.ga X.K x) dx []) :: L) (fun v L2 => v = .non ∧ K (.ref a) L2) kx) : GE T X (.Call (.Name x p) [] [] pos) σ L K := by
  obtain ⟨fd, ps, F1, hb⟩ := F.ex
  refine GE.of (pe_make0 F.mkr F1 hr hg F.mgx hb .nil hx.pass hdb) fun H hs Q q => fun a dx ha hd ne => ?_
  exact spOf_of (h a dx) (hs_made hs ha hd ne) fun v L2 H2 ⟨e, k2⟩ h2 => ⟨e, q _ L2 H2 k2 h2⟩
end
/-! ### statements -/
section
variable {T : List (Addr × Str)} {X : Cx} {σ : St} {L : List SA} {D : EndsL} {e o a c : Expr} {st : Stmt} {rest body orelse : List Stmt} {x f : Str} {pos p pos' : Pos} {i j : Nat}
theorem gss_nil (h : D.nx σ L) : GSs T X [] D σ L := GSs.of pss_nil fun H hs D0 l => l.nx _ _ _ h hs
theorem gss_cons (h : GS T X st { D with nx := fun σ' L' => GSs T X rest D σ' L' } σ L) : GSs T X (st :: rest) D σ L :=
  GSs.of (pss_cons psW pssW) fun H hs D0 l => h H hs _ ⟨fun σ' L' H' k h' => k H' h' D0 l, l.rt, l.bk, l.ct⟩
theorem gss_one (h : GS T X st D σ L) : GSs T X [st] D σ L := GSs.of (pss_one psW) h
theorem gs_pass (h : D.nx σ L) : GS T X (.Pass pos) D σ L := GS.of ps_pass fun H hs D0 l => l.nx _ _ _ h hs
theorem gs_break (h : D.bk σ L) : GS T X (.Break pos) D σ L := GS.of ps_break fun H hs D0 l => l.bk _ _ _ h hs
theorem gs_continue (h : D.ct σ L) : GS T X (.Continue pos) D σ L := GS.of ps_continue fun H hs D0 l => l.ct _ _ _ h hs
theorem gs_doc {j} {z : Str} (h : D.nx σ L) : GS T X (.Expr (.Constant (.str z) j p) pos) D σ L := GS.of ps_doc fun H hs D0 l => l.nx _ _ _ h hs
theorem gs_expr (hsw : swapsWith e none pos.line X.env = pure false) (h : GE T X e σ L fun _ L1 => D.nx σ L1) : GS T X (.Expr e pos) D σ L :=
  GS.of (ps_expr peW hsw) fun H hs D0 l => h H hs _ fun v L1 H1 k h1 => l.nx _ _ _ k h1
theorem gs_ret (h : GE T X e σ L D.rt) : GS T X (.Return (some e) pos) D σ L := GS.of (ps_ret peW) fun H hs D0 l => h H hs _ l.rt
theorem gs_retN (h : D.rt .non L) : GS T X (.Return none pos) D σ L := GS.of ps_retN fun H hs D0 l => l.rt _ _ _ h hs
theorem gs_if (h : GT T X c σ L fun b L1 => if b = true then GSs T X body D σ L1 else GSs T X orelse D σ L1) : GS T X (.If c body orelse pos) D σ L :=
  GS.of (ps_if ptW pssW pssW) fun H hs D0 l => h H hs _ fun b L1 H1 k1 h1 => by
    cases b with
    | true => rw [if_pos rfl] at k1 ⊢; exact k1 H1 h1 D0 l
    | false => rw [if_neg Bool.false_ne_true] at k1 ⊢; exact k1 H1 h1 D0 l
theorem gs_set (hN : X.N.Nodup) (hi : X.N[i]? = some x) (hx : Loc X.env.scope x) (hsw : swapsWith e (some (.Name x pos')) pos.line X.env = pure false) (hf : X.fn x = true ∨ X.env.scope.names.lookup x = some .local)
    (h : GE T X e σ L fun v L1 => D.nx (σ.set i (some v)) L1) : GS T X (.Assign [.Name x pos'] e pos) D σ L :=
  GS.of (ps_set hN hi hx peW hsw hf) fun H hs D0 l => h H hs _ fun v L1 H1 k h1 => l.nx _ _ _ k h1
theorem gs_asg {tg : Expr} (hsw : swapsWithSole [tg] e pos.line X.env = pure false) (hw : swappedStores [tg] e X.env = pure none) (h1 : (assignEach [tg] X.env).map (·.2) = [assign tg X.env])
    (h : GE T X e σ L fun v L1 => GG T X tg v σ L1 D.nx) : GS T X (.Assign [tg] e pos) D σ L :=
  GS.of (ps_asg peW pgW hsw hw h1) fun H hs D0 l => h H hs _ fun v L1 H1 k h1 => k H1 h1 _ l.nx
theorem gs_par {y : Str} {b : Expr} {px py p3 : Pos} {kt k2 p4} (hc : X.calm = true) (hN : X.N.Nodup) (hi : X.N[i]? = some x) (hj : X.N[j]? = some y) (hij : i ≠ j)
    (hx : X.env.scope.names.lookup x = some .local) (hy : X.env.scope.names.lookup y = some .local)
    (hw : swappedStores [.Tuple [.Name x px, .Name y py] kt p3] (.Tuple [a, b] k2 p4) X.env = pure (some [x, y]))
    (hs : swapsWithSole [.Tuple [.Name x px, .Name y py] kt p3] (.Tuple [a, b] k2 p4) pos.line X.env = pure false)
    (h : GA T X [a, b] σ L fun vs L1 => ∃ v w, vs = [v, w] ∧ D.nx ((σ.set i (some v)).set j (some w)) L1) :
    GS T X (.Assign [.Tuple [.Name x px, .Name y py] kt p3] (.Tuple [a, b] k2 p4) pos) D σ L :=
  GS.of (ps_par hc hN hi hj hij hx hy paW hw hs) fun H hs D0 l => h H hs _ fun vs L1 H1 ⟨v, w, e, k⟩ h1 => ⟨v, w, e, l.nx _ _ _ k h1⟩
def GFS (KK : PySem.W.Frag) (x : V) (f : Str) (y : V) (L : List SA) (N : List SA → Prop) : Prop := ∃ a C dx fs L', x = .ref a ∧ Rpl L (pt a (.ins C dx fs)) (pt a (.ins C dx (putF f y fs))) L' ∧ Cls KK C ∧ NoAttr KK C f ∧ fs.length < 1000 ∧ N L'
theorem gs_fld (hsw : swapsWith e (some (.Attribute o f pos')) pos.line X.env = pure false) (h : GE T X e σ L fun y L1 => GE T X o σ L1 fun x L2 => GFS X.K x f y L2 (D.nx σ)) : GS T X (.Assign [.Attribute o f pos'] e pos) D σ L :=
  GS.of (ps_fld peW peW hsw) fun H hs D0 l => h H hs _ fun y L1 H1 k1 h1 => k1 H1 h1 _ fun x L2 H2 ⟨a, C, dx, fs, L', ex, r, c, n, z, k⟩ h2 => by
    obtain ⟨R, s⟩ := r.sel
    exact ⟨a, C, dx, fs, ex, h2.at s, c, n, z, l.nx _ _ _ k (h2.rpl r True.intro fun _ => nofun)⟩
end
end SW
set_option Elab.async false
set_option linter.all false
set_option maxRecDepth 100000
set_option maxHeartbeats 2000000
/-! Sw3: names by search, the entry of a def, stores. -/
namespace SW
open PySem PySem.Spec L2
open PyProof.Rows hiding St
/-- the value that a name holds, found along the rows -/
inductive At : List Str → St → Str → V → Prop
  | here {x N v σ} : At (x :: N) (some v :: σ) x v
  | there {x y N s σ v} : At N σ x v → At (y :: N) (s :: σ) x v
theorem At.ix {N : List Str} {σ : St} {x : Str} {v : V} (h : At N σ x v) : ∃ i : Nat, N[i]? = some x ∧ σ[i]? = some (some v) := by
  induction h with
  | here => exact ⟨0, rfl, rfl⟩
  | there _ ih => obtain ⟨i, a, b⟩ := ih; exact ⟨i + 1, by simpa using a, by simpa using b⟩
/-- a name is stored -/
inductive Put : List Str → St → Str → V → St → Prop
  | here {x N s v σ} : Put (x :: N) (s :: σ) x v (some v :: σ)
  | there {x y N s σ σ' v} : Put N σ x v σ' → Put (y :: N) (s :: σ) x v (s :: σ')
theorem Put.ix {N : List Str} {σ σ' : St} {x : Str} {v : V} (h : Put N σ x v σ') : ∃ i : Nat, N[i]? = some x ∧ σ' = σ.set i (some v) := by
  induction h with
  | here => exact ⟨0, rfl, rfl⟩
  | there _ ih => obtain ⟨i, a, b⟩ := ih; exact ⟨i + 1, by simpa using a, by simp [b]⟩
/-- what is stored stands behind: for a value not yet known -/
inductive Slot : List Str → St → Str → (V → St) → Prop
  | here {x N s σ} : Slot (x :: N) (s :: σ) x (fun v => some v :: σ)
  | there {x y N s σ f} : Slot N σ x f → Slot (y :: N) (s :: σ) x (fun v => s :: f v)
theorem Slot.ix {N : List Str} {σ : St} {x : Str} {f : V → St} (h : Slot N σ x f) : ∃ i : Nat, N[i]? = some x ∧ ∀ v, f v = σ.set i (some v) := by
  induction h with
  | here => exact ⟨0, rfl, fun _ => rfl⟩
  | there _ ih => obtain ⟨i, a, b⟩ := ih; exact ⟨i + 1, by simpa using a, fun v => by simp [b]⟩
/-- the kinds of names -/
inductive Kd : List (Str × NameKind) → Str → NameKind → Prop
  | here {x k l} : Kd ((x, k) :: l) x k
  | there {x k p l} : Kd l x k → Kd (p :: l) x k
theorem Kd.mem {l : List (Str × NameKind)} {x : Str} {k : NameKind} (h : Kd l x k) : (x, k) ∈ l := by
  induction h with
  | here => exact List.mem_cons_self
  | there _ ih => exact List.mem_cons_of_mem _ ih
theorem lookup_nodup {l : List (Str × NameKind)} {x : Str} {k : NameKind} (nd : (l.map (·.1)).Nodup) (h : (x, k) ∈ l) : l.lookup x = some k := by
  induction l with
  | nil => cases h
  | cons p l ih =>
    obtain ⟨y, m⟩ := p
    rw [List.map_cons, List.nodup_cons] at nd
    rcases List.mem_cons.mp h with e | e
    · cases e; simp [List.lookup]
    · have ne : x ≠ y := fun z => nd.1 (by rw [← z]; exact List.mem_map.mpr ⟨_, e, rfl⟩)
      rw [List.lookup_cons, show (x == y) = false from beq_eq_false_iff_ne.mpr ne]
      exact ih nd.2 e
/-- the names of the code at hand, their kinds -/
structure Nm (X : Cx) (N : List Str) (ks : List (Str × NameKind)) : Prop where
  nn : X.N = N
  kk : X.env.scope.names = ks
  nd : N.Nodup
  kd : (ks.map (·.1)).Nodup
/-- xs[k] = v -/
structure PutAt (xs : List V) (k : Int) (v : V) (ys : List V) : Prop where
  ex : ∃ j, ixN xs.length k = some j ∧ ys = xs.set j v
inductive SetR : List V → Nat → V → List V → Prop
  | here {x v : V} {xs : List V} : SetR (x :: xs) 0 v (v :: xs)
  | there {x v : V} {xs ys : List V} {n : Nat} : SetR xs n v ys → SetR (x :: xs) (n + 1) v (x :: ys)
theorem SetR.eq {xs ys : List V} {n : Nat} {v : V} (h : SetR xs n v ys) : ys = xs.set n v := by
  induction h with
  | here => rfl
  | there _ ih => rw [ih]; rfl
theorem PutAt.c {xs ys : List V} {k : Int} {v : V} (j : Nat) (h : ixN xs.length k = some j) (s : SetR xs j v ys) : PutAt xs k v ys := ⟨j, h, s.eq⟩
def GPutL (o i v : V) (L : List SA) (N : List SA → Prop) : Prop := ∃ p xs k ys L', o = .ref p ∧ i = .int k ∧ Rpl L (pt p (.lst xs)) (pt p (.lst ys)) L' ∧ PutAt xs k v ys ∧ N L'
theorem gput {p : Addr} {xs ys : List V} {k : Int} {v : V} {L L' : List SA} {N : List SA → Prop} (r : Rpl L (pt p (.lst xs)) (pt p (.lst ys)) L') (e : PutAt xs k v ys) (h : N L') : GPutL (.ref p) (.int k) v L N := ⟨p, xs, k, ys, L', rfl, rfl, r, e, h⟩
section
variable {T : List (Addr × Str)} {X : Cx} {σ : St} {L : List SA} {K : GK} {D : EndsL} {N : List Str} {ks : List (Str × NameKind)} {e : Expr} {x : Str} {pos pos' : Pos} {v : V}
theorem Nm.look (n : Nm X N ks) {k : NameKind} (h : Kd ks x k) : X.env.scope.names.lookup x = some k := by rw [n.kk]; exact lookup_nodup n.kd h.mem
theorem Nm.gl (n : Nm X N ks) (h : Kd ks x .globalImplicit) : Gl X x := n.look h
inductive Vk : NameKind → Prop
  | l : Vk .local
  | c : Vk .cell
  | f : Vk .free
theorem Nm.vis (n : Nm X N ks) {k : NameKind} (h : Kd ks x k) (v : Vk k) : Vis X.env.scope x := by
  cases v with
  | l => exact .inl (n.look h)
  | c => exact .inr (.inl (n.look h))
  | f => exact .inr (.inr (n.look h))
def dbg (x : Str) : Bool := (x == ("__debug__" : Str)) || (x == ("__classdict__" : Str))
theorem dbg1 (h : dbg x = false) : (x == ("__debug__" : Str)) = false := (Bool.or_eq_false_iff.mp h).1
theorem dbg2 (h : dbg x = false) : (x == ("__classdict__" : Str)) = false := (Bool.or_eq_false_iff.mp h).2
theorem ge_name {k : NameKind} (n : Nm X N ks) (a : At N σ x v) (h : Kd ks x k) (vk : Vk k) (hd : dbg x = false) (q : K v L) : GE T X (.Name x pos) σ L K := by
  obtain ⟨i, h1, h2⟩ := a.ix
  exact ge_var (i := i) (by rw [n.nn]; exact h1) (n.vis h vk) h2 q (dbg1 hd) (dbg2 hd)
inductive Lk : NameKind → Prop
  | l : Lk .local
  | c : Lk .cell
theorem Nm.loc (n : Nm X N ks) {k : NameKind} (h : Kd ks x k) (v : Lk k) : Loc X.env.scope x := by
  cases v with
  | l => exact .inl (n.look h)
  | c => exact .inr (n.look h)
theorem gs_name {k : NameKind} {f : V → St} (n : Nm X N ks) (s : Slot N σ x f) (h : Kd ks x k) (lk : Lk k) (hf : k = .local ∨ X.fn x = true) (hsw : swapsWith e (some (.Name x pos')) pos.line X.env = pure false)
    (q : GE T X e σ L fun v L1 => D.nx (f v) L1) : GS T X (.Assign [.Name x pos'] e pos) D σ L := by
  obtain ⟨i, h1, h2⟩ := s.ix
  have e1 : (fun (v : V) (L1 : List SA) => D.nx (f v) L1) = fun v L1 => D.nx (σ.set i (some v)) L1 := by funext v L1; rw [h2]
  rw [e1] at q
  refine gs_set (i := i) (by rw [n.nn]; exact n.nd) (by rw [n.nn]; exact h1) (n.loc h lk) hsw ?_ q
  rcases hf with rfl | hf
  · exact .inr (n.look h)
  · exact .inl hf
/-- a target that is a name -/
theorem gg_name {k : NameKind} {f : V → St} {K : St → List SA → Prop} (n : Nm X N ks) (s : Slot N σ x f) (h : Kd ks x k) (lk : Lk k) (hf : k = .local ∨ X.fn x = true) (q : K (f v) L) : GG T X (.Name x pos) v σ L K := by
  obtain ⟨i, h1, h2⟩ := s.ix
  refine GG.of (pg_name (i := i) (by rw [n.nn]; exact n.nd) (by rw [n.nn]; exact h1) (n.loc h lk) ?_) fun H hs Q q' => q' _ _ _ ?_ hs
  · rcases hf with rfl | hf
    · exact .inr (n.look h)
    · exact .inl hf
  · rw [← h2]; exact q
theorem gg_sub {o i : Expr} {K : St → List SA → Prop}
    (ha : ∀ v, assign (.Subscript o i pos) X.env v = (do
      let ov ← holding [v] (eval o X.env)
      let iv ← holding [v, ov] (eval i X.env)
      standAt pos
      holding [v, ov, iv] (setItem ov iv v)
      release [v, ov, iv] []))
    (h : GE T X o σ L fun ov L1 => GE T X i σ L1 fun iv L2 => GPutL ov iv v L2 (K σ)) : GG T X (.Subscript o i pos) v σ L K :=
  GG.of (pg_sub peW peW set_list ha) fun H hs Q q => h H hs _ fun ov L1 H1 k1 h1 => k1 H1 h1 _ fun iv L2 H2 ⟨p, xs, k, ys, L', e1, e2, r, ⟨j, e3, e4⟩, k2⟩ h2 => by
    obtain ⟨R, s⟩ := r.sel
    subst e4
    exact ⟨p, xs, k, j, e1, e2, h2.at s, e3, q _ _ _ k2 (h2.rpl r True.intro fun _ => nofun)⟩
end
theorem ite_dec {p A B : Prop} [Decidable p] (h1 : p → A) (h2 : ¬p → B) : if decide p = true then A else B := by
  by_cases h : p
  · rw [decide_eq_true h, if_pos rfl]; exact h1 h
  · rw [decide_eq_false h, if_neg Bool.false_ne_true]; exact h2 h
theorem ite_ndec {p A B : Prop} [Decidable p] (h1 : ¬p → A) (h2 : p → B) : if (!decide p) = true then A else B := by
  by_cases h : p
  · rw [decide_eq_true h]; exact h2 h
  · rw [decide_eq_false h]; exact h1 h
theorem ite_b {b : Bool} {A B : Prop} (h1 : b = true → A) (h2 : b = false → B) : if b = true then A else B := by
  cases b with
  | true => exact h1 rfl
  | false => exact h2 rfl
/-! ### filters -/
section
variable {T : List (Addr × Str)} {X : Cx} {σ : St} {L : List SA} {K : GK}
theorem GE.id {e : Expr} (h : GE T X e σ L K) : GE T X e σ L K := h
theorem GE.idCall {f : Expr} {es kw p} (h : GE T X (.Call f es kw p) σ L K) : GE T X (.Call f es kw p) σ L K := h
theorem GT.id {e : Expr} {K : Bool → List SA → Prop} (h : GT T X e σ L K) : GT T X e σ L K := h
theorem GB.id {e : Expr} {K : Bool → List SA → Prop} (h : GB T X e σ L K) : GB T X e σ L K := h
theorem GA.id {es : List Expr} {K : List V → List SA → Prop} (h : GA T X es σ L K) : GA T X es σ L K := h
theorem GS.id {st : Stmt} {D : EndsL} (h : GS T X st D σ L) : GS T X st D σ L := h
theorem GSs.id {st : List Stmt} {D : EndsL} (h : GSs T X st D σ L) : GSs T X st D σ L := h
theorem GG.id {tg : Expr} {v : V} {K : St → List SA → Prop} (h : GG T X tg v σ L K) : GG T X tg v σ L K := h
theorem GOp.id {f : Value → Value → Sem Value} {x y : V} (h : GOp T X f x y L K) : GOp T X f x y L K := h
theorem GC.id {f : Value} {xs : List V} (h : GC T X f xs L K) : GC T X f xs L K := h
theorem GIx.id {x y : V} (h : GIx T X x y L K) : GIx T X x y L K := h
end
/-! ### built-ins by name -/
section
variable {T : List (Addr × Str)} {X : Cx} {σ : St} {L : List SA} {K : GK} {N : List Str} {ks : List (Str × NameKind)} {e : Expr} {es : List Expr} {p pos : Pos}
theorem gb_int (n : Nm X N ks) (h : Kd ks "int" .globalImplicit) (hm : X.mg "int" = none) (he : starEach (e :: es) X.env = (false, eval e X.env) :: starEach es X.env) (hpl : (backTo pos (starEach es X.env)).any (·.1) = false)
    (q : GA T X (e :: es) σ L fun vs L1 => GC T X (.type "int") vs L1 K) : GE T X (.Call (.Name "int" p) (e :: es) [] pos) σ L K := ge_callTy (n.gl h) hm (by decide +kernel) (by decide) rfl he hpl q
theorem gb_str (n : Nm X N ks) (h : Kd ks "str" .globalImplicit) (hm : X.mg "str" = none) (he : starEach (e :: es) X.env = (false, eval e X.env) :: starEach es X.env) (hpl : (backTo pos (starEach es X.env)).any (·.1) = false)
    (q : GA T X (e :: es) σ L fun vs L1 => GC T X (.type "str") vs L1 K) : GE T X (.Call (.Name "str" p) (e :: es) [] pos) σ L K := ge_callTy (n.gl h) hm (by decide +kernel) (by decide) rfl he hpl q
theorem gb_list (n : Nm X N ks) (h : Kd ks "list" .globalImplicit) (hm : X.mg "list" = none) (he : starEach (e :: es) X.env = (false, eval e X.env) :: starEach es X.env) (hpl : (backTo pos (starEach es X.env)).any (·.1) = false)
    (q : GA T X (e :: es) σ L fun vs L1 => GC T X (.type "list") vs L1 K) : GE T X (.Call (.Name "list" p) (e :: es) [] pos) σ L K := ge_callTy (n.gl h) hm (by decide +kernel) (by decide) rfl he hpl q
theorem gb_tuple (n : Nm X N ks) (h : Kd ks "tuple" .globalImplicit) (hm : X.mg "tuple" = none) (he : starEach (e :: es) X.env = (false, eval e X.env) :: starEach es X.env) (hpl : (backTo pos (starEach es X.env)).any (·.1) = false)
    (q : GA T X (e :: es) σ L fun vs L1 => GC T X (.type "tuple") vs L1 K) : GE T X (.Call (.Name "tuple" p) (e :: es) [] pos) σ L K := ge_callTy (n.gl h) hm (by decide +kernel) (by decide) rfl he hpl q
theorem gb_dict (n : Nm X N ks) (h : Kd ks "dict" .globalImplicit) (hm : X.mg "dict" = none) (he : starEach (e :: es) X.env = (false, eval e X.env) :: starEach es X.env) (hpl : (backTo pos (starEach es X.env)).any (·.1) = false)
    (q : GA T X (e :: es) σ L fun vs L1 => GC T X (.type "dict") vs L1 K) : GE T X (.Call (.Name "dict" p) (e :: es) [] pos) σ L K := ge_callTy (n.gl h) hm (by decide +kernel) (by decide) rfl he hpl q
theorem gb_set (n : Nm X N ks) (h : Kd ks "set" .globalImplicit) (hm : X.mg "set" = none) (he : starEach (e :: es) X.env = (false, eval e X.env) :: starEach es X.env) (hpl : (backTo pos (starEach es X.env)).any (·.1) = false)
    (q : GA T X (e :: es) σ L fun vs L1 => GC T X (.type "set") vs L1 K) : GE T X (.Call (.Name "set" p) (e :: es) [] pos) σ L K := ge_callTy (n.gl h) hm (by decide +kernel) (by decide) rfl he hpl q
theorem gb_bool (n : Nm X N ks) (h : Kd ks "bool" .globalImplicit) (hm : X.mg "bool" = none) (he : starEach (e :: es) X.env = (false, eval e X.env) :: starEach es X.env) (hpl : (backTo pos (starEach es X.env)).any (·.1) = false)
    (q : GA T X (e :: es) σ L fun vs L1 => GC T X (.type "bool") vs L1 K) : GE T X (.Call (.Name "bool" p) (e :: es) [] pos) σ L K := ge_callTy (n.gl h) hm (by decide +kernel) (by decide) rfl he hpl q
theorem gb_range (n : Nm X N ks) (h : Kd ks "range" .globalImplicit) (hm : X.mg "range" = none) (he : starEach (e :: es) X.env = (false, eval e X.env) :: starEach es X.env) (hpl : (backTo pos (starEach es X.env)).any (·.1) = false)
    (q : GA T X (e :: es) σ L fun vs L1 => GC T X (.type "range") vs L1 K) : GE T X (.Call (.Name "range" p) (e :: es) [] pos) σ L K := ge_callTy (n.gl h) hm (by decide +kernel) (by decide) rfl he hpl q
theorem gb_abs (n : Nm X N ks) (h : Kd ks "abs" .globalImplicit) (hm : X.mg "abs" = none) (he : starEach (e :: es) X.env = (false, eval e X.env) :: starEach es X.env) (hpl : (backTo pos (starEach es X.env)).any (·.1) = false)
    (q : GA T X (e :: es) σ L fun vs L1 => GC T X (.builtin "abs") vs L1 K) : GE T X (.Call (.Name "abs" p) (e :: es) [] pos) σ L K := ge_callB (n.gl h) hm (by decide +kernel) (by decide) rfl he hpl q
theorem gb_len (n : Nm X N ks) (h : Kd ks "len" .globalImplicit) (hm : X.mg "len" = none) (he : starEach (e :: es) X.env = (false, eval e X.env) :: starEach es X.env) (hpl : (backTo pos (starEach es X.env)).any (·.1) = false)
    (q : GA T X (e :: es) σ L fun vs L1 => GC T X (.builtin "len") vs L1 K) : GE T X (.Call (.Name "len" p) (e :: es) [] pos) σ L K := ge_callB (n.gl h) hm (by decide +kernel) (by decide) rfl he hpl q
theorem gb_min (n : Nm X N ks) (h : Kd ks "min" .globalImplicit) (hm : X.mg "min" = none) (he : starEach (e :: es) X.env = (false, eval e X.env) :: starEach es X.env) (hpl : (backTo pos (starEach es X.env)).any (·.1) = false)
    (q : GA T X (e :: es) σ L fun vs L1 => GC T X (.builtin "min") vs L1 K) : GE T X (.Call (.Name "min" p) (e :: es) [] pos) σ L K := ge_callB (n.gl h) hm (by decide +kernel) (by decide) rfl he hpl q
theorem gb_max (n : Nm X N ks) (h : Kd ks "max" .globalImplicit) (hm : X.mg "max" = none) (he : starEach (e :: es) X.env = (false, eval e X.env) :: starEach es X.env) (hpl : (backTo pos (starEach es X.env)).any (·.1) = false)
    (q : GA T X (e :: es) σ L fun vs L1 => GC T X (.builtin "max") vs L1 K) : GE T X (.Call (.Name "max" p) (e :: es) [] pos) σ L K := ge_callB (n.gl h) hm (by decide +kernel) (by decide) rfl he hpl q
theorem gb_sum (n : Nm X N ks) (h : Kd ks "sum" .globalImplicit) (hm : X.mg "sum" = none) (he : starEach (e :: es) X.env = (false, eval e X.env) :: starEach es X.env) (hpl : (backTo pos (starEach es X.env)).any (·.1) = false)
    (q : GA T X (e :: es) σ L fun vs L1 => GC T X (.builtin "sum") vs L1 K) : GE T X (.Call (.Name "sum" p) (e :: es) [] pos) σ L K := ge_callB (n.gl h) hm (by decide +kernel) (by decide) rfl he hpl q
theorem gb_sorted (n : Nm X N ks) (h : Kd ks "sorted" .globalImplicit) (hm : X.mg "sorted" = none) (he : starEach (e :: es) X.env = (false, eval e X.env) :: starEach es X.env) (hpl : (backTo pos (starEach es X.env)).any (·.1) = false)
    (q : GA T X (e :: es) σ L fun vs L1 => GC T X (.builtin "sorted") vs L1 K) : GE T X (.Call (.Name "sorted" p) (e :: es) [] pos) σ L K := ge_callB (n.gl h) hm (by decide +kernel) (by decide) rfl he hpl q
theorem gb_any (n : Nm X N ks) (h : Kd ks "any" .globalImplicit) (hm : X.mg "any" = none) (he : starEach (e :: es) X.env = (false, eval e X.env) :: starEach es X.env) (hpl : (backTo pos (starEach es X.env)).any (·.1) = false)
    (q : GA T X (e :: es) σ L fun vs L1 => GC T X (.builtin "any") vs L1 K) : GE T X (.Call (.Name "any" p) (e :: es) [] pos) σ L K := ge_callB (n.gl h) hm (by decide +kernel) (by decide) rfl he hpl q
theorem gb_all (n : Nm X N ks) (h : Kd ks "all" .globalImplicit) (hm : X.mg "all" = none) (he : starEach (e :: es) X.env = (false, eval e X.env) :: starEach es X.env) (hpl : (backTo pos (starEach es X.env)).any (·.1) = false)
    (q : GA T X (e :: es) σ L fun vs L1 => GC T X (.builtin "all") vs L1 K) : GE T X (.Call (.Name "all" p) (e :: es) [] pos) σ L K := ge_callB (n.gl h) hm (by decide +kernel) (by decide) rfl he hpl q
theorem gb_ord (n : Nm X N ks) (h : Kd ks "ord" .globalImplicit) (hm : X.mg "ord" = none) (he : starEach (e :: es) X.env = (false, eval e X.env) :: starEach es X.env) (hpl : (backTo pos (starEach es X.env)).any (·.1) = false)
    (q : GA T X (e :: es) σ L fun vs L1 => GC T X (.builtin "ord") vs L1 K) : GE T X (.Call (.Name "ord" p) (e :: es) [] pos) σ L K := ge_callB (n.gl h) hm (by decide +kernel) (by decide) rfl he hpl q
end
/-! ### the entry of a def -/
section
variable {T : List (Addr × Str)} {P : Program} {w : World} {K : PySem.W.Frag} {mg : Str → Option Value} {base : Heap} {x qual : Str} {pa : Arguments} {bd : List Stmt} {sc : Scope} {f : Addr} {fd : FuncData} {N ps : List Str} {ks : List (Str × NameKind)} {k : Nat} {S : SpL}
abbrev bx (P : Program) (w : World) (K : PySem.W.Frag) (mg : Str → Option Value) (base : Heap) (N : List Str) (qual : Str) (sc : Scope) (f : Addr) (cdv : Value) (A : Around) (outer : List Env) (s : Shared) (H : Hp) (E : XK) : Cx := cxOf (L2.CX P w) P w K mg base N qual sc f cdv A outer s H E
structure DefSc (N ps : List Str) (ks : List (Str × NameKind)) (sc : Scope) : Prop where
  fs : FnScope N ps sc
  kseq : sc.names = ks
  kd : (ks.map (·.1)).Nodup
theorem def_ok (F : FunD K x qual pa bd sc [] [] f fd) (S0 : DefSc N ps ks sc) (hl : ∀ vs L K kx, S vs L K kx → vs.length = ps.length)
    (hb : ∀ (cdv : Value) (A : Around) (outer : List Env) (s : Shared) (H : Hp) (E : XK), Room k (bx P w K mg base N qual sc f cdv A outer s H E).A → Nm (bx P w K mg base N qual sc f cdv A outer s H E) N ks → ∀ (vs : List V) (L : List SA) (KK : GK) (kx : KX), S vs L KK kx →
      Xok T (bx P w K mg base N qual sc f cdv A outer s H E) kx → ∀ σ, σ = start N vs → GSs T (bx P w K mg base N qual sc f cdv A outer s H E) bd { nx := fun _ L => KK .non L, rt := KK } σ L) :
    FnOk P w K mg base (L2.CX P w) (k + 1) f fd ps (spOf T S) := by
  refine F.ok S0.fs (fun vs H Q E ⟨L, KK, kx, _, h, _⟩ => hl vs L KK kx h) fun cdv A outer s H vs Q E hr hsp => ?_
  obtain ⟨L, KK, kx, hs, h, q, qx⟩ := hsp
  have hx : Xok T (bx P w K mg base N qual sc f cdv A outer s H E) kx := ⟨fun cls d _ H => E cls d H, takes_of rfl rfl rfl rfl, fun cls d σ L H k h => qx cls d L H k h⟩
  have g := hb cdv A outer s H E hr ⟨rfl, S0.kseq, S0.fs.nd, S0.kd⟩ vs L KK kx h hx _ rfl
  exact ⟨_, pssW, g H hs _ ⟨fun σ' L' H' k h => q _ _ _ k h, q, fun _ _ _ k => k.elim, fun _ _ _ k => k.elim⟩⟩
theorem binds1 {a : Str} (F : FunD K x qual pa bd sc [] [] f fd)
    (h : ∀ (kV doc pm : Value) (an : Option Addr) (cdv ct u : Value), bindArgs (PySem.W.fnOf x qual pa bd sc .none kV doc pm an cdv ct) ⟨[u], []⟩ = pure [(a, u)]) : Binds K fd [a] [] :=
  F.bindsN fun kV doc pm an cdv ct us hl => match us, hl with | [u], _ => h kV doc pm an cdv ct u
end
end SW
set_option Elab.async false
set_option linter.all false
set_option maxRecDepth 100000
set_option maxHeartbeats 2000000
/-! Sw4: data that never changes (tuples), lists of such. -/
namespace SW
open PySem PySem.Spec L2
open PyProof.Rows hiding St
/-- all tuples of h are tuples of h' -/
def TupLe (h h' : Hp) : Prop := ∀ a xs, h a = some (.tup xs) → h' a = some (.tup xs)
theorem Sub.tup {h H : Hp} (s : Sub h H) : TupLe h H := fun a xs e => (s a _ e).1
def tupOf (H : Hp) : Hp := fun a => match H a with | some (.tup xs) => some (.tup xs) | _ => none
theorem tupOf_some {H : Hp} {a : Addr} {o : HO} (e : tupOf H a = some o) : ∃ xs, o = .tup xs ∧ H a = some (.tup xs) := by
  unfold tupOf at e
  split at e
  · rename_i xs q; cases e; exact ⟨xs, rfl, q⟩
  · cases e
theorem tupOf_le (H : Hp) : TupLe H (tupOf H) := fun a xs e => by unfold tupOf; rw [e]
theorem tupOf_sub (H : Hp) : Sub (tupOf H) H := fun a o e => by
  obtain ⟨xs, rfl, q⟩ := tupOf_some e
  exact ⟨q, fun _ => nofun⟩
/-- what speaks of tuples alone -/
def Pers (F : SA) : Prop := ∀ h h', TupLe h h' → F h → F h'
section
variable {T : List (Addr × Str)} {L : List SA} {A F : SA} {H : Hp}
theorem Pcs.addP (hF : Pers F) (h : Pcs L H) (f : F H) : Pcs (F :: L) H := by
  obtain ⟨ps, h1, h2, h3⟩ := h
  refine ⟨tupOf H :: ps, .cons (hF _ _ (tupOf_le H) f) h1, List.pairwise_cons.mpr ⟨fun g hg a o e1 e2 => ?_, h2⟩, fun g hg => ?_⟩
  · obtain ⟨xs, e, _⟩ := tupOf_some e1
    exact ⟨xs, e⟩
  · rcases List.mem_cons.mp hg with rfl | hg
    · exact tupOf_sub H
    · exact h3 g hg
theorem Hs.addP (hF : Pers F) (h : Hs T L H) (f : F H) : Hs T (F :: L) H := ⟨h.tabs, h.pcs.addP hF f⟩
theorem Hs.getP {R : List SA} (hF : Pers F) (s : Sel L F R) (h : Hs T L H) : F H := by
  obtain ⟨ps, h1, _, h3⟩ := (h.sel s).pcs
  cases h1 with
  | cons r t => exact hF _ _ (h3 _ List.mem_cons_self).tup r
/-- a fact that a piece tells -/
theorem Hs.factP {R : List SA} {φ : Prop} (f : ∀ g, A g → Sub g H → φ) (s : Sel L A R) (h : Hs T L H) : φ := (h.sel s).pcs.factH f
end
/-! ### representations -/
structure PRep (α : Type) where
  rel : Hp → V → α → Prop
  mono : ∀ {h h' : Hp} {v : V} {d : α}, TupLe h h' → rel h v d → rel h' v d
  enc : α → PyData
  dp : ∀ {K : PySem.W.Frag} {h : Hp} {v : V} {d : α}, rel h v d → Dp K h v (enc d)
  ok : ∀ {h : Hp} {v : V} {d : α}, rel h v d → (enc d).canLay0 = true
  dep : Nat
  hdep : ∀ d, (enc d).depth ≤ dep
  eqv : ∀ a b, PyData.eqv (enc a) (enc b) = true ↔ a = b
/-- the value is told by the datum alone -/
structure SRep {α : Type} (R : PRep α) (f : α → V) : Prop where
  to : ∀ {h : Hp} {v : V} {d : α}, R.rel h v d → v = f d
def A2r {α : Type} (R : PRep α) (h : Hp) (xs : List V) (ds : List α) : Prop := A2 (fun v d => R.rel h v d) xs ds
theorem A2r.mono {α : Type} {R : PRep α} {h h' : Hp} {xs : List V} {ds : List α} (t : TupLe h h') (a : A2r R h xs ds) : A2r R h' xs ds := A2.imp (fun _ _ r => R.mono t r) a
theorem A2r.dp {α : Type} {R : PRep α} {K : PySem.W.Frag} {h : Hp} {xs : List V} {ds : List α} (a : A2r R h xs ds) : DpAll K h xs (ds.map R.enc) := by
  induction a with
  | nil => exact .nil
  | cons r _ ih => exact .cons (R.dp r) ih
theorem A2r.ok {α : Type} {R : PRep α} {h : Hp} {xs : List V} {ds : List α} (a : A2r R h xs ds) : PyData.canLayAll0 (ds.map R.enc) = true := by
  induction a with
  | nil => rfl
  | cons r _ ih =>
    show PyData.canLayAll0 (R.enc _ :: _) = true
    simp only [PyData.canLayAll0, R.ok r, Bool.true_and]
    exact ih
theorem depthAll_le {α : Type} {R : PRep α} (ds : List α) : PyData.depthAll (ds.map R.enc) ≤ R.dep := by
  induction ds with
  | nil => exact Nat.zero_le _
  | cons d ds ih =>
    show PyData.depthAll (R.enc d :: ds.map R.enc) ≤ _
    simp only [PyData.depthAll]
    exact Nat.max_le.mpr ⟨R.hdep d, ih⟩
theorem eqvAll_iff {α : Type} {R : PRep α} : ∀ as bs : List α, PyData.eqvAll (as.map R.enc) (bs.map R.enc) = true ↔ as = bs
  | [], [] => by simp [PyData.eqvAll]
  | [], b :: bs => by simp [PyData.eqvAll]
  | a :: as, [] => by simp [PyData.eqvAll]
  | a :: as, b :: bs => by
    simp only [List.map_cons, PyData.eqvAll, Bool.and_eq_true, R.eqv, eqvAll_iff as bs, List.cons.injEq]
theorem A2r.length {α : Type} {R : PRep α} {h : Hp} {xs : List V} {ds : List α} (a : A2r R h xs ds) : xs.length = ds.length := A2.length a
theorem A2r.get {α : Type} {R : PRep α} {h : Hp} {xs : List V} {ds : List α} (a : A2r R h xs ds) : ∀ {i : Nat} {d : α}, ds[i]? = some d → ∃ x, xs[i]? = some x ∧ R.rel h x d := by
  induction a with
  | nil => intro i d e; simp at e
  | cons r t ih =>
    intro i d e
    cases i with
    | zero => simp at e; subst e; exact ⟨_, rfl, r⟩
    | succ i => obtain ⟨x, e1, e2⟩ := ih (by simpa using e); exact ⟨x, by simpa using e1, e2⟩
theorem A2r.get' {α : Type} {R : PRep α} {h : Hp} {xs : List V} {ds : List α} (a : A2r R h xs ds) : ∀ {i : Nat} {x : V}, xs[i]? = some x → ∃ d, ds[i]? = some d ∧ R.rel h x d := by
  induction a with
  | nil => intro i d e; simp at e
  | cons r t ih =>
    intro i d e
    cases i with
    | zero => simp at e; subst e; exact ⟨_, rfl, r⟩
    | succ i => obtain ⟨x, e1, e2⟩ := ih (by simpa using e); exact ⟨x, by simpa using e1, e2⟩
theorem A2r.take {α : Type} {R : PRep α} {h : Hp} {xs : List V} {ds : List α} (a : A2r R h xs ds) : ∀ n, A2r R h (xs.take n) (ds.take n) := by
  induction a with
  | nil => intro n; simp; exact .nil
  | cons r t ih => intro n; cases n with
    | zero => exact .nil
    | succ n => exact .cons r (ih n)
theorem A2r.drop {α : Type} {R : PRep α} {h : Hp} {xs : List V} {ds : List α} (a : A2r R h xs ds) : ∀ n, A2r R h (xs.drop n) (ds.drop n) := by
  induction a with
  | nil => intro n; simp; exact .nil
  | cons r t ih => intro n; cases n with
    | zero => exact .cons r t
    | succ n => exact ih n
theorem A2r.snoc {α : Type} {R : PRep α} {h : Hp} {xs : List V} {ds : List α} {x : V} {d : α} (a : A2r R h xs ds) (r : R.rel h x d) : A2r R h (xs ++ [x]) (ds ++ [d]) := A2.append a (.cons r .nil)
theorem A2r.app {α : Type} {R : PRep α} {h : Hp} {xs ys : List V} {ds es : List α} (a : A2r R h xs ds) (r : A2r R h ys es) : A2r R h (xs ++ ys) (ds ++ es) := A2.append a r
def rInt : PRep Int where
  rel := fun _ v d => v = .int d
  mono := fun _ h => h
  enc := .int
  dp := fun h => by subst h; exact .int _
  ok := fun _ => rfl
  dep := 0
  hdep := fun _ => Nat.le_refl _
  eqv := fun a b => by simp [PyData.eqv]
def rBl : PRep Bool where
  rel := fun _ v d => v = .bl d
  mono := fun _ h => h
  enc := .bool
  dp := fun h => by subst h; exact .bl _
  ok := fun _ => rfl
  dep := 0
  hdep := fun _ => Nat.le_refl _
  eqv := fun a b => by simp [PyData.eqv]
def rStr : PRep Str where
  rel := fun _ v d => v = .str d ∧ PySem.PyData.canLay0 (.str d) = true
  mono := fun _ h => h
  enc := .str
  dp := fun h => by obtain ⟨h, _⟩ := h; subst h; exact .str _
  ok := fun h => h.2
  dep := 0
  hdep := fun _ => Nat.le_refl _
  eqv := fun a b => by simp [PyData.eqv]
def vOpt : Option Str → V | none => .non | some s => .str s
def eOpt : Option Str → PyData | none => .none | some s => .str s
def rOpt : PRep (Option Str) where
  rel := fun _ v d => v = vOpt d ∧ PySem.PyData.canLay0 (eOpt d) = true
  mono := fun _ h => h
  enc := eOpt
  dp := fun {K h v d} q => by obtain ⟨q, _⟩ := q; subst q; cases d with
    | none => exact .non
    | some s => exact .str _
  ok := fun h => h.2
  dep := 0
  hdep := fun d => by cases d <;> exact Nat.le_refl _
  eqv := fun a b => by cases a <;> cases b <;> simp [PyData.eqv, eOpt]
theorem sInt : SRep rInt V.int := ⟨fun h => h⟩
theorem sBl : SRep rBl V.bl := ⟨fun h => h⟩
theorem sStr : SRep rStr V.str := ⟨fun h => h.1⟩
theorem sOpt : SRep rOpt vOpt := ⟨fun h => h.1⟩
theorem depth_tup {ds : List PyData} {n : Nat} (h : PyData.depthAll ds ≤ n) : (PyData.tuple ds).depth ≤ n + 1 := by simp only [PyData.depth]; omega
section
variable {α β γ δ : Type}
def rPair (R : PRep α) (S : PRep β) : PRep (α × β) where
  rel := fun h v d => ∃ a x y, v = .ref a ∧ h a = some (.tup [x, y]) ∧ R.rel h x d.1 ∧ S.rel h y d.2
  mono := fun t ⟨a, x, y, e, h, r, s⟩ => ⟨a, x, y, e, t _ _ h, R.mono t r, S.mono t s⟩
  enc := fun d => .tuple [R.enc d.1, S.enc d.2]
  dp := fun ⟨a, x, y, e, h, r, s⟩ => by subst e; exact .tup (SqT.of h) (.cons (R.dp r) (.cons (S.dp s) .nil))
  ok := fun ⟨a, x, y, e, h, r, s⟩ => by simp only [PyData.canLay0, PyData.canLayAll0, R.ok r, S.ok s, Bool.and_self]
  dep := max R.dep S.dep + 1
  hdep := fun d => depth_tup (by simp only [PyData.depthAll]; have := R.hdep d.1; have := S.hdep d.2; omega)
  eqv := fun a b => by simp only [PyData.eqv, PyData.eqvAll, Bool.and_true, Bool.and_eq_true, R.eqv, S.eqv]; exact ⟨fun ⟨x, y⟩ => Prod.ext x y, fun e => by subst e; exact ⟨rfl, rfl⟩⟩
def rTri (R : PRep α) (S : PRep β) (U : PRep γ) : PRep (α × β × γ) where
  rel := fun h v d => ∃ a x y z, v = .ref a ∧ h a = some (.tup [x, y, z]) ∧ R.rel h x d.1 ∧ S.rel h y d.2.1 ∧ U.rel h z d.2.2
  mono := fun t ⟨a, x, y, z, e, h, r, s, u⟩ => ⟨a, x, y, z, e, t _ _ h, R.mono t r, S.mono t s, U.mono t u⟩
  enc := fun d => .tuple [R.enc d.1, S.enc d.2.1, U.enc d.2.2]
  dp := fun ⟨a, x, y, z, e, h, r, s, u⟩ => by subst e; exact .tup (SqT.of h) (.cons (R.dp r) (.cons (S.dp s) (.cons (U.dp u) .nil)))
  ok := fun ⟨a, x, y, z, e, h, r, s, u⟩ => by simp only [PyData.canLay0, PyData.canLayAll0, R.ok r, S.ok s, U.ok u, Bool.and_self]
  dep := max R.dep (max S.dep U.dep) + 1
  hdep := fun d => depth_tup (by simp only [PyData.depthAll]; have := R.hdep d.1; have := S.hdep d.2.1; have := U.hdep d.2.2; omega)
  eqv := fun a b => by
    simp only [PyData.eqv, PyData.eqvAll, Bool.and_true, Bool.and_eq_true, R.eqv, S.eqv, U.eqv]
    exact ⟨fun ⟨x, y, z⟩ => Prod.ext x (Prod.ext y z), fun e => by subst e; exact ⟨rfl, rfl, rfl⟩⟩
def rQuad (R : PRep α) (S : PRep β) (U : PRep γ) (W : PRep δ) : PRep (α × β × γ × δ) where
  rel := fun h v d => ∃ a x y z w, v = .ref a ∧ h a = some (.tup [x, y, z, w]) ∧ R.rel h x d.1 ∧ S.rel h y d.2.1 ∧ U.rel h z d.2.2.1 ∧ W.rel h w d.2.2.2
  mono := fun t ⟨a, x, y, z, w, e, h, r, s, u, k⟩ => ⟨a, x, y, z, w, e, t _ _ h, R.mono t r, S.mono t s, U.mono t u, W.mono t k⟩
  enc := fun d => .tuple [R.enc d.1, S.enc d.2.1, U.enc d.2.2.1, W.enc d.2.2.2]
  dp := fun ⟨a, x, y, z, w, e, h, r, s, u, k⟩ => by subst e; exact .tup (SqT.of h) (.cons (R.dp r) (.cons (S.dp s) (.cons (U.dp u) (.cons (W.dp k) .nil))))
  ok := fun ⟨a, x, y, z, w, e, h, r, s, u, k⟩ => by simp only [PyData.canLay0, PyData.canLayAll0, R.ok r, S.ok s, U.ok u, W.ok k, Bool.and_self]
  dep := max R.dep (max S.dep (max U.dep W.dep)) + 1
  hdep := fun d => depth_tup (by simp only [PyData.depthAll]; have := R.hdep d.1; have := S.hdep d.2.1; have := U.hdep d.2.2.1; have := W.hdep d.2.2.2; omega)
  eqv := fun a b => by
    simp only [PyData.eqv, PyData.eqvAll, Bool.and_true, Bool.and_eq_true, R.eqv, S.eqv, U.eqv, W.eqv]
    exact ⟨fun ⟨x, y, z, w⟩ => Prod.ext x (Prod.ext y (Prod.ext z w)), fun e => by subst e; exact ⟨rfl, rfl, rfl, rfl⟩⟩
/-- a tuple of any number of such -/
def rTl (R : PRep α) : PRep (List α) where
  rel := fun h v ds => ∃ a xs, v = .ref a ∧ h a = some (.tup xs) ∧ A2r R h xs ds
  mono := fun t ⟨a, xs, e, h, r⟩ => ⟨a, xs, e, t _ _ h, r.mono t⟩
  enc := fun ds => .tuple (ds.map R.enc)
  dp := fun ⟨a, xs, e, h, r⟩ => by subst e; exact .tup (SqT.of h) r.dp
  ok := fun ⟨a, xs, e, h, r⟩ => by simp only [PyData.canLay0]; exact r.ok
  dep := R.dep + 1
  hdep := fun ds => depth_tup (depthAll_le ds)
  eqv := fun a b => by simp only [PyData.eqv]; exact eqvAll_iff a b
/-- a list of such, in one piece -/
def LstR (R : PRep α) (l : Addr) (ds : List α) : SA := fun h => ∃ xs, h l = some (.lst xs) ∧ A2r R h xs ds
def Val (R : PRep α) (v : V) (d : α) : SA := fun h => R.rel h v d
theorem Val.pers {R : PRep α} {v : V} {d : α} : Pers (Val R v d) := fun _ _ t r => R.mono t r
end
/-! ### rows entailed -/
def Ent (T : List (Addr × Str)) (L L' : List SA) : Prop := ∀ H, Hs T L H → Hs T L' H
section
variable {T : List (Addr × Str)} {L L' L1 L2 R W : List SA} {A B : SA}
theorem Ent.refl : Ent T L L := fun _ h => h
theorem Ent.trans (a : Ent T L L1) (b : Ent T L1 L2) : Ent T L L2 := fun H h => b H (a H h)
theorem Ent.tk (t : Tk L W R) : Ent T L (W ++ R) := fun _ h => h.take t
theorem Ent.only (t : Tk L W R) : Ent T L W := fun _ h => h.only t
theorem Ent.perm (p : L.Perm L') : Ent T L L' := fun _ h => h.perm p
theorem Ent.imp (f : ∀ h, A h → B h) : Ent T (A :: L) (B :: L) := fun H h => h.imp f
theorem Ent.fold : Ent T (L1 ++ L) ((fun g => Pcs L1 g) :: L) := fun H h => ⟨h.tabs, h.pcs.fold⟩
theorem Ent.unf : Ent T ((fun g => Pcs L1 g) :: L) (L1 ++ L) := fun H h => ⟨h.tabs, h.pcs.unf⟩
/-- a rewriting of what was taken out -/
theorem Ent.at (t : Tk L W R) (e : Ent T (W ++ R) L') : Ent T L L' := fun H h => e H (h.take t)
end
/-- rows that the rows at hand hold, found piece by piece -/
def Fit (L W : List SA) : Prop := ∀ H, Pcs L H → Pcs W H
def Cv (A B : SA) : Prop := ∀ h, A h → B h
theorem Cv.id {A : SA} : Cv A A := fun _ h => h
theorem Cv.pt {a : Addr} {o o' : HO} (e : o = o') : Cv (pt a o) (pt a o') := fun _ h => by rw [← e]; exact h
theorem Cv.lst {α : Type} {R : PRep α} {a : Addr} {ds ds' : List α} (e : ds = ds') : Cv (LstR R a ds) (LstR R a ds') := fun _ h => by rw [← e]; exact h
theorem Cv.val {α : Type} {R : PRep α} {v : V} {d d' : α} (e : d = d') : Cv (Val R v d) (Val R v d') := fun _ h => by rw [← e]; exact h
theorem Cv.lst0 {α : Type} {R : PRep α} {a : Addr} : Cv (SW.pt a (.lst [])) (LstR R a []) := fun h e => ⟨[], e, .nil⟩
theorem Cv.fold {L W : List SA} (f : Fit L W) : Cv (fun g => Pcs L g) (fun g => Pcs W g) := fun h p => f h p
theorem Pcs.cons2 {A B : SA} {L W : List SA} {H : Hp} (c : Cv A B) (t : Fit L W) (h : Pcs (A :: L) H) : Pcs (B :: W) H := by
  have k : Pcs (L ++ [A]) H := h.perm (List.perm_append_comm (l₁ := [A]) (l₂ := L))
  have k2 : Pcs ((fun g => Pcs L g) :: [A]) H := k.fold
  have k3 : Pcs ((fun g => Pcs W g) :: [A]) H := k2.imp fun g hg => t g hg
  have k4 := k3.unf.perm (List.perm_append_comm (l₁ := W) (l₂ := [A]))
  exact Pcs.imp (fun g x => c g x) k4
theorem Fit.refl {L : List SA} : Fit L L := fun _ h => h
theorem Fit.nil {L : List SA} : Fit L [] := fun _ _ => Pcs.nil
theorem Fit.drop {A : SA} {L W : List SA} (t : Fit L W) : Fit (A :: L) W := fun H h => t H h.tail
theorem Fit.cons {L R W : List SA} {A B : SA} (s : Sel L A R) (c : Cv A B) (t : Fit R W) : Fit L (B :: W) := fun H h => (h.perm s.perm).cons2 c t
theorem Fit.ent {T : List (Addr × Str)} {L W : List SA} (f : Fit L W) : Ent T L W := fun H h => ⟨h.tabs, f H h.pcs⟩
/-- one wished for piece, found -/
inductive SelC : List SA → SA → List SA → Prop
  | here {A B L} (c : Cv A B) : SelC (A :: L) B L
  | there {A B L R} (s : SelC L B R) : SelC (A :: L) B (A :: R)
theorem SelC.ex {L R : List SA} {B : SA} (h : SelC L B R) : ∃ A, Sel L A R ∧ Cv A B := by
  induction h with
  | here c => exact ⟨_, .here, c⟩
  | there _ ih => obtain ⟨A, s, c⟩ := ih; exact ⟨A, .there s, c⟩
theorem Fit.find {L R W : List SA} {B : SA} (s : SelC L B R) (t : Fit R W) : Fit L (B :: W) := by
  obtain ⟨A, s, c⟩ := s.ex
  exact .cons s c t
end SW
set_option Elab.async false
set_option linter.all false
set_option maxRecDepth 100000
set_option maxHeartbeats 2000000
/-! Sw5: what values stand for; lists, tuples, targets, loops, comprehensions. -/
namespace SW
open PySem PySem.Spec L2
open PyProof.Rows hiding St
/-! ### v stands for d -/
def Rv (T : List (Addr × Str)) (L : List SA) {α : Type} (v : V) (R : PRep α) (d : α) : Prop := ∀ H, Hs T L H → R.rel H v d
structure Scal {α : Type} (R : PRep α) (f : α → V) (good : α → Prop) : Prop where
  to : ∀ {h : Hp} {v : V} {d : α}, R.rel h v d → v = f d ∧ good d
  of : ∀ {h : Hp} {d : α}, good d → R.rel h (f d) d
def strGood (s : Str) : Prop := PyData.canLay0 (.str s) = true
def optGood (s : Option Str) : Prop := PyData.canLay0 (eOpt s) = true
theorem cInt : Scal rInt V.int (fun _ => True) := ⟨fun h => ⟨h, True.intro⟩, fun _ => rfl⟩
theorem cBl : Scal rBl V.bl (fun _ => True) := ⟨fun h => ⟨h, True.intro⟩, fun _ => rfl⟩
theorem cStr : Scal rStr V.str strGood := ⟨fun h => h, fun h => ⟨rfl, h⟩⟩
theorem cOpt : Scal rOpt vOpt optGood := ⟨fun h => h, fun h => ⟨rfl, h⟩⟩
section
variable {T : List (Addr × Str)} {L L' R' : List SA} {α β γ δ : Type} {R : PRep α} {S : PRep β} {U : PRep γ} {W : PRep δ} {v x y z w : V} {a : Addr}
theorem rv_val {d : α} (s : Sel L (Val R v d) R') : Rv T L v R d := fun H h => h.getP Val.pers s
theorem rv_scal {f : α → V} {g : α → Prop} {d : α} (c : Scal R f g) (h : g d) : Rv T L (f d) R d := fun _ _ => c.of h
theorem rv_int {i : Int} : Rv T L (.int i) rInt i := fun _ _ => rfl
theorem rv_bl {i : Bool} : Rv T L (.bl i) rBl i := fun _ _ => rfl
theorem rv_str {s : Str} (h : strGood s) : Rv T L (.str s) rStr s := fun _ _ => ⟨rfl, h⟩
theorem rv_pair {d : α} {e : β} (s : Sel L (pt a (.tup [x, y])) R') (h1 : Rv T L x R d) (h2 : Rv T L y S e) : Rv T L (.ref a) (rPair R S) (d, e) := fun H h => ⟨a, x, y, rfl, h.at s, h1 H h, h2 H h⟩
theorem rv_tri {d : α} {e : β} {c : γ} (s : Sel L (pt a (.tup [x, y, z])) R') (h1 : Rv T L x R d) (h2 : Rv T L y S e) (h3 : Rv T L z U c) : Rv T L (.ref a) (rTri R S U) (d, e, c) := fun H h => ⟨a, x, y, z, rfl, h.at s, h1 H h, h2 H h, h3 H h⟩
theorem rv_quad {d : α} {e : β} {c : γ} {b : δ} (s : Sel L (pt a (.tup [x, y, z, w])) R') (h1 : Rv T L x R d) (h2 : Rv T L y S e) (h3 : Rv T L z U c) (h4 : Rv T L w W b) : Rv T L (.ref a) (rQuad R S U W) (d, e, c, b) :=
  fun H h => ⟨a, x, y, z, w, rfl, h.at s, h1 H h, h2 H h, h3 H h, h4 H h⟩
theorem rv_tl0 {R : PRep α} (s : Sel L (pt a (.tup [])) R') : Rv T L (.ref a) (rTl R) [] := fun H h => ⟨a, [], rfl, h.at s, .nil⟩
/-- keep a fact -/
theorem GE.note {X : Cx} {e : Expr} {σ : St} {K : GK} {d : α} (r : Rv T L v R d) (h : GE T X e σ (Val R v d :: L) K) : GE T X e σ L K := fun H hs Q q => h H (hs.addP Val.pers (r H hs)) Q q
/-! ### equality of data -/
def Sees (T : List (Addr × Str)) (KK : PySem.W.Frag) (L : List SA) (v : V) (d : PyData) : Prop := ∀ H, Hs T L H → Dp KK H v d ∧ SeqAt.shaped d = true
theorem shaped_of {d : PyData} (h : d.canLay0 = true) (n : d.depth ≤ 64) : SeqAt.shaped d = true := by unfold SeqAt.shaped; rw [h, Bool.true_and]; exact decide_eq_true n
theorem sees_rv {KK : PySem.W.Frag} {d : α} (r : Rv T L v R d) (n : R.dep ≤ 64) : Sees T KK L v (R.enc d) := fun H h => ⟨R.dp (r H h), shaped_of (R.ok (r H h)) (Nat.le_trans (R.hdep d) n)⟩
theorem depth_lst {ds : List PyData} {n : Nat} (h : PyData.depthAll ds ≤ n) : (PyData.list ds).depth ≤ n + 1 := by simp only [PyData.depth]; omega
theorem sees_lst {KK : PySem.W.Frag} {l : Addr} {ds : List α} (s : Sel L (LstR R l ds) R') (n : R.dep ≤ 63) : Sees T KK L (.ref l) (.list (ds.map R.enc)) := fun H h =>
  h.factP (fun g ⟨xs, e, r⟩ sub => ⟨.lst (SqL.of (sub l _ e).1) (r.mono sub.tup).dp, shaped_of (by simp only [PyData.canLay0]; exact r.ok) (Nat.le_trans (depth_lst (depthAll_le ds)) (by omega))⟩) s
theorem a2_map {f : α → V} {g : α → Prop} (c : Scal R f g) {h : Hp} {ds : List α} (k : ∀ d ∈ ds, g d) : A2r R h (ds.map f) ds := by
  induction ds with
  | nil => exact .nil
  | cons d ds ih => exact .cons (c.of (k d List.mem_cons_self)) (ih fun e he => k e (List.mem_cons_of_mem _ he))
theorem a2_scal {f : α → V} {g : α → Prop} (c : Scal R f g) {h : Hp} {xs : List V} {ds : List α} (k : A2r R h xs ds) : xs = ds.map f ∧ ∀ d ∈ ds, g d := by
  induction k with
  | nil => exact ⟨rfl, fun _ h => nomatch h⟩
  | cons r _ ih =>
    obtain ⟨e, q⟩ := c.to r
    refine ⟨by rw [e, ih.1]; rfl, fun d hd => ?_⟩
    rcases List.mem_cons.mp hd with rfl | hd
    · exact q
    · exact ih.2 d hd
theorem lstR_pt {f : α → V} {g : α → Prop} (c : Scal R f g) {l : Addr} {ds : List α} (k : ∀ d ∈ ds, g d) (h : Hp) (e : pt l (.lst (ds.map f)) h) : LstR R l ds h := ⟨_, e, a2_map c k⟩
theorem sees_pt {KK : PySem.W.Frag} {f : α → V} {g : α → Prop} (c : Scal R f g) {l : Addr} {ds : List α} (s : Sel L (pt l (.lst (ds.map f))) R') (k : ∀ d ∈ ds, g d) (n : R.dep ≤ 63) : Sees T KK L (.ref l) (.list (ds.map R.enc)) := fun H h => by
  have r : A2r R H (ds.map f) ds := a2_map c k
  exact ⟨.lst (SqL.of (h.at s)) r.dp, shaped_of (by simp only [PyData.canLay0]; exact r.ok) (Nat.le_trans (depth_lst (depthAll_le ds)) (by omega))⟩
theorem sees_nil {KK : PySem.W.Frag} {l : Addr} (s : Sel L (pt l (.lst [])) R') : Sees T KK L (.ref l) (.list []) := fun H h => ⟨.lst (SqL.of (h.at s)) .nil, rfl⟩
theorem sees_nilT {KK : PySem.W.Frag} {l : Addr} (s : Sel L (pt l (.tup [])) R') : Sees T KK L (.ref l) (.tuple []) := fun H h => ⟨.tup (SqT.of (h.at s)) .nil, rfl⟩
variable {X : Cx} {K : GK} {D : EndsL} {σ : St}
theorem go_eqE {dx dy : PyData} {b : Bool} {k : Nat} (hr : Room k X.A) (h1 : Sees T X.K L x dx) (h2 : Sees T X.K L y dy) (e : PyData.eqv dx dy = b) (q : K (.bl b) L) : GOp T X (compareOp .Eq) x y L K :=
  GOp.of (op_eqD hr.units) fun H hs Q q' => ⟨dx, dy, (h1 H hs).1, (h2 H hs).1, (h1 H hs).2, (h2 H hs).2, q' _ _ _ (by rw [e]; exact q) hs⟩
theorem go_neE {dx dy : PyData} {b : Bool} {k : Nat} (hr : Room k X.A) (h1 : Sees T X.K L x dx) (h2 : Sees T X.K L y dy) (e : PyData.eqv dx dy = b) (q : K (.bl (!b)) L) : GOp T X (compareOp .NotEq) x y L K :=
  GOp.of (op_neD hr.units) fun H hs Q q' => ⟨dx, dy, (h1 H hs).1, (h2 H hs).1, (h1 H hs).2, (h2 H hs).2, q' _ _ _ (by rw [e]; exact q) hs⟩
theorem bool_dec {b : Bool} {p : Prop} [Decidable p] (h : b = true ↔ p) : b = decide p := by
  cases b with
  | true => exact (decide_eq_true (h.mp rfl)).symm
  | false => exact (decide_eq_false fun q => by have := h.mpr q; cases this).symm
theorem eqv_lst [DecidableEq α] (as bs : List α) : PyData.eqv (.list (as.map R.enc)) (.list (bs.map R.enc)) = decide (as = bs) := bool_dec (by simp only [PyData.eqv]; exact eqvAll_iff as bs)
theorem eqv_enc [DecidableEq α] (a b : α) : PyData.eqv (R.enc a) (R.enc b) = decide (a = b) := bool_dec (R.eqv a b)
theorem eqv_nil [DecidableEq α] (as : List α) : PyData.eqv (.list (as.map R.enc)) (.list []) = decide (as = []) := by
  cases as with
  | nil => rfl
  | cons a as => rfl
theorem eqv_nilT [DecidableEq α] (as : List α) : PyData.eqv (.tuple (as.map R.enc)) (.tuple []) = decide (as = []) := by
  cases as with
  | nil => rfl
  | cons a as => rfl
/-! ### items of tuples -/
theorem GIx.fact {φ : Prop} {i : V} (f : ∀ H, Hs T L H → φ) (h : φ → GIx T X x i L K) : GIx T X x i L K := fun H hs Q q => h (f H hs) H hs Q q
theorem gi_of {p : Addr} {xs : List V} {i : Int} {v : V} (f : ∀ H, Hs T L H → H p = some (.tup xs)) (ha : atI xs i = some v) (k : K v L) : GIx T X (.ref p) (.int i) L K :=
  GIx.of ix_tup fun H hs Q q => ⟨p, xs, i, v, rfl, rfl, SqT.of (f H hs), ha, q _ L H k hs⟩
theorem gi_pair {f : α → V} {g : β → V} {cf : α → Prop} {cg : β → Prop} (c1 : Scal R f cf) (c2 : Scal S g cg) {d : α × β} {i : Int} {u : V} (r : Rv T L v (rPair R S) d) (ha : atI [f d.1, g d.2] i = some u) (k : K u L) : GIx T X v (.int i) L K := by
  intro H hs Q q
  obtain ⟨a, x, y, rfl, e, h1, h2⟩ := r H hs
  obtain ⟨rfl, _⟩ := c1.to h1
  obtain ⟨rfl, _⟩ := c2.to h2
  exact GIx.of ix_tup (fun H' hs' Q' (q' : ∀ v L' H', K v L' → Hs T L' H' → Q' v H') => by
    obtain ⟨a', x', y', ea, e', h1', h2'⟩ := r H' hs'
    cases ea
    obtain ⟨rfl, _⟩ := c1.to h1'
    obtain ⟨rfl, _⟩ := c2.to h2'
    exact ⟨a, _, i, u, rfl, rfl, SqT.of e', ha, q' _ _ _ k hs'⟩) H hs Q q
theorem gi_tri {f : α → V} {g : β → V} {j : γ → V} {cf : α → Prop} {cg : β → Prop} {cj : γ → Prop} (c1 : Scal R f cf) (c2 : Scal S g cg) (c3 : Scal U j cj) {d : α × β × γ} {i : Int} {u : V} (r : Rv T L v (rTri R S U) d) (ha : atI [f d.1, g d.2.1, j d.2.2] i = some u) (k : K u L) : GIx T X v (.int i) L K := by
  intro H hs Q q
  obtain ⟨a, x, y, z, rfl, _⟩ := r H hs
  exact GIx.of ix_tup (fun H' hs' Q' (q' : ∀ v L' H', K v L' → Hs T L' H' → Q' v H') => by
    obtain ⟨a', x', y', z', ea, e', h1', h2', h3'⟩ := r H' hs'
    cases ea
    obtain ⟨rfl, _⟩ := c1.to h1'
    obtain ⟨rfl, _⟩ := c2.to h2'
    obtain ⟨rfl, _⟩ := c3.to h3'
    exact ⟨a, _, i, u, rfl, rfl, SqT.of e', ha, q' _ _ _ k hs'⟩) H hs Q q
theorem gi_quad {f : α → V} {g : β → V} {j : γ → V} {m : δ → V} {cf : α → Prop} {cg : β → Prop} {cj : γ → Prop} {cm : δ → Prop} (c1 : Scal R f cf) (c2 : Scal S g cg) (c3 : Scal U j cj) (c4 : Scal W m cm) {d : α × β × γ × δ} {i : Int} {u : V} (r : Rv T L v (rQuad R S U W) d)
    (ha : atI [f d.1, g d.2.1, j d.2.2.1, m d.2.2.2] i = some u) (k : K u L) : GIx T X v (.int i) L K := by
  intro H hs Q q
  obtain ⟨a, x, y, z, w, rfl, _⟩ := r H hs
  exact GIx.of ix_tup (fun H' hs' Q' (q' : ∀ v L' H', K v L' → Hs T L' H' → Q' v H') => by
    obtain ⟨a', x', y', z', w', ea, e', h1', h2', h3', h4'⟩ := r H' hs'
    cases ea
    obtain ⟨rfl, _⟩ := c1.to h1'
    obtain ⟨rfl, _⟩ := c2.to h2'
    obtain ⟨rfl, _⟩ := c3.to h3'
    obtain ⟨rfl, _⟩ := c4.to h4'
    exact ⟨a, _, i, u, rfl, rfl, SqT.of e', ha, q' _ _ _ k hs'⟩) H hs Q q
/-- an item of a list of data -/
theorem gi_lstR {l : Addr} {ds : List α} {n : Nat} {d : α} (s : Sel L (LstR R l ds) R') (e : ds[n]? = some d) (k : ∀ v, K v (Val R v d :: L)) : GIx T X (.ref l) (.int (n : Int)) L K := by
  intro H hs Q q
  obtain ⟨xs, x, h1, h2, h3⟩ : ∃ xs x, H l = some (.lst xs) ∧ xs[n]? = some x ∧ R.rel H x d := hs.factP (fun g ⟨xs, e1, r⟩ sub => by
    obtain ⟨x, e2, r2⟩ := r.get e
    exact ⟨xs, x, (sub l _ e1).1, e2, R.mono sub.tup r2⟩) s
  intro value slice pins s' σ v u I rx ry z
  exact ix_list value slice pins s' σ H (.ref l) (.int n) v u Q I rx ry ⟨l, xs, (n : Int), x, rfl, rfl, SqL.of h1, atI_nat h2, q _ _ _ (k x) (hs.addP Val.pers h3)⟩ z
theorem gi_lstS {f : α → V} {l : Addr} {ds : List α} {n : Nat} {d : α} (s : Sel L (pt l (.lst (ds.map f))) R') (e : ds[n]? = some d) (k : K (f d) L) : GIx T X (.ref l) (.int (n : Int)) L K :=
  gi_lst s (atI_nat (by rw [List.getElem?_map, e]; rfl)) k
/-! ### targets -/
theorem ggs_nil {K : St → List SA → Prop} (k : K σ L) : GGs T X [] [] σ L K := GGs.of pgs_nil fun H hs Q q => ⟨rfl, q _ _ _ k hs⟩
theorem ggs_cons {e : Expr} {es : List Expr} {vs : List V} {K : St → List SA → Prop} (hst : (assignEach (e :: es) X.env).map (·.2) = assign e X.env :: (assignEach es X.env).map (·.2))
    (h : GG T X e v σ L fun σ1 L1 => GGs T X es vs σ1 L1 K) : GGs T X (e :: es) (v :: vs) σ L K :=
  GGs.of (pgs_cons pgW pgsW hst) fun H hs Q q => ⟨v, vs, rfl, h H hs _ fun σ1 L1 H1 k1 h1 => k1 H1 h1 Q q⟩
theorem gg_tupF {es : List Expr} {k : Nat} {p : Pos} {xs : List V} {K : St → List SA → Prop} (hc : X.calm = true) (hn : (assignEach es X.env).length = xs.length) (hst : (assignEach es X.env).findIdx? (·.1) = none)
    (f : ∀ H, Hs T L H → H a = some (.tup xs)) (h : GGs T X es xs σ L K) : GG T X (.Tuple es k p) (.ref a) σ L K :=
  GG.of (pg_tup hc pgsW hn hst) fun H hs Q q => ⟨a, xs, rfl, SqT.of (f H hs), rfl, h H hs Q q⟩
theorem gg_tup {es : List Expr} {k : Nat} {p : Pos} {xs : List V} {K : St → List SA → Prop} (hc : X.calm = true) (s : Sel L (pt a (.tup xs)) R') (hn : (assignEach es X.env).length = xs.length) (hst : (assignEach es X.env).findIdx? (·.1) = none)
    (h : GGs T X es xs σ L K) : GG T X (.Tuple es k p) (.ref a) σ L K := gg_tupF hc hn hst (fun H hs => hs.at s) h
theorem gg_pair {f : α → V} {g : β → V} {cf : α → Prop} {cg : β → Prop} {es : List Expr} {k : Nat} {p : Pos} {K : St → List SA → Prop} (c1 : Scal R f cf) (c2 : Scal S g cg) {d : α × β} (r : Rv T L v (rPair R S) d) (hc : X.calm = true) (hn : (assignEach es X.env).length = 2) (hst : (assignEach es X.env).findIdx? (·.1) = none)
    (h : cf d.1 → cg d.2 → GGs T X es [f d.1, g d.2] σ L K) : GG T X (.Tuple es k p) v σ L K := by
  intro H hs Q q
  obtain ⟨a, x, y, rfl, e, h1, h2⟩ := r H hs
  obtain ⟨rfl, k1⟩ := c1.to h1
  obtain ⟨rfl, k2⟩ := c2.to h2
  refine gg_tupF hc (xs := [f d.1, g d.2]) hn hst (fun H' hs' => ?_) (h k1 k2) H hs Q q
  obtain ⟨a', x', y', ea, e', h1', h2'⟩ := r H' hs'
  cases ea
  obtain ⟨rfl, _⟩ := c1.to h1'
  obtain ⟨rfl, _⟩ := c2.to h2'
  exact e'
theorem gg_tri {f : α → V} {g : β → V} {j : γ → V} {cf : α → Prop} {cg : β → Prop} {cj : γ → Prop} {es : List Expr} {k : Nat} {p : Pos} {K : St → List SA → Prop} (c1 : Scal R f cf) (c2 : Scal S g cg) (c3 : Scal U j cj) {d : α × β × γ} (r : Rv T L v (rTri R S U) d) (hc : X.calm = true) (hn : (assignEach es X.env).length = 3) (hst : (assignEach es X.env).findIdx? (·.1) = none)
    (h : cf d.1 → cg d.2.1 → cj d.2.2 → GGs T X es [f d.1, g d.2.1, j d.2.2] σ L K) : GG T X (.Tuple es k p) v σ L K := by
  intro H hs Q q
  obtain ⟨a, x, y, z, rfl, e, h1, h2, h3⟩ := r H hs
  obtain ⟨rfl, k1⟩ := c1.to h1
  obtain ⟨rfl, k2⟩ := c2.to h2
  obtain ⟨rfl, k3⟩ := c3.to h3
  refine gg_tupF hc (xs := [f d.1, g d.2.1, j d.2.2]) hn hst (fun H' hs' => ?_) (h k1 k2 k3) H hs Q q
  obtain ⟨a', x', y', z', ea, e', h1', h2', h3'⟩ := r H' hs'
  cases ea
  obtain ⟨rfl, _⟩ := c1.to h1'
  obtain ⟨rfl, _⟩ := c2.to h2'
  obtain ⟨rfl, _⟩ := c3.to h3'
  exact e'
theorem gg_quad {f : α → V} {g : β → V} {j : γ → V} {m : δ → V} {cf : α → Prop} {cg : β → Prop} {cj : γ → Prop} {cm : δ → Prop} {es : List Expr} {k : Nat} {p : Pos} {K : St → List SA → Prop} (c1 : Scal R f cf) (c2 : Scal S g cg) (c3 : Scal U j cj) (c4 : Scal W m cm) {d : α × β × γ × δ} (r : Rv T L v (rQuad R S U W) d) (hc : X.calm = true) (hn : (assignEach es X.env).length = 4) (hst : (assignEach es X.env).findIdx? (·.1) = none)
    (h : cf d.1 → cg d.2.1 → cj d.2.2.1 → cm d.2.2.2 → GGs T X es [f d.1, g d.2.1, j d.2.2.1, m d.2.2.2] σ L K) : GG T X (.Tuple es k p) v σ L K := by
  intro H hs Q q
  obtain ⟨a, x, y, z, w, rfl, e, h1, h2, h3, h4⟩ := r H hs
  obtain ⟨rfl, k1⟩ := c1.to h1
  obtain ⟨rfl, k2⟩ := c2.to h2
  obtain ⟨rfl, k3⟩ := c3.to h3
  obtain ⟨rfl, k4⟩ := c4.to h4
  refine gg_tupF hc (xs := [f d.1, g d.2.1, j d.2.2.1, m d.2.2.2]) hn hst (fun H' hs' => ?_) (h k1 k2 k3 k4) H hs Q q
  obtain ⟨a', x', y', z', w', ea, e', h1', h2', h3', h4'⟩ := r H' hs'
  cases ea
  obtain ⟨rfl, _⟩ := c1.to h1'
  obtain ⟨rfl, _⟩ := c2.to h2'
  obtain ⟨rfl, _⟩ := c3.to h3'
  obtain ⟨rfl, _⟩ := c4.to h4'
  exact e'
end
/-! ### loops -/
section
variable {T : List (Addr × Str)} {X : Cx} {σ : St} {L R' : List SA} {D : EndsL} {tg iter : Expr} {body : List Stmt} {pos : Pos} {α : Type} {R : PRep α}
/-- weaken to an invariant -/
def Fits (T : List (Addr × Str)) (inv : St → List SA → Prop) : St → List SA → Prop := fun σ L => ∃ W, Ent T L W ∧ inv σ W
theorem Fits.mk {inv : St → List SA → Prop} {W : List SA} (h : inv σ W) (t : Ent T L W) : Fits T inv σ L := ⟨W, t, h⟩
theorem fits_hs {inv : St → List SA → Prop} {H : Hp} (f : Fits T inv σ L) (h : Hs T L H) : ∃ W, inv σ W ∧ Hs T W H := by
  obtain ⟨W, t, i⟩ := f
  exact ⟨W, i, t H h⟩
/-- the walk of any iterator -/
theorem wfor (J : It) (n : Nat) (inv : Nat → St → List SA → Prop) (hstop : ∀ σ L H, inv n σ L → Hs T L H → J.stop n H) (hgo : ∀ i σ L H, i < n → inv i σ L → Hs T L H → J.go i H)
    (hstep : ∀ i σ L H, i < n → inv i σ L → Hs T L H → ∀ x H', J.yld i H x H' → ∃ L', Hs T L' H' ∧ GG T X tg x σ L' fun σ2 L2 => GSs T X body { D with nx := Fits T (inv (i + 1)), ct := Fits T (inv (i + 1)), bk := D.nx } σ2 L2)
    (hend : ∀ σ L, inv n σ L → D.nx σ L) {H : Hp} (hs : Hs T L H) (h0 : inv 0 σ L) {D0 : Ends} (l : D.Le T D0) :
    ∃ W : Nat → Nat → St → Hp → Prop, (∃ m, W 0 m σ H) ∧ ∀ i m σ H, W i m σ H →
      (J.stop i H ∧ D0.nx σ H) ∨ (J.go i H ∧ ∃ N : St → Hp → Prop, (∀ σ' H', N σ' H' → ∃ m', m' < m ∧ W (i + 1) m' σ' H') ∧ ∀ x H', J.yld i H x H' → gW X tg x σ H' fun σ2 H2 => ssW X body { D0 with nx := N, ct := N, bk := D0.nx } σ2 H2) := by
  refine ⟨fun i m σ H => m = n - i ∧ i ≤ n ∧ ∃ L, inv i σ L ∧ Hs T L H, ⟨n, by simp, Nat.zero_le _, L, h0, hs⟩, ?_⟩
  rintro i m σ H ⟨rfl, hi, L, iv, hs⟩
  by_cases hlt : i < n
  · refine .inr ⟨hgo i σ L H hlt iv hs, fun σ' H' => ∃ L', inv (i + 1) σ' L' ∧ Hs T L' H', fun σ' H' ⟨L', q, h'⟩ => ⟨n - (i + 1), by omega, rfl, hlt, L', q, h'⟩, fun x H' y => ?_⟩
    obtain ⟨L', h', g⟩ := hstep i σ L H hlt iv hs x H' y
    exact g H' h' _ fun σ2 L2 H2 k2 h2 => k2 H2 h2 _ ⟨fun σ3 L3 H3 k3 h3 => fits_hs k3 h3, l.rt, l.nx, fun σ3 L3 H3 k3 h3 => fits_hs k3 h3⟩
  · have e : i = n := by omega
    subst e
    exact .inl ⟨hstop σ L H iv hs, l.nx _ _ _ (hend σ L iv) hs⟩
/-- over a list, plain -/
theorem gs_forL (inv : Nat → St → List SA → Prop) (l : Addr) (xs : List V) (hp : PassesOwn (model X.prog X.w) X.A X.env X.xe) (hc : X.calm = true) (hf : ∀ x, foldedSetIterable iter X.env x = pure x)
    (h0 : GE T X iter σ L fun v L1 => v = .ref l ∧ inv 0 σ L1) (hl : ∀ i σ' L', inv i σ' L' → ∃ R, Sel L' (pt l (.lst xs)) R)
    (hs : ∀ i x σ' L', xs[i]? = some x → inv i σ' L' → GG T X tg x σ' L' fun σ2 L2 => GSs T X body { D with nx := Fits T (inv (i + 1)), ct := Fits T (inv (i + 1)), bk := D.nx } σ2 L2)
    (hd : ∀ σ' L', inv xs.length σ' L' → D.nx σ' L') : GS T X (.For tg iter body [] pos) D σ L := by
  refine GS.of (ps_for hp hc (pi_list peW) pgW pssW hf) fun H hh D0 le => h0 H hh _ fun v L1 H1 ⟨ev, iv⟩ h1 => ?_
  obtain ⟨R1, s1⟩ := hl _ _ _ iv
  refine ⟨l, ev, ⟨xs, SqL.of (h1.at s1)⟩, wfor (Itl X.K l) xs.length inv (fun σ L H i h => ?_) (fun i σ L H hi iv h => ?_) (fun i σ L H hi iv h x H' y => ?_) hd h1 iv le⟩
  · obtain ⟨R, s⟩ := hl _ _ _ i
    exact ⟨xs, SqL.of (h.at s), Nat.le_refl _⟩
  · obtain ⟨R, s⟩ := hl _ _ _ iv
    exact ⟨xs, xs[i], SqL.of (h.at s), by simp [hi]⟩
  · obtain ⟨R, s⟩ := hl _ _ _ iv
    obtain ⟨e, y⟩ := y
    subst e
    exact ⟨L, h, hs i x σ L (y xs (SqL.of (h.at s))) iv⟩
/-- over a list of data -/
theorem gs_forR (inv : Nat → St → List SA → Prop) (l : Addr) (R : PRep α) (ds : List α) (hp : PassesOwn (model X.prog X.w) X.A X.env X.xe) (hc : X.calm = true) (hf : ∀ x, foldedSetIterable iter X.env x = pure x)
    (h0 : GE T X iter σ L fun v L1 => v = .ref l ∧ inv 0 σ L1) (hl : ∀ i σ' L', inv i σ' L' → ∃ R0, Sel L' (LstR R l ds) R0)
    (hs : ∀ i d x σ' L', ds[i]? = some d → inv i σ' L' → GG T X tg x σ' (Val R x d :: L') fun σ2 L2 => GSs T X body { D with nx := Fits T (inv (i + 1)), ct := Fits T (inv (i + 1)), bk := D.nx } σ2 L2)
    (hd : ∀ σ' L', inv ds.length σ' L' → D.nx σ' L') : GS T X (.For tg iter body [] pos) D σ L := by
  have get : ∀ {i σ L H}, inv i σ L → Hs T L H → ∃ xs, H l = some (.lst xs) ∧ A2r R H xs ds := fun {i σ L H} iv h => by
    obtain ⟨R0, s⟩ := hl _ _ _ iv
    exact h.factP (fun g ⟨xs, e, r⟩ sub => ⟨xs, (sub l _ e).1, r.mono sub.tup⟩) s
  refine GS.of (ps_for hp hc (pi_list peW) pgW pssW hf) fun H hh D0 le => h0 H hh _ fun v L1 H1 ⟨ev, iv⟩ h1 => ?_
  obtain ⟨xs1, e1, _⟩ := get iv h1
  refine ⟨l, ev, ⟨xs1, SqL.of e1⟩, wfor (Itl X.K l) ds.length inv (fun σ L H i h => ?_) (fun i σ L H hi iv h => ?_) (fun i σ L H hi iv h x H' y => ?_) hd h1 iv le⟩
  · obtain ⟨xs, e, r⟩ := get i h
    exact ⟨xs, SqL.of e, Nat.le_of_eq r.length⟩
  · obtain ⟨xs, e, r⟩ := get iv h
    have : i < xs.length := by rw [r.length]; exact hi
    exact ⟨xs, xs[i], SqL.of e, by simp [this]⟩
  · obtain ⟨xs, e, r⟩ := get iv h
    obtain ⟨e2, y⟩ := y
    subst e2
    obtain ⟨d, hd', rr⟩ := r.get' (y xs (SqL.of e))
    exact ⟨_, h.addP Val.pers rr, hs i d x σ L hd' iv⟩
/-- over a tuple of data -/
theorem gs_forT (inv : Nat → St → List SA → Prop) (v0 : V) (R : PRep α) (ds : List α) (hp : PassesOwn (model X.prog X.w) X.A X.env X.xe) (hc : X.calm = true) (hf : ∀ x, foldedSetIterable iter X.env x = pure x)
    (h0 : GE T X iter σ L fun v L1 => v = v0 ∧ inv 0 σ L1) (hl : ∀ i σ' L', inv i σ' L' → Rv T L' v0 (rTl R) ds)
    (hs : ∀ i d x σ' L', ds[i]? = some d → inv i σ' L' → GG T X tg x σ' (Val R x d :: L') fun σ2 L2 => GSs T X body { D with nx := Fits T (inv (i + 1)), ct := Fits T (inv (i + 1)), bk := D.nx } σ2 L2)
    (hd : ∀ σ' L', inv ds.length σ' L' → D.nx σ' L') : GS T X (.For tg iter body [] pos) D σ L := by
  refine GS.of (ps_for hp hc (pi_tup peW) pgW pssW hf) fun H hh D0 le => h0 H hh _ fun v L1 H1 ⟨ev, iv⟩ h1 => ?_
  obtain ⟨l, xs1, ev0, e1, _⟩ := hl _ _ _ iv H1 h1
  subst ev
  subst ev0
  have get : ∀ {i σ L H}, inv i σ L → Hs T L H → ∃ xs, H l = some (.tup xs) ∧ A2r R H xs ds := fun {i σ L H} iv h => by
    obtain ⟨l', xs, ev, e, r⟩ := hl _ _ _ iv H h
    cases ev
    exact ⟨xs, e, r⟩
  refine ⟨l, rfl, ⟨xs1, SqT.of e1⟩, wfor (Itt X.K l) ds.length inv (fun σ L H i h => ?_) (fun i σ L H hi iv h => ?_) (fun i σ L H hi iv h x H' y => ?_) hd h1 iv le⟩
  · obtain ⟨xs, e, r⟩ := get i h
    exact ⟨xs, SqT.of e, Nat.le_of_eq r.length⟩
  · obtain ⟨xs, e, r⟩ := get iv h
    have : i < xs.length := by rw [r.length]; exact hi
    exact ⟨xs, xs[i], SqT.of e, by simp [this]⟩
  · obtain ⟨xs, e, r⟩ := get iv h
    obtain ⟨e2, y⟩ := y
    subst e2
    obtain ⟨d, hd', rr⟩ := r.get' (y xs (SqT.of e))
    exact ⟨_, h.addP Val.pers rr, hs i d x σ L hd' iv⟩
/-- over range(n) -/
theorem gs_forN {a : Expr} {p : Pos} (inv : Nat → St → List SA → Prop) (n : Int) (hp : PassesOwn (model X.prog X.w) X.A X.env X.xe) (hc : X.calm = true) (hg : Gl X "range") (hm : X.mg "range" = none)
    (hst : starEach [a] X.env = [(false, eval a X.env)]) (hf : ∀ x, foldedSetIterable (.Call (.Name "range" p) [a] [] pos) X.env x = pure x)
    (h0 : GA T X [a] σ L fun vs L1 => vs = [.int n] ∧ -(2 ^ 62) ≤ n ∧ n < 2 ^ 62 ∧ inv 0 σ L1)
    (hs : ∀ (i : Nat) σ' L', (i : Int) < n → inv i σ' L' → GG T X tg (.int (i : Int)) σ' L' fun σ2 L2 => GSs T X body { D with nx := Fits T (inv (i + 1)), ct := Fits T (inv (i + 1)), bk := D.nx } σ2 L2)
    (hd : ∀ σ' L', inv n.toNat σ' L' → D.nx σ' L') {pos2 : Pos} : GS T X (.For tg (.Call (.Name "range" p) [a] [] pos) body [] pos2) D σ L := by
  refine GS.of (ps_for hp hc (pi_range1 hg hm paW hst) pgW pssW hf) fun H hh D0 le => h0 H hh _ fun vs L1 H1 ⟨ev, b1, b2, iv⟩ h1 => ?_
  refine ⟨n, ev, b1, b2, wfor (Itr 0 n.toNat) n.toNat inv (fun σ L H i h => Nat.le_refl _) (fun i σ L H hi iv h => hi) (fun i σ L H hi iv h x H' y => ?_) hd h1 iv le⟩
  obtain ⟨e, y⟩ := y
  subst e
  subst y
  refine ⟨L, h, ?_⟩
  rw [Int.zero_add]
  exact hs i σ L (by omega) iv
/-- over range(a, b) -/
theorem gs_forN2 {a b : Expr} {p : Pos} (inv : Nat → St → List SA → Prop) (lo n : Int) (hp : PassesOwn (model X.prog X.w) X.A X.env X.xe) (hc : X.calm = true) (hg : Gl X "range") (hm : X.mg "range" = none)
    (hst : starEach [a, b] X.env = [(false, eval a X.env), (false, eval b X.env)]) (hst2 : starEach [b] X.env = [(false, eval b X.env)]) (hf : ∀ x, foldedSetIterable (.Call (.Name "range" p) [a, b] [] pos) X.env x = pure x)
    (h0 : GA T X [a, b] σ L fun vs L1 => vs = [.int lo, .int n] ∧ (-(2 ^ 62) ≤ lo ∧ lo < 2 ^ 62 ∧ -(2 ^ 62) ≤ n ∧ n < 2 ^ 62) ∧ inv 0 σ L1)
    (hs : ∀ (i : Nat) σ' L', lo + (i : Int) < n → inv i σ' L' → GG T X tg (.int (lo + (i : Int))) σ' L' fun σ2 L2 => GSs T X body { D with nx := Fits T (inv (i + 1)), ct := Fits T (inv (i + 1)), bk := D.nx } σ2 L2)
    (hd : ∀ σ' L', inv (n - lo).toNat σ' L' → D.nx σ' L') {pos2 : Pos} : GS T X (.For tg (.Call (.Name "range" p) [a, b] [] pos) body [] pos2) D σ L := by
  refine GS.of (ps_for hp hc (pi_range2 hg hm paW hst hst2) pgW pssW hf) fun H hh D0 le => h0 H hh _ fun vs L1 H1 ⟨ev, b1, iv⟩ h1 => ?_
  refine ⟨lo, n, ev, b1, wfor (Itr lo (n - lo).toNat) (n - lo).toNat inv (fun σ L H i h => Nat.le_refl _) (fun i σ L H hi iv h => hi) (fun i σ L H hi iv h x H' y => ?_) hd h1 iv le⟩
  obtain ⟨e, y⟩ := y
  subst e
  subst y
  exact ⟨L, h, hs i σ L (by omega) iv⟩
/-- while: an invariant and a measure -/
theorem gs_while {c : Expr} (inv : Nat → St → List SA → Prop) (hp : PassesOwn (model X.prog X.w) X.A X.env X.xe) (m0 : Nat) (h0 : inv m0 σ L)
    (hs : ∀ m σ' L', inv m σ' L' → GT T X c σ' L' fun b L1 => if b = true then GSs T X body { D with nx := fun σ2 L2 => ∃ m', m' < m ∧ Fits T (inv m') σ2 L2, ct := fun σ2 L2 => ∃ m', m' < m ∧ Fits T (inv m') σ2 L2, bk := D.nx } σ' L1 else D.nx σ' L1) : GS T X (.While c body [] pos) D σ L := by
  refine GS.of (ps_while hp ptW pssW) fun H hh D0 le => ⟨fun m σ H => ∃ L, inv m σ L ∧ Hs T L H, ⟨m0, L, h0, hh⟩, fun m σ1 H1 ⟨L1, iv, h1⟩ => ?_⟩
  refine hs m σ1 L1 iv H1 h1 _ fun b L2 H2 k2 h2 => ?_
  cases b with
  | true =>
    rw [if_pos rfl] at k2 ⊢
    refine ⟨fun σ' H' => ∃ m', m' < m ∧ ∃ L, inv m' σ' L ∧ Hs T L H', fun σ' H' ⟨m', hm, q⟩ => ⟨m', hm, q⟩, k2 H2 h2 _ ⟨fun σ3 L3 H3 ⟨m', hm, k3⟩ h3 => ⟨m', hm, fits_hs k3 h3⟩, le.rt, le.nx, fun σ3 L3 H3 ⟨m', hm, k3⟩ h3 => ⟨m', hm, fits_hs k3 h3⟩⟩⟩
  | false =>
    rw [if_neg Bool.false_ne_true] at k2 ⊢
    exact le.nx _ _ _ k2 h2
end
end SW
set_option Elab.async false
set_option linter.all false
set_option maxRecDepth 100000
set_option maxHeartbeats 2000000
/-! Sw6: comprehensions; methods of lists; slices; stores by an operator; raise, try. -/
namespace SW
open PySem PySem.Spec L2
open PyProof.Rows hiding St
/-! ### lists of data packed -/
section
variable {T : List (Addr × Str)} {L L' R' : List SA} {α : Type} {R : PRep α} {H : Hp} {p : Addr}
theorem Hs.packR {ys : List V} {ds : List α} (h : Hs T (pt p (.lst ys) :: L) H) (a : A2r R H ys ds) : Hs T (LstR R p ds :: L) H := by
  have h1 : Pcs ((fun g => A2r R g ys ds) :: pt p (.lst ys) :: L) H := h.pcs.addP (fun _ _ t r => r.mono t) a
  have h2 : Pcs ([(fun g => A2r R g ys ds), pt p (.lst ys)] ++ L) H := h1
  refine ⟨h.tabs, h2.fold.imp fun g k => ?_⟩
  have e : g p = some (.lst ys) := (k.perm (List.Perm.swap _ _ _)).get
  refine ⟨ys, e, ?_⟩
  obtain ⟨ps, k1, _, k3⟩ := k
  cases k1 with
  | cons r t => exact r.mono (k3 _ List.mem_cons_self).tup
theorem Hs.unpackR {ds : List α} (h : Hs T (LstR R p ds :: L) H) : ∃ xs, A2r R H xs ds ∧ Hs T (pt p (.lst xs) :: L) H := by
  obtain ⟨ps, h1, h2, h3⟩ := h.pcs
  cases h1 with
  | cons r t =>
    obtain ⟨xs, e, a⟩ := r
    exact ⟨xs, a.mono (h3 _ List.mem_cons_self).tup, h.tabs, _, .cons e t, h2, h3⟩
theorem Hs.rplR {ys : List V} {ds ds' : List α} (r : Rpl L (LstR R p ds) (LstR R p ds') L') (h : Hs T L H) (a : A2r R H ys ds') : Hs T L' (upd H p (.lst ys)) := by
  obtain ⟨Q, q1, q2⟩ := r.perm
  obtain ⟨xs, _, h1⟩ := (h.perm q1).unpackR
  have h2 : Hs T (pt p (.lst ys) :: Q) (upd H p (.lst ys)) := h1.wr (by exact True.intro) fun _ => nofun
  refine (h2.packR (a.mono fun b zs e => ?_)).perm q2.symm
  rw [upd_ne (ne_of e h1.get (by intro z; cases z))]
  exact e
theorem Hs.newR {ys : List V} {ds : List α} (hp : H p = none) (h : Hs T L H) (a : A2r R H ys ds) : Hs T (LstR R p ds :: L) (upd H p (.lst ys)) := by
  have h2 : Hs T (pt p (.lst ys) :: L) (upd H p (.lst ys)) := h.new hp fun _ => nofun
  refine h2.packR (a.mono fun b zs e => ?_)
  rw [upd_ne (ne_of_none e hp)]
  exact e
theorem Hs.atR {ds : List α} (s : Sel L (LstR R p ds) R') (h : Hs T L H) : ∃ xs, H p = some (.lst xs) ∧ A2r R H xs ds := by
  obtain ⟨xs, a, h1⟩ := (h.sel s).unpackR
  exact ⟨xs, h1.get, a⟩
end
/-! ### the slots wiped -/
inductive SetN : St → Nat → St → Prop
  | here {s : Option V} {σ : St} : SetN (s :: σ) 0 (none :: σ)
  | there {s : Option V} {σ σ' : St} {n : Nat} : SetN σ n σ' → SetN (s :: σ) (n + 1) (s :: σ')
theorem SetN.eq {σ σ' : St} {n : Nat} (h : SetN σ n σ') : σ' = σ.set n none := by
  induction h with
  | here => rfl
  | there _ ih => rw [ih]; rfl
inductive Wp : St → List Nat → St → Prop
  | nil {σ : St} : Wp σ [] σ
  | cons {σ σ1 σ2 : St} {v : Nat} {vs : List Nat} : Wp σ vs σ1 → SetN σ1 v σ2 → Wp σ (v :: vs) σ2
theorem Wp.eq {σ σ' : St} {vs : List Nat} (h : Wp σ vs σ') : σ' = wipe σ vs := by
  induction h with
  | nil => rfl
  | cons _ s ih => rw [s.eq, ih]; rfl
/-! ### comprehensions -/
def tsW (X : Cx) (ifs : List Expr) : TT := fun σ H Q => ∀ pins s, Inv X pins σ H s → wpAny (model X.prog X.w) X.A (forIn ifs true fun c r => if r = true then do let ok ← isTrue c X.env (eval c X.env); pure (ForInStep.yield ok) else pure (ForInStep.yield r)) (TP X pins σ Q) X.xe s
theorem ptsW {X : Cx} {ifs : List Expr} : PTs X ifs (tsW X ifs) := ⟨fun pins s σ H Q I h => h pins s I⟩
def GTs (T : List (Addr × Str)) (X : Cx) (ifs : List Expr) (σ : St) (L : List SA) (K : Bool → List SA → Prop) : Prop := WT T (tsW X ifs) σ L K
section
variable {T : List (Addr × Str)} {X : Cx} {σ : St} {L : List SA}
theorem gts_nil {K : Bool → List SA → Prop} (k : K true L) : GTs T X [] σ L K := fun H hs Q q pins s I => pts_nil.run pins s σ H Q I (q _ L H k hs)
theorem gts_one {c : Expr} {K : Bool → List SA → Prop} (h : GT T X c σ L K) : GTs T X [c] σ L K := fun H hs Q q pins s I => (pts_one ptW).run pins s σ H Q I (h H hs Q q)
/-- the list at D grows by y, then N -/
def LcEnd (T : List (Addr × Str)) (D : Addr) (y : V) (L : List SA) (N : List SA → Prop) : Prop := ∀ H, Hs T L H → ∃ acc, H D = some (.lst acc) ∧ acc.length < sizeLine ∧ ∃ L', Hs T L' (upd H D (.lst (acc ++ [y]))) ∧ N L'
abbrev blkX (X : Cx) (s : Shared) (H : Hp) (scope : Scope) (C : Addr) (cl : List (Str × Addr)) (fp : List Addr) : Cx := X.blk s H scope (compEnvC scope cl C X.env) fp
/-- one turn of a comprehension, from the item on; the block's own context may be any at each place -/
def LcTurn (T : List (Addr × Str)) (X : Cx) (scope : Scope) (tg elt : Expr) (ifs : List Expr) (vs : List Nat) (σ σ0 : St) (D : Addr) (x : V) (L : List SA) (N : List SA → Prop) : Prop :=
  ∀ s H C cl fp, GG T (blkX X s H scope C cl fp) tg x σ0 L fun σ2 L2 => wipe σ2 vs = wipe σ vs ∧ ∀ s H C cl fp, GTs T (blkX X s H scope C cl fp) ifs σ2 L2 fun b L3 => if b = true then ∀ s H C cl fp, GE T (blkX X s H scope C cl fp) elt σ2 L3 fun y L4 => LcEnd T D y L4 N else N L3
def gB (X : Cx) (scope : Scope) (tg : Expr) : TG := fun v σ H Q => ∀ s H0 C cl fp, gW (blkX X s H0 scope C cl fp) tg v σ H Q
def tB_ (X : Cx) (scope : Scope) (ifs : List Expr) : TT := fun σ H Q => ∀ s H0 C cl fp, tsW (blkX X s H0 scope C cl fp) ifs σ H Q
def eB (X : Cx) (scope : Scope) (elt : Expr) : TE := fun σ H Q => ∀ s H0 C cl fp, eW (blkX X s H0 scope C cl fp) elt σ H Q
end
def FitL (T : List (Addr × Str)) (inv : List SA → Prop) : List SA → Prop := fun L => ∃ W, Ent T L W ∧ inv W
theorem FitL.mk {T : List (Addr × Str)} {inv : List SA → Prop} {L W : List SA} (h : inv W) (t : Ent T L W) : FitL T inv L := ⟨W, t, h⟩
theorem fitL_hs {T : List (Addr × Str)} {L : List SA} {inv : List SA → Prop} {H : Hp} (f : FitL T inv L) (h : Hs T L H) : ∃ W, inv W ∧ Hs T W H := by
  obtain ⟨W, t, i⟩ := f
  exact ⟨W, i, t H h⟩
section
variable {T : List (Addr × Str)} {X : Cx} {σ σ0 : St} {L R' : List SA} {K : GK} {elt tg iter : Expr} {ifs : List Expr} {scope : Scope} {own : List (Str × Nat)} {vs : List Nat} {pos : Pos} {α : Type}
theorem turn_ok {D : Addr} {x : V} {inv : List SA → Prop} {H : Hp} (hw : σ0 = wipe σ vs) (g : LcTurn T X scope tg elt ifs vs σ σ0 D x L (FitL T inv)) (h : Hs T L H) :
    gB X scope tg x (wipe σ vs) H fun σ2 H2 => wipe σ2 vs = wipe σ vs ∧ tB_ X scope ifs σ2 H2 fun b H3 =>
      if b = true then eB X scope elt σ2 H3 fun y H4 => ∃ acc, H4 D = some (.lst acc) ∧ acc.length < sizeLine ∧ ∃ L', inv L' ∧ Hs T L' (upd H4 D (.lst (acc ++ [y]))) else ∃ L', inv L' ∧ Hs T L' H3 := by
  subst hw
  intro s H0 C cl fp
  refine g s H0 C cl fp H h _ fun σ2 L2 H2 ⟨e, k2⟩ h2 => ⟨e, fun s H0 C cl fp => k2 s H0 C cl fp H2 h2 _ fun b L3 H3 k3 h3 => ?_⟩
  cases b with
  | true =>
    rw [if_pos rfl] at k3 ⊢
    intro s H0 C cl fp
    refine k3 s H0 C cl fp H3 h3 _ fun y L4 H4 k4 h4 => ?_
    obtain ⟨acc, e1, e2, L', h', q⟩ := k4 H4 h4
    obtain ⟨W, i, h''⟩ := fitL_hs q h'
    exact ⟨acc, e1, e2, W, i, h''⟩
  | false =>
    rw [if_neg Bool.false_ne_true] at k3 ⊢
    obtain ⟨W, i, h''⟩ := fitL_hs k3 h3
    exact ⟨W, i, h''⟩
theorem wlc (J : It) (n : Nat) (D : Addr) (inv : Nat → List SA → Prop) (hw : σ0 = wipe σ vs) (hstop : ∀ L H, inv n L → Hs T L H → J.stop n H) (hgo : ∀ i L H, i < n → inv i L → Hs T L H → J.go i H)
    (hstep : ∀ i L H, i < n → inv i L → Hs T L H → ∀ x H', J.yld i H x H' → ∃ L', Hs T L' H' ∧ LcTurn T X scope tg elt ifs vs σ σ0 D x L' (FitL T (inv (i + 1))))
    {H1 : Hp} {Qd : Hp → Prop} (h0 : ∃ L, inv 0 L ∧ Hs T L (upd H1 D (.lst []))) (hend : ∀ L H, inv n L → Hs T L H → Qd H) :
    ∃ W : Nat → Nat → Hp → Prop, (∃ m, W 0 m (upd H1 D (.lst []))) ∧ ∀ i m H, W i m H →
      (J.stop i H ∧ Qd H) ∨ (J.go i H ∧ ∃ Nx : Hp → Prop, (∀ H', Nx H' → ∃ m', m' < m ∧ W (i + 1) m' H') ∧ ∀ x H', J.yld i H x H' → gB X scope tg x (wipe σ vs) H' fun σ2 H2 => wipe σ2 vs = wipe σ vs ∧ tB_ X scope ifs σ2 H2 fun b H3 =>
        if b = true then eB X scope elt σ2 H3 fun y H4 => ∃ acc, H4 D = some (.lst acc) ∧ acc.length < sizeLine ∧ Nx (upd H4 D (.lst (acc ++ [y]))) else Nx H3) := by
  refine ⟨fun i m H => m = n - i ∧ i ≤ n ∧ ∃ L, inv i L ∧ Hs T L H, ⟨n, by simp, Nat.zero_le _, h0⟩, ?_⟩
  rintro i m H ⟨rfl, hi, L, iv, hs⟩
  by_cases hlt : i < n
  · refine .inr ⟨hgo i L H hlt iv hs, fun H' => ∃ L', inv (i + 1) L' ∧ Hs T L' H', fun H' q => ⟨n - (i + 1), by omega, rfl, hlt, q⟩, fun x H' y => ?_⟩
    obtain ⟨L', h', g⟩ := hstep i L H hlt iv hs x H' y
    exact turn_ok hw g h'
  · have e : i = n := by omega
    subst e
    exact .inl ⟨hstop L H iv hs, hend L H iv hs⟩
theorem pe_lcW {wi : TI} (hc : X.calm = true) (hN : X.N.Nodup) (hi : PI X tg iter wi) (ok : BlkOk X.N X.env.scope scope own) (hf : ∀ x, foldedSetIterable iter X.env x = pure x) :
    PE X (.ListComp elt [⟨tg, iter, ifs, 0⟩] scope pos) (tLc wi (gB X scope tg) (tB_ X scope ifs) (eB X scope elt) (own.map (·.2))) :=
  pe_lc hc hN hi ok (fun s H C cl fp => ⟨fun pins s' σ H' v u Q I r h => h s H C cl fp pins s' u I r⟩) (fun s H C cl fp => ⟨fun pins s' σ H' Q I h => h s H C cl fp pins s' I⟩) (fun s H C cl fp => ⟨fun pins s' σ H' Q I h => h s H C cl fp pins s' I⟩) hf
/-! ends of turns -/
theorem lcend_pt {D : Addr} {y : V} {acc : List V} {L' : List SA} {N : List SA → Prop} (r : Rpl L (pt D (.lst acc)) (pt D (.lst (acc ++ [y]))) L') (hz : acc.length < sizeLine) (n : N L') : LcEnd T D y L N := fun H h => by
  obtain ⟨R, s⟩ := r.sel
  exact ⟨acc, h.at s, hz, L', h.rpl r (by exact True.intro) fun _ => nofun, n⟩
theorem lcend_R {D : Addr} {y : V} {R : PRep α} {ds : List α} {d : α} {L' : List SA} {N : List SA → Prop} (r : Rpl L (LstR R D ds) (LstR R D (ds ++ [d])) L') (hz : ds.length < sizeLine) (hv : Rv T L y R d) (n : N L') : LcEnd T D y L N := fun H h => by
  obtain ⟨Q, s⟩ := r.sel
  obtain ⟨xs, e, a⟩ := h.atR s
  exact ⟨xs, e, by rw [a.length]; exact hz, L', h.rplR r (a.snoc (hv H h)), n⟩
/-- an empty list as a list of data -/
theorem lst0 (R : PRep α) {p : Addr} : ∀ h, pt p (.lst []) h → LstR R p [] h := fun h e => ⟨[], e, .nil⟩
/-! comprehensions whose rows stay: what they gather is told by g -/
theorem lct_imp {D : Addr} {x : V} {Lx : List SA} {N N' : List SA → Prop} (h : LcTurn T X scope tg elt ifs vs σ σ0 D x Lx N) (f : ∀ L', N L' → N' L') : LcTurn T X scope tg elt ifs vs σ σ0 D x Lx N' := by
  intro s H C cl fp H1 h1 Q q
  refine h s H C cl fp H1 h1 Q fun σ2 L2 H2 ⟨e, k⟩ h2 => q σ2 L2 H2 ⟨e, fun s H C cl fp H3 h3 Q3 q3 => ?_⟩ h2
  refine k s H C cl fp H3 h3 Q3 fun b L4 H4 k4 h4 => q3 b L4 H4 ?_ h4
  cases b with
  | true =>
    rw [if_pos rfl] at k4 ⊢
    intro s H C cl fp H5 h5 Q5 q5
    refine k4 s H C cl fp H5 h5 Q5 fun y L6 H6 k6 h6 => q5 y L6 H6 (fun H7 h7 => ?_) h6
    obtain ⟨a, e1, e2, L', h', n⟩ := k6 H7 h7
    exact ⟨a, e1, e2, L', h', f _ n⟩
  | false =>
    rw [if_neg Bool.false_ne_true] at k4 ⊢
    exact f _ k4
/-- what a turn leaves -/
def LcN {γ : Type} (T : List (Addr × Str)) (acc : Addr → γ → SA) (φ : Nat → γ → Prop) (L1 : List SA) (D : Addr) (i : Nat) : List SA → Prop := fun L' => ∃ g', φ (i + 1) g' ∧ Ent T L' (acc D g' :: L1)
theorem lcn_fit {γ : Type} {acc : Addr → γ → SA} {φ : Nat → γ → Prop} {L1 : List SA} {D : Addr} {i : Nat} {L' : List SA} (h : LcN T acc φ L1 D i L') : FitL T (fun L' => ∃ g', φ (i + 1) g' ∧ L' = acc D g' :: L1) L' := by
  obtain ⟨g', hg, e⟩ := h
  exact ⟨_, e, g', hg, rfl⟩
theorem start_acc {γ : Type} {acc : Addr → γ → SA} {g0 : γ} {D : Addr} {L1 : List SA} {H1 : Hp} (h0 : ∀ D h, pt D (.lst []) h → acc D g0 h) (h1 : Hs T L1 H1) (hD : H1 D = none) : Hs T (acc D g0 :: L1) (upd H1 D (.lst [])) := by
  have h2 : Hs T (pt D (.lst []) :: L1) (upd H1 D (.lst [])) := h1.new hD fun _ => nofun
  exact h2.imp fun h => h0 D h
/-- how a comprehension goes on behind its iterable: n turns, item i is x, known by Lx -/
def LcGo (T : List (Addr × Str)) (X : Cx) (scope : Scope) (tg elt : Expr) (ifs : List Expr) (vs : List Nat) (σ σ0 : St) (L1 : List SA) (n : Nat) (item : Nat → V → List SA → Prop) (K : GK) : Prop :=
  ∃ (γ : Type) (acc : Addr → γ → SA) (φ : Nat → γ → Prop) (g0 : γ), φ 0 g0 ∧ (∀ D h, pt D (.lst []) h → acc D g0 h) ∧
    (∀ D i x Lx g, i < n → item i x Lx → φ i g → LcTurn T X scope tg elt ifs vs σ σ0 D x (Lx ++ acc D g :: L1) (LcN T acc φ L1 D i)) ∧ ∀ D g, φ n g → K (.ref D) (acc D g :: L1)
theorem lcgo {γ : Type} {L1 : List SA} {n : Nat} {item : Nat → V → List SA → Prop} (acc : Addr → γ → SA) (φ : Nat → γ → Prop) (g0 : γ) (p0 : φ 0 g0) (a0 : ∀ D h, pt D (.lst []) h → acc D g0 h)
    (hs : ∀ D i x Lx g, i < n → item i x Lx → φ i g → LcTurn T X scope tg elt ifs vs σ σ0 D x (Lx ++ acc D g :: L1) (LcN T acc φ L1 D i)) (hd : ∀ D g, φ n g → K (.ref D) (acc D g :: L1)) : LcGo T X scope tg elt ifs vs σ σ0 L1 n item K := ⟨γ, acc, φ, g0, p0, a0, hs, hd⟩
theorem ps_setLcW {N : List Str} {ks : List (Str × NameKind)} {wi : TI} {i : Nat} {y : Str} {py spos : Pos} (n : Nm X N ks) (hc : X.calm = true) (hy : X.N[i]? = some y) (hyl : X.env.scope.names.lookup y = some .local)
    (hsw : swapsWith (.ListComp elt [⟨tg, iter, ifs, 0⟩] scope pos) (some (.Name y py)) spos.line X.env = pure true) (hi : PI X tg iter wi) (ok : BlkOk X.N X.env.scope scope own) (hf : ∀ x, foldedSetIterable iter X.env x = pure x) :
    PS X (.Assign [.Name y py] (.ListComp elt [⟨tg, iter, ifs, 0⟩] scope pos) spos) (tAsg (tLc wi (gB X scope tg) (tB_ X scope ifs) (eB X scope elt) (own.map (·.2))) (gName i)) :=
  ps_setLc hc (by rw [n.nn]; exact n.nd) hy hyl hsw hi ok (fun s H C cl fp => ⟨fun pins s' σ H' v u Q I r h => h s H C cl fp pins s' u I r⟩) (fun s H C cl fp => ⟨fun pins s' σ H' Q I h => h s H C cl fp pins s' I⟩) (fun s H C cl fp => ⟨fun pins s' σ H' Q I h => h s H C cl fp pins s' I⟩) hf
/-- over a list, plain -/
theorem lcL_core {own : List (Str × Nat)} (hw : Wp σ (own.map (·.2)) σ0)
    (h0 : GE T X iter σ L fun v L1 => ∃ (l : Addr) (xs : List V), v = .ref l ∧ (∃ R, Sel L1 (pt l (.lst xs)) R) ∧ LcGo T X scope tg elt ifs (own.map (·.2)) σ σ0 L1 xs.length (fun i x Lx => xs[i]? = some x ∧ Lx = []) K) : WE T (tLc (iList X.K (eW X iter)) (gB X scope tg) (tB_ X scope ifs) (eB X scope elt) (own.map (·.2))) σ L K := by
  refine fun H hh Q q => h0 H hh _ fun v L1 H1 ⟨l, xs, ev, ⟨R1, s1⟩, γ, acc, φ, g0, p0, a0, hs, hd⟩ h1 => ⟨l, ev, ⟨xs, SqL.of (h1.at s1)⟩, fun D hD => ?_⟩
  have sel : ∀ {g}, Sel (acc D g :: L1) (pt l (.lst xs)) (acc D g :: R1) := fun {g} => .there s1
  refine wlc (Itl X.K l) xs.length D (fun i L' => ∃ g, φ i g ∧ L' = acc D g :: L1) hw.eq (fun L H i h => ?_) (fun i L H hi iv h => ?_) (fun i L H hi iv h x H' y => ?_) ⟨_, ⟨g0, p0, rfl⟩, start_acc a0 h1 hD⟩ fun L' H' iv h' => ?_
  · obtain ⟨g, pg, rfl⟩ := i
    exact ⟨xs, SqL.of (h.at sel), Nat.le_refl _⟩
  · obtain ⟨g, pg, rfl⟩ := iv
    exact ⟨xs, xs[i], SqL.of (h.at sel), by simp [hi]⟩
  · obtain ⟨g, pg, rfl⟩ := iv
    obtain ⟨e, y⟩ := y
    subst e
    exact ⟨_, h, lct_imp (hs D i x [] g hi ⟨y xs (SqL.of (h.at sel)), rfl⟩ pg) fun _ => lcn_fit⟩
  · obtain ⟨g, pg, rfl⟩ := iv
    exact q _ _ _ (hd D g pg) h'
theorem ge_lcL (own : List (Str × Nat)) (hc : X.calm = true) (hN : X.N.Nodup) (ok : BlkOk X.N X.env.scope scope own) (hw : Wp σ (own.map (·.2)) σ0) (hf : ∀ x, foldedSetIterable iter X.env x = pure x)
    (h0 : GE T X iter σ L fun v L1 => ∃ (l : Addr) (xs : List V), v = .ref l ∧ (∃ R, Sel L1 (pt l (.lst xs)) R) ∧ LcGo T X scope tg elt ifs (own.map (·.2)) σ σ0 L1 xs.length (fun i x Lx => xs[i]? = some x ∧ Lx = []) K) : GE T X (.ListComp elt [⟨tg, iter, ifs, 0⟩] scope pos) σ L K := GE.of (pe_lcW hc hN (pi_list peW) ok hf) (lcL_core hw h0)
theorem gs_lcL {N : List Str} {ks : List (Str × NameKind)} {y : Str} {py spos : Pos} {f : V → St} {D : EndsL} (own : List (Str × Nat)) (n : Nm X N ks) (s : Slot N σ y f) (h : Kd ks y .local) (hc : X.calm = true) (ok : BlkOk X.N X.env.scope scope own) (hw : Wp σ (own.map (·.2)) σ0) (hf : ∀ x, foldedSetIterable iter X.env x = pure x)
    (hsw : swapsWith (.ListComp elt [⟨tg, iter, ifs, 0⟩] scope pos) (some (.Name y py)) spos.line X.env = pure true)
    (h0 : GE T X iter σ L fun v L1 => ∃ (l : Addr) (xs : List V), v = .ref l ∧ (∃ R, Sel L1 (pt l (.lst xs)) R) ∧ LcGo T X scope tg elt ifs (own.map (·.2)) σ σ0 L1 xs.length (fun i x Lx => xs[i]? = some x ∧ Lx = []) (fun v L' => D.nx (f v) L')) : GS T X (.Assign [.Name y py] (.ListComp elt [⟨tg, iter, ifs, 0⟩] scope pos) spos) D σ L := by
  obtain ⟨i, h1, h2⟩ := s.ix
  exact GS.of (ps_setLcW (i := i) n hc (by rw [n.nn]; exact h1) (n.look h) hsw (pi_list peW) ok hf) fun H hs D0 l => lcL_core hw h0 H hs _ fun v L' H' k h' => l.nx _ _ _ (by rw [← h2]; exact k) h'
/-- over a list of data -/
theorem lcR_core {own : List (Str × Nat)} (hw : Wp σ (own.map (·.2)) σ0)
    (h0 : GE T X iter σ L fun v L1 => ∃ (l : Addr) (α : Type) (R : PRep α) (ds : List α), v = .ref l ∧ (∃ R0, Sel L1 (LstR R l ds) R0) ∧ LcGo T X scope tg elt ifs (own.map (·.2)) σ σ0 L1 ds.length (fun i x Lx => ∃ d, ds[i]? = some d ∧ Lx = [Val R x d]) K) : WE T (tLc (iList X.K (eW X iter)) (gB X scope tg) (tB_ X scope ifs) (eB X scope elt) (own.map (·.2))) σ L K := by
  refine fun H hh Q q => h0 H hh _ fun v L1 H1 ⟨l, α, R, ds, ev, ⟨R1, s1⟩, γ, acc, φ, g0, p0, a0, hs, hd⟩ h1 => ?_
  obtain ⟨xs1, e1, _⟩ := h1.atR s1
  refine ⟨l, ev, ⟨xs1, SqL.of e1⟩, fun D hD => ?_⟩
  have sel : ∀ {g}, Sel (acc D g :: L1) (LstR R l ds) (acc D g :: R1) := fun {g} => .there s1
  refine wlc (Itl X.K l) ds.length D (fun i L' => ∃ g, φ i g ∧ L' = acc D g :: L1) hw.eq (fun L H i h => ?_) (fun i L H hi iv h => ?_) (fun i L H hi iv h x H' y => ?_) ⟨_, ⟨g0, p0, rfl⟩, start_acc a0 h1 hD⟩ fun L' H' iv h' => ?_
  · obtain ⟨g, pg, rfl⟩ := i
    obtain ⟨xs, e, r⟩ := h.atR sel
    exact ⟨xs, SqL.of e, Nat.le_of_eq r.length⟩
  · obtain ⟨g, pg, rfl⟩ := iv
    obtain ⟨xs, e, r⟩ := h.atR sel
    have : i < xs.length := by rw [r.length]; exact hi
    exact ⟨xs, xs[i], SqL.of e, by simp [this]⟩
  · obtain ⟨g, pg, rfl⟩ := iv
    obtain ⟨xs, e, r⟩ := h.atR sel
    obtain ⟨e2, y⟩ := y
    subst e2
    obtain ⟨d, hd', rr⟩ := r.get' (y xs (SqL.of e))
    exact ⟨_, h.addP Val.pers rr, lct_imp (hs D i x _ g hi ⟨d, hd', rfl⟩ pg) fun _ => lcn_fit⟩
  · obtain ⟨g, pg, rfl⟩ := iv
    exact q _ _ _ (hd D g pg) h'
theorem ge_lcR (own : List (Str × Nat)) (hc : X.calm = true) (hN : X.N.Nodup) (ok : BlkOk X.N X.env.scope scope own) (hw : Wp σ (own.map (·.2)) σ0) (hf : ∀ x, foldedSetIterable iter X.env x = pure x)
    (h0 : GE T X iter σ L fun v L1 => ∃ (l : Addr) (α : Type) (R : PRep α) (ds : List α), v = .ref l ∧ (∃ R0, Sel L1 (LstR R l ds) R0) ∧ LcGo T X scope tg elt ifs (own.map (·.2)) σ σ0 L1 ds.length (fun i x Lx => ∃ d, ds[i]? = some d ∧ Lx = [Val R x d]) K) : GE T X (.ListComp elt [⟨tg, iter, ifs, 0⟩] scope pos) σ L K := GE.of (pe_lcW hc hN (pi_list peW) ok hf) (lcR_core hw h0)
theorem gs_lcR {N : List Str} {ks : List (Str × NameKind)} {y : Str} {py spos : Pos} {f : V → St} {D : EndsL} (own : List (Str × Nat)) (n : Nm X N ks) (s : Slot N σ y f) (h : Kd ks y .local) (hc : X.calm = true) (ok : BlkOk X.N X.env.scope scope own) (hw : Wp σ (own.map (·.2)) σ0) (hf : ∀ x, foldedSetIterable iter X.env x = pure x)
    (hsw : swapsWith (.ListComp elt [⟨tg, iter, ifs, 0⟩] scope pos) (some (.Name y py)) spos.line X.env = pure true)
    (h0 : GE T X iter σ L fun v L1 => ∃ (l : Addr) (α : Type) (R : PRep α) (ds : List α), v = .ref l ∧ (∃ R0, Sel L1 (LstR R l ds) R0) ∧ LcGo T X scope tg elt ifs (own.map (·.2)) σ σ0 L1 ds.length (fun i x Lx => ∃ d, ds[i]? = some d ∧ Lx = [Val R x d]) (fun v L' => D.nx (f v) L')) : GS T X (.Assign [.Name y py] (.ListComp elt [⟨tg, iter, ifs, 0⟩] scope pos) spos) D σ L := by
  obtain ⟨i, h1, h2⟩ := s.ix
  exact GS.of (ps_setLcW (i := i) n hc (by rw [n.nn]; exact h1) (n.look h) hsw (pi_list peW) ok hf) fun H hs D0 l => lcR_core hw h0 H hs _ fun v L' H' k h' => l.nx _ _ _ (by rw [← h2]; exact k) h'
/-- over a tuple of data -/
theorem lcT_core {own : List (Str × Nat)} (hw : Wp σ (own.map (·.2)) σ0)
    (h0 : GE T X iter σ L fun v L1 => ∃ (α : Type) (R : PRep α) (ds : List α), Rv T L1 v (rTl R) ds ∧ LcGo T X scope tg elt ifs (own.map (·.2)) σ σ0 (Val (rTl R) v ds :: L1) ds.length (fun i x Lx => ∃ d, ds[i]? = some d ∧ Lx = [Val R x d]) K) : WE T (tLc (iTup X.K (eW X iter)) (gB X scope tg) (tB_ X scope ifs) (eB X scope elt) (own.map (·.2))) σ L K := by
  refine fun H hh Q q => h0 H hh _ fun v L1 H1 ⟨α, R, ds, r1, γ, acc, φ, g0, p0, a0, hs, hd⟩ h1 => ?_
  obtain ⟨l, xs1, ev0, e1, _⟩ := r1 H1 h1
  subst ev0
  have h1' := h1.addP (F := Val (rTl R) (.ref l) ds) Val.pers (r1 H1 h1)
  have get : ∀ {D : Addr} {g : γ} {H : Hp}, Hs T (acc D g :: Val (rTl R) (.ref l) ds :: L1) H → ∃ xs, H l = some (.tup xs) ∧ A2r R H xs ds := fun {D g H} h => by
    obtain ⟨l', xs, ev, e, r⟩ := h.getP (F := Val (rTl R) (.ref l) ds) Val.pers (.there .here)
    cases ev
    exact ⟨xs, e, r⟩
  refine ⟨l, rfl, ⟨xs1, SqT.of e1⟩, fun D hD => ?_⟩
  refine wlc (Itt X.K l) ds.length D (fun i L' => ∃ g, φ i g ∧ L' = acc D g :: Val (rTl R) (.ref l) ds :: L1) hw.eq (fun L H i h => ?_) (fun i L H hi iv h => ?_) (fun i L H hi iv h x H' y => ?_) ⟨_, ⟨g0, p0, rfl⟩, start_acc a0 h1' hD⟩ fun L' H' iv h' => ?_
  · obtain ⟨g, pg, rfl⟩ := i
    obtain ⟨xs, e, r⟩ := get h
    exact ⟨xs, SqT.of e, Nat.le_of_eq r.length⟩
  · obtain ⟨g, pg, rfl⟩ := iv
    obtain ⟨xs, e, r⟩ := get h
    have : i < xs.length := by rw [r.length]; exact hi
    exact ⟨xs, xs[i], SqT.of e, by simp [this]⟩
  · obtain ⟨g, pg, rfl⟩ := iv
    obtain ⟨xs, e, r⟩ := get h
    obtain ⟨e2, y⟩ := y
    subst e2
    obtain ⟨d, hd', rr⟩ := r.get' (y xs (SqT.of e))
    exact ⟨_, h.addP Val.pers rr, lct_imp (hs D i x _ g hi ⟨d, hd', rfl⟩ pg) fun _ => lcn_fit⟩
  · obtain ⟨g, pg, rfl⟩ := iv
    exact q _ _ _ (hd D g pg) h'
theorem ge_lcT (own : List (Str × Nat)) (hc : X.calm = true) (hN : X.N.Nodup) (ok : BlkOk X.N X.env.scope scope own) (hw : Wp σ (own.map (·.2)) σ0) (hf : ∀ x, foldedSetIterable iter X.env x = pure x)
    (h0 : GE T X iter σ L fun v L1 => ∃ (α : Type) (R : PRep α) (ds : List α), Rv T L1 v (rTl R) ds ∧ LcGo T X scope tg elt ifs (own.map (·.2)) σ σ0 (Val (rTl R) v ds :: L1) ds.length (fun i x Lx => ∃ d, ds[i]? = some d ∧ Lx = [Val R x d]) K) : GE T X (.ListComp elt [⟨tg, iter, ifs, 0⟩] scope pos) σ L K := GE.of (pe_lcW hc hN (pi_tup peW) ok hf) (lcT_core hw h0)
theorem gs_lcT {N : List Str} {ks : List (Str × NameKind)} {y : Str} {py spos : Pos} {f : V → St} {D : EndsL} (own : List (Str × Nat)) (n : Nm X N ks) (s : Slot N σ y f) (h : Kd ks y .local) (hc : X.calm = true) (ok : BlkOk X.N X.env.scope scope own) (hw : Wp σ (own.map (·.2)) σ0) (hf : ∀ x, foldedSetIterable iter X.env x = pure x)
    (hsw : swapsWith (.ListComp elt [⟨tg, iter, ifs, 0⟩] scope pos) (some (.Name y py)) spos.line X.env = pure true)
    (h0 : GE T X iter σ L fun v L1 => ∃ (α : Type) (R : PRep α) (ds : List α), Rv T L1 v (rTl R) ds ∧ LcGo T X scope tg elt ifs (own.map (·.2)) σ σ0 (Val (rTl R) v ds :: L1) ds.length (fun i x Lx => ∃ d, ds[i]? = some d ∧ Lx = [Val R x d]) (fun v L' => D.nx (f v) L')) : GS T X (.Assign [.Name y py] (.ListComp elt [⟨tg, iter, ifs, 0⟩] scope pos) spos) D σ L := by
  obtain ⟨i, h1, h2⟩ := s.ix
  exact GS.of (ps_setLcW (i := i) n hc (by rw [n.nn]; exact h1) (n.look h) hsw (pi_tup peW) ok hf) fun H hs D0 l => lcT_core hw h0 H hs _ fun v L' H' k h' => l.nx _ _ _ (by rw [← h2]; exact k) h'
/-- over range(n) -/
theorem lcN_core {a : Expr} {own : List (Str × Nat)} (hw : Wp σ (own.map (·.2)) σ0)
    (h0 : GA T X [a] σ L fun vs L1 => ∃ n, vs = [.int n] ∧ -(2 ^ 62) ≤ n ∧ n < 2 ^ 62 ∧ LcGo T X scope tg elt ifs (own.map (·.2)) σ σ0 L1 n.toNat (fun i x Lx => x = .int (i : Nat) ∧ Lx = []) K) : WE T (tLc (iRng1 (aW X [a])) (gB X scope tg) (tB_ X scope ifs) (eB X scope elt) (own.map (·.2))) σ L K := by
  refine fun H hh Q q => h0 H hh _ fun vs L1 H1 ⟨n, ev, b1, b2, γ, acc, φ, g0, p0, a0, hs, hd⟩ h1 => ⟨n, ev, b1, b2, fun D hD => ?_⟩
  refine wlc (Itr 0 n.toNat) n.toNat D (fun i L' => ∃ g, φ i g ∧ L' = acc D g :: L1) hw.eq (fun L H i h => Nat.le_refl _) (fun i L H hi iv h => hi) (fun i L H hi iv h x H' y => ?_) ⟨_, ⟨g0, p0, rfl⟩, start_acc a0 h1 hD⟩ fun L' H' iv h' => ?_
  · obtain ⟨g, pg, rfl⟩ := iv
    obtain ⟨e, y⟩ := y
    subst e
    subst y
    refine ⟨_, h, ?_⟩
    rw [Int.zero_add]
    exact lct_imp (hs D i _ [] g hi ⟨rfl, rfl⟩ pg) fun _ => lcn_fit
  · obtain ⟨g, pg, rfl⟩ := iv
    exact q _ _ _ (hd D g pg) h'
theorem ge_lcN {a : Expr} {p p2 : Pos} (own : List (Str × Nat)) (hc : X.calm = true) (hN : X.N.Nodup) (ok : BlkOk X.N X.env.scope scope own) (hw : Wp σ (own.map (·.2)) σ0) (hg : Gl X "range") (hm : X.mg "range" = none)
    (hst : starEach [a] X.env = [(false, eval a X.env)]) (hf : ∀ x, foldedSetIterable (.Call (.Name "range" p) [a] [] p2) X.env x = pure x)
    (h0 : GA T X [a] σ L fun vs L1 => ∃ n, vs = [.int n] ∧ -(2 ^ 62) ≤ n ∧ n < 2 ^ 62 ∧ LcGo T X scope tg elt ifs (own.map (·.2)) σ σ0 L1 n.toNat (fun i x Lx => x = .int (i : Nat) ∧ Lx = []) K) : GE T X (.ListComp elt [⟨tg, (.Call (.Name "range" p) [a] [] p2), ifs, 0⟩] scope pos) σ L K := GE.of (pe_lcW hc hN (pi_range1 hg hm paW hst) ok hf) (lcN_core hw h0)
theorem gs_lcN {a : Expr} {p p2 : Pos} {N : List Str} {ks : List (Str × NameKind)} {y : Str} {py spos : Pos} {f : V → St} {D : EndsL} (own : List (Str × Nat)) (n : Nm X N ks) (s : Slot N σ y f) (h : Kd ks y .local) (hc : X.calm = true) (ok : BlkOk X.N X.env.scope scope own) (hw : Wp σ (own.map (·.2)) σ0) (hg : Gl X "range") (hm : X.mg "range" = none)
    (hst : starEach [a] X.env = [(false, eval a X.env)]) (hf : ∀ x, foldedSetIterable (.Call (.Name "range" p) [a] [] p2) X.env x = pure x)
    (hsw : swapsWith (.ListComp elt [⟨tg, (.Call (.Name "range" p) [a] [] p2), ifs, 0⟩] scope pos) (some (.Name y py)) spos.line X.env = pure true)
    (h0 : GA T X [a] σ L fun vs L1 => ∃ n, vs = [.int n] ∧ -(2 ^ 62) ≤ n ∧ n < 2 ^ 62 ∧ LcGo T X scope tg elt ifs (own.map (·.2)) σ σ0 L1 n.toNat (fun i x Lx => x = .int (i : Nat) ∧ Lx = []) (fun v L' => D.nx (f v) L')) : GS T X (.Assign [.Name y py] (.ListComp elt [⟨tg, (.Call (.Name "range" p) [a] [] p2), ifs, 0⟩] scope pos) spos) D σ L := by
  obtain ⟨i, h1, h2⟩ := s.ix
  exact GS.of (ps_setLcW (i := i) n hc (by rw [n.nn]; exact h1) (n.look h) hsw (pi_range1 hg hm paW hst) ok hf) fun H hs D0 l => lcN_core hw h0 H hs _ fun v L' H' k h' => l.nx _ _ _ (by rw [← h2]; exact k) h'
end
end SW
set_option Elab.async false
set_option linter.all false
set_option maxRecDepth 100000
set_option maxHeartbeats 2000000
/-! Sw7: methods of lists; slices; sums of lists; stores by an operator; raise. -/
namespace SW
open PySem PySem.Spec L2
open PyProof.Rows hiding St
def HasL (T : List (Addr × Str)) (L : List SA) (p : Addr) : Prop := ∀ H, Hs T L H → ∃ xs, H p = some (.lst xs)
section
variable {T : List (Addr × Str)} {X : Cx} {σ : St} {L L1 L' R' : List SA} {K : GK} {D : EndsL} {o e : Expr} {es : List Expr} {apos cpos pos p2 : Pos} {α : Type} {R : PRep α} {p : Addr} {v x y : V}
theorem hasL_pt {xs : List V} (s : Sel L (pt p (.lst xs)) R') : HasL T L p := fun H h => ⟨xs, h.at s⟩
theorem hasL_R {ds : List α} (s : Sel L (LstR R p ds) R') : HasL T L p := fun H h => by
  obtain ⟨xs, e, _⟩ := h.atR s
  exact ⟨xs, e⟩
/-! ### append -/
def GApp (T : List (Addr × Str)) (p : Addr) (y : V) (L : List SA) (N : List SA → Prop) : Prop := ∀ H, Hs T L H → ∃ xs, H p = some (.lst xs) ∧ xs.length < sizeLine ∧ ∃ L', Hs T L' (upd H p (.lst (xs ++ [y]))) ∧ N L'
theorem gapp_pt {xs : List V} {N : List SA → Prop} (r : Rpl L (pt p (.lst xs)) (pt p (.lst (xs ++ [y]))) L') (hz : xs.length < sizeLine) (n : N L') : GApp T p y L N := lcend_pt r hz n
theorem gapp_R {ds : List α} {d : α} {N : List SA → Prop} (r : Rpl L (LstR R p ds) (LstR R p (ds ++ [d])) L') (hz : ds.length < sizeLine) (hv : Rv T L y R d) (n : N L') : GApp T p y L N := lcend_R r hz hv n
theorem ge_append (hbase : attributeBase o "append" X.env (eval o X.env) = eval o X.env) (hfew : ((backTo cpos (starEach [e] X.env)).all (fun x => !x.1) && (backToKw cpos (keywordEach [] X.env)).all (fun x => x.1.isSome)
      && decide (([e] : List Expr).length + ([] : List Keyword).length + (if ([] : List Keyword).isEmpty then 0 else 1) < 30)) = true) (hline : (apos.endLine == cpos.line) = true) (hs : starEach [e] X.env = (false, eval e X.env) :: starEach [] X.env) (hplain : (backTo cpos (starEach [] X.env)).any (·.1) = false)
    (h : GE T X o σ L fun v L1 => ∃ p, v = .ref p ∧ HasL T L1 p ∧ GE T X e σ L1 fun y L2 => GApp T p y L2 (K .non)) : GE T X (.Call (.Attribute o "append" apos) [e] [] cpos) σ L K :=
  GE.of (pe_bm PySem.F.plainAttrs_list PySem.F.slot_list_append PySem.F.type_list_append mt_append peW (pa_cons peW pa_nil hs) hbase hfew hline hs hplain) fun H hh Q q => h H hh _ fun v L1 H1 ⟨p, ev, hp, k1⟩ h1 => by
    subst ev
    obtain ⟨xs, e1⟩ := hp H1 h1
    refine ⟨.inl ⟨rfl, xs, SqL.of e1⟩, k1 H1 h1 _ fun y L2 H2 k2 h2 => ?_⟩
    obtain ⟨ys, e2, hz, L', h', n⟩ := k2 H2 h2
    exact ⟨p, ys, y, rfl, rfl, e2, hz, q _ _ _ n h'⟩
/-! ### extend -/
def GExt (T : List (Addr × Str)) (p : Addr) (y : V) (L : List SA) (N : List SA → Prop) : Prop := ∀ H, Hs T L H → ∃ b xs zs, y = .ref b ∧ H p = some (.lst xs) ∧ H b = some (.lst zs) ∧ xs.length + zs.length ≤ sizeLine ∧ ∃ L', Hs T L' (upd H p (.lst (xs ++ zs))) ∧ N L'
theorem gext_R {b : Addr} {ds es : List α} {N : List SA → Prop} {Q : List SA} (s : Sel L (LstR R b es) Q) (r : Rpl L (LstR R p ds) (LstR R p (ds ++ es)) L') (hz : ds.length + es.length ≤ sizeLine) (n : N L') : GExt T p (.ref b) L N := fun H h => by
  obtain ⟨Q2, s2⟩ := r.sel
  obtain ⟨xs, e1, a1⟩ := h.atR s2
  obtain ⟨zs, e2, a2⟩ := h.atR s
  exact ⟨b, xs, zs, rfl, e1, e2, by rw [a1.length, a2.length]; exact hz, L', h.rplR r (a1.app a2), n⟩
theorem gext_pt {b : Addr} {xs zs : List V} {N : List SA → Prop} {Q : List SA} (s : Sel L (pt b (.lst zs)) Q) (r : Rpl L (pt p (.lst xs)) (pt p (.lst (xs ++ zs))) L') (hz : xs.length + zs.length ≤ sizeLine) (n : N L') : GExt T p (.ref b) L N := fun H h => by
  obtain ⟨Q2, s2⟩ := r.sel
  exact ⟨b, xs, zs, rfl, h.at s2, h.at s, hz, L', h.rpl r (by exact True.intro) fun _ => nofun, n⟩
theorem ge_extend (hbase : attributeBase o "extend" X.env (eval o X.env) = eval o X.env) (hfew : ((backTo cpos (starEach [e] X.env)).all (fun x => !x.1) && (backToKw cpos (keywordEach [] X.env)).all (fun x => x.1.isSome)
      && decide (([e] : List Expr).length + ([] : List Keyword).length + (if ([] : List Keyword).isEmpty then 0 else 1) < 30)) = true) (hline : (apos.endLine == cpos.line) = true) (hs : starEach [e] X.env = (false, eval e X.env) :: starEach [] X.env) (hplain : (backTo cpos (starEach [] X.env)).any (·.1) = false)
    (h : GE T X o σ L fun v L1 => ∃ p, v = .ref p ∧ HasL T L1 p ∧ GE T X e σ L1 fun y L2 => GExt T p y L2 (K .non)) : GE T X (.Call (.Attribute o "extend" apos) [e] [] cpos) σ L K :=
  GE.of (pe_bm PySem.F.plainAttrs_list PySem.F.slot_list_extend PySem.F.type_list_extend mt_extend peW (pa_cons peW pa_nil hs) hbase hfew hline hs hplain) fun H hh Q q => h H hh _ fun v L1 H1 ⟨p, ev, hp, k1⟩ h1 => by
    subst ev
    obtain ⟨xs, e1⟩ := hp H1 h1
    refine ⟨.inl ⟨rfl, xs, SqL.of e1⟩, k1 H1 h1 _ fun y L2 H2 k2 h2 => ?_⟩
    obtain ⟨b, xs2, zs, ey, e2, e3, hz, L', h', n⟩ := k2 H2 h2
    subst ey
    exact ⟨p, b, xs2, zs, rfl, rfl, e2, e3, hz, q _ _ _ n h'⟩
/-! ### pop -/
def GPop (T : List (Addr × Str)) (p : Addr) (i : Int) (L : List SA) (K : GK) : Prop := ∀ H, Hs T L H → ∃ xs k y, H p = some (.lst xs) ∧ -(2 ^ 63) ≤ i ∧ i < 2 ^ 63 ∧ seqIndex? i xs.length = some k ∧ xs[k]? = some y ∧ ∃ L', Hs T L' (upd H p (.lst (xs.eraseIdx k))) ∧ K y L'
theorem gpop0_R {d : α} {ds : List α} (r : Rpl L (LstR R p (d :: ds)) (LstR R p ds) L') (k : ∀ y, K y (Val R y d :: L')) : GPop T p 0 L K := fun H h => by
  obtain ⟨Q2, s2⟩ := r.sel
  obtain ⟨xs, e1, a1⟩ := h.atR s2
  cases a1 with
  | @cons x _ xs' _ r1 t1 =>
    refine ⟨x :: xs', 0, x, e1, by omega, by omega, ?_, rfl, _, (h.rplR r (show A2r R H xs' ds from t1)).addP Val.pers (R.mono (fun b zs eb => ?_) r1), k x⟩
    · exact seqIndex_of (by omega) (by simp only [List.length_cons]; omega)
    · rw [upd_ne (ne_of eb e1 (by intro z; cases z))]; exact eb
theorem gpop0_pt {z : V} {xs : List V} (r : Rpl L (pt p (.lst (z :: xs))) (pt p (.lst xs)) L') (k : K z L') : GPop T p 0 L K := fun H h => by
  obtain ⟨Q2, s2⟩ := r.sel
  exact ⟨z :: xs, 0, z, h.at s2, by omega, by omega, seqIndex_of (by omega) (by simp only [List.length_cons]; omega), rfl, L', h.rpl r (by exact True.intro) fun _ => nofun, k⟩
theorem ge_popAt (hbase : attributeBase o "pop" X.env (eval o X.env) = eval o X.env) (hfew : ((backTo cpos (starEach [e] X.env)).all (fun x => !x.1) && (backToKw cpos (keywordEach [] X.env)).all (fun x => x.1.isSome)
      && decide (([e] : List Expr).length + ([] : List Keyword).length + (if ([] : List Keyword).isEmpty then 0 else 1) < 30)) = true) (hline : (apos.endLine == cpos.line) = true) (hs : starEach [e] X.env = (false, eval e X.env) :: starEach [] X.env) (hplain : (backTo cpos (starEach [] X.env)).any (·.1) = false)
    (h : GE T X o σ L fun v L1 => ∃ p, v = .ref p ∧ HasL T L1 p ∧ GE T X e σ L1 fun y L2 => ∃ i, y = .int i ∧ GPop T p i L2 K) : GE T X (.Call (.Attribute o "pop" apos) [e] [] cpos) σ L K :=
  GE.of (pe_bm PySem.F.plainAttrs_list PySem.F.slot_list_pop PySem.F.type_list_pop mt_popAt peW (pa_cons peW pa_nil hs) hbase hfew hline hs hplain) fun H hh Q q => h H hh _ fun v L1 H1 ⟨p, ev, hp, k1⟩ h1 => by
    subst ev
    obtain ⟨xs, e1⟩ := hp H1 h1
    refine ⟨.inl ⟨rfl, xs, SqL.of e1⟩, k1 H1 h1 _ fun y L2 H2 ⟨i, ey, k2⟩ h2 => ?_⟩
    subst ey
    obtain ⟨xs2, k, y, e2, b1, b2, b3, b4, L', h', n⟩ := k2 H2 h2
    exact ⟨p, xs2, i, k, y, rfl, rfl, e2, b1, b2, b3, b4, q _ _ _ n h'⟩
/-! ### slices -/
def slW (X : Cx) : V → Option Int → Option Int → Hp → VK → Prop := fun x lo hi H Q => ∀ pins s σ v vl vu sl, Inv X pins σ H s → RelV x v → s.heap.IsSliceOf sl vl vu .none → IsPart vl lo → IsPart vu hi →
    ∃ T id, typeLookup (.type T) "__getitem__" = pure (some (.builtin id)) ∧ s.TypeIs v T ∧ wpAny (model X.prog X.w) X.A (getItem v (.ref sl)) (EP X pins σ Q) X.xe s
theorem slWr : SlR X (slW X) := fun pins s σ H x v vl vu lo hi sl Q I rx hs pl pu h => h pins s σ v vl vu sl I rx hs pl pu
def GSl (T : List (Addr × Str)) (X : Cx) (x : V) (lo hi : Option Int) (L : List SA) (K : GK) : Prop := ∀ H, Hs T L H → ∀ Q : VK, (∀ v L' H', K v L' → Hs T L' H' → Q v H') → slW X x lo hi H Q
theorem GSl.of {r : V → Option Int → Option Int → Hp → VK → Prop} {lo hi : Option Int} (hr : SlR X r) (w : ∀ H, Hs T L H → ∀ Q : VK, (∀ v L' H', K v L' → Hs T L' H' → Q v H') → r x lo hi H Q) : GSl T X x lo hi L K :=
  fun H hs Q q pins s σ v vl vu sl I rx hsl pl pu => hr pins s σ H x v vl vu lo hi sl Q I rx hsl pl pu (w H hs Q q)
/-- a part of a slice -/
def GO (T : List (Addr × Str)) (X : Cx) (e : Option Expr) (σ : St) (L : List SA) (K : Option Int → List SA → Prop) : Prop := match e with
  | none => K none L
  | some e => GE T X e σ L fun v L1 => ∃ i, v = .int i ∧ K (some i) L1
def oW (X : Cx) : Option Expr → TO
  | none => tNoPart
  | some e => tPart (eW X e)
theorem poW : ∀ e : Option Expr, PO X e (oW X e)
  | none => po_none
  | some e => po_some peW
theorem go_run {e : Option Expr} {K : Option Int → List SA → Prop} (h : GO T X e σ L K) {H : Hp} (hs : Hs T L H) {Q : Option Int → Hp → Prop} (q : ∀ v L' H', K v L' → Hs T L' H' → Q v H') : oW X e σ H Q := by
  cases e with
  | none => exact q _ _ _ h hs
  | some e => exact h H hs _ fun v L1 H1 ⟨i, ev, k⟩ h1 => ⟨i, ev, q _ _ _ k h1⟩
theorem ge_slice {lo hi : Option Expr} (h : GE T X e σ L fun x L1 => GO T X lo σ L1 fun l L2 => GO T X hi σ L2 fun u L3 => GSl T X x l u L3 K) : GE T X (.Subscript e (.Slice lo hi none p2) pos) σ L K :=
  GE.of (pe_slice slWr peW (poW lo) (poW hi)) fun H hs Q q => h H hs _ fun x L1 H1 k1 h1 => go_run k1 h1 fun l L2 H2 k2 h2 => go_run k2 h2 fun u L3 H3 k3 h3 => k3 H3 h3 Q q
theorem goN {K : Option Int → List SA → Prop} (k : K none L) : GO T X none σ L K := k
theorem goS {e : Expr} {K : Option Int → List SA → Prop} (k : GE T X e σ L fun v L1 => ∃ i, v = .int i ∧ K (some i) L1) : GO T X (some e) σ L K := k
def cutD {α : Type} (ds : List α) (lo hi : Option Int) : List α := (ds.drop (HT.sIx ds.length 0 lo)).take (HT.sIx ds.length ds.length hi - HT.sIx ds.length 0 lo)
theorem cutD_map {β : Type} (f : α → β) (ds : List α) (lo hi : Option Int) : cutD (ds.map f) lo hi = (cutD ds lo hi).map f := by simp [cutD, List.map_take, List.map_drop]
theorem gsl_lst {xs : List V} {lo hi : Option Int} (s : Sel L (pt p (.lst xs)) R') (k : ∀ q, K (.ref q) (pt q (.lst (cutD xs lo hi)) :: L)) : GSl T X (.ref p) lo hi L K :=
  GSl.of sl_list fun H hs Q q => ⟨p, xs, rfl, SqL.of (hs.at s), fun r hr => q _ _ _ (k r) (hs.new hr fun _ => nofun)⟩
theorem A2r.cut {h : Hp} {xs : List V} {ds : List α} (a : A2r R h xs ds) (lo hi : Option Int) : A2r R h (cutV xs lo hi) (cutD ds lo hi) := by
  unfold cutV cutD
  rw [a.length]
  exact (a.drop _).take _
theorem gsl_R {ds : List α} {lo hi : Option Int} (s : Sel L (LstR R p ds) R') (k : ∀ q, K (.ref q) (LstR R q (cutD ds lo hi) :: L)) : GSl T X (.ref p) lo hi L K :=
  GSl.of sl_list fun H hs Q q => by
    obtain ⟨xs, e, a⟩ := hs.atR s
    exact ⟨p, xs, rfl, SqL.of e, fun r hr => q _ _ _ (k r) (hs.newR hr (a.cut lo hi))⟩
/-- a slice of a tuple of data: itself where it is whole -/
theorem gsl_tl {ds : List α} {lo hi : Option Int} (r : Rv T L x (rTl R) ds) (k : ∀ v, K v (Val (rTl R) v (cutD ds lo hi) :: L)) : GSl T X x lo hi L K :=
  GSl.of sl_tupA fun H hs Q q => by
    obtain ⟨a, xs, rfl, e, hr⟩ := r H hs
    refine ⟨a, xs, rfl, SqT.of e, fun hw => ?_, fun _ p hp => ?_⟩
    · have ec : cutD ds lo hi = ds := by
        unfold cutD
        rw [← hr.length, hw.1, hw.2, List.drop_zero, Nat.sub_zero, hr.length, List.take_length]
      exact q _ _ _ (k (.ref a)) (hs.addP Val.pers (by rw [ec]; exact ⟨a, xs, rfl, e, hr⟩))
    · have h2 : Hs T (pt p (.tup (cutV xs lo hi)) :: L) (upd H p (.tup (cutV xs lo hi))) := hs.new hp fun _ => nofun
      refine q _ _ _ (k (.ref p)) (h2.tail.addP Val.pers ⟨p, cutV xs lo hi, rfl, upd_same, (hr.cut lo hi).mono fun b zs eb => ?_⟩)
      rw [upd_ne (ne_of_none eb hp)]; exact eb
end
end SW
set_option Elab.async false
set_option linter.all false
set_option maxRecDepth 100000
set_option maxHeartbeats 2000000
/-! Sw8: rows entailed; entry with closed ends; calls by entailment; operators of lists; raise; lambdas. -/
namespace SW
open PySem PySem.Spec L2
open PyProof.Rows hiding St
section
variable {T : List (Addr × Str)} {X : Cx} {σ : St} {L L' : List SA} {K : GK} {D : EndsL}
theorem GE.ent {e : Expr} (t : Ent T L L') (h : GE T X e σ L' K) : GE T X e σ L K := fun H hs Q k => h H (t H hs) Q k
theorem GT.ent {e : Expr} {K : Bool → List SA → Prop} (t : Ent T L L') (h : GT T X e σ L' K) : GT T X e σ L K := fun H hs Q k => h H (t H hs) Q k
theorem GA.ent {e : List Expr} {K : List V → List SA → Prop} (t : Ent T L L') (h : GA T X e σ L' K) : GA T X e σ L K := fun H hs Q k => h H (t H hs) Q k
theorem GS.ent {e : Stmt} (t : Ent T L L') (h : GS T X e D σ L') : GS T X e D σ L := fun H hs Q k => h H (t H hs) Q k
theorem GSs.ent {e : List Stmt} (t : Ent T L L') (h : GSs T X e D σ L') : GSs T X e D σ L := fun H hs Q k => h H (t H hs) Q k
theorem GC.ent {f : Value} {xs : List V} (t : Ent T L L') (h : GC T X f xs L' K) : GC T X f xs L K := fun H hs Q k => h H (t H hs) Q k
theorem GOp.ent {f : Value → Value → Sem Value} {x y : V} (t : Ent T L L') (h : GOp T X f x y L' K) : GOp T X f x y L K := fun H hs Q k => h H (t H hs) Q k
theorem GIx.ent {x y : V} (t : Ent T L L') (h : GIx T X x y L' K) : GIx T X x y L K := fun H hs Q k => h H (t H hs) Q k
theorem GG.ent {e : Expr} {v : V} {K : St → List SA → Prop} (t : Ent T L L') (h : GG T X e v σ L' K) : GG T X e v σ L K := fun H hs Q k => h H (t H hs) Q k
/-- rows that the heap picks -/
theorem GE.via {e : Expr} (h : ∀ H, Hs T L H → ∃ L', Hs T L' H ∧ GE T X e σ L' K) : GE T X e σ L K := fun H hs Q k => by
  obtain ⟨L', h', g⟩ := h H hs
  exact g H h' Q k
theorem GSs.via {e : List Stmt} (h : ∀ H, Hs T L H → ∃ L', Hs T L' H ∧ GSs T X e D σ L') : GSs T X e D σ L := fun H hs Q k => by
  obtain ⟨L', h', g⟩ := h H hs
  exact g H h' Q k
theorem GS.via {e : Stmt} (h : ∀ H, Hs T L H → ∃ L', Hs T L' H ∧ GS T X e D σ L') : GS T X e D σ L := fun H hs Q k => by
  obtain ⟨L', h', g⟩ := h H hs
  exact g H h' Q k
theorem GSs.mono {e : List Stmt} {D' : EndsL} (h : GSs T X e D' σ L) (n : ∀ σ L, D'.nx σ L → D.nx σ L) (r : ∀ v L, D'.rt v L → D.rt v L) (b : ∀ σ L, D'.bk σ L → D.bk σ L) (c : ∀ σ L, D'.ct σ L → D.ct σ L) : GSs T X e D σ L :=
  fun H hs D0 l => h H hs D0 ⟨fun σ' L' H' k h' => l.nx σ' L' H' (n _ _ k) h', fun v L' H' k h' => l.rt v L' H' (r _ _ k) h', fun σ' L' H' k h' => l.bk σ' L' H' (b _ _ k) h', fun σ' L' H' k h' => l.ct σ' L' H' (c _ _ k) h'⟩
end
theorem Cv.scal {α : Type} {R : PRep α} {f : α → V} {g : α → Prop} (c : Scal R f g) {a : Addr} {ds : List α} (k : ∀ d ∈ ds, g d) : Cv (SW.pt a (.lst (ds.map f))) (LstR R a ds) := fun h e => lstR_pt c k h e
/-! ### entry, ends closed under entailment -/
def Clo (T : List (Addr × Str)) (P : List SA → Prop) : List SA → Prop := fun L => ∃ L0, Ent T L L0 ∧ P L0
theorem Clo.mk {T : List (Addr × Str)} {P : List SA → Prop} {L L0 : List SA} (p : P L0) (e : Ent T L L0) : Clo T P L := ⟨L0, e, p⟩
theorem Clo.id {T : List (Addr × Str)} {P : List SA → Prop} {L : List SA} (p : P L) : Clo T P L := ⟨L, Ent.refl, p⟩
theorem Clo.ent {T : List (Addr × Str)} {P : List SA → Prop} {L L0 : List SA} (e : Ent T L L0) (p : Clo T P L0) : Clo T P L := by
  obtain ⟨L1, e1, p⟩ := p
  exact ⟨L1, e.trans e1, p⟩
def clK (T : List (Addr × Str)) (K : GK) : GK := fun v => Clo T (K v)
def clX (T : List (Addr × Str)) (kx : KX) : KX := fun c d => Clo T (kx c d)
section
variable {T : List (Addr × Str)} {P : Program} {w : World} {K : PySem.W.Frag} {mg : Str → Option Value} {base : Heap} {x qual : Str} {pa : Arguments} {bd : List Stmt} {sc : Scope} {f : Addr} {fd : FuncData} {N ps : List Str} {ks : List (Str × NameKind)} {k : Nat} {S : SpL}
/-- the entry of a def: its ends are closed -/
theorem def_in (F : FunD K x qual pa bd sc [] [] f fd) (S0 : DefSc N ps ks sc) (hl : ∀ vs L K kx, S vs L K kx → vs.length = ps.length)
    (hb : ∀ (A : Around) (outer : List Env) (s : Shared) (H : Hp) (E : XK), Room k (bx P w K mg base N qual sc f fd.code A outer s H E).A → Nm (bx P w K mg base N qual sc f fd.code A outer s H E) N ks → ∀ (vs : List V) (L : List SA) (KK : GK) (kx : KX), S vs L KK kx →
      Xok T (bx P w K mg base N qual sc f fd.code A outer s H E) (clX T kx) → ∀ σ, σ = start N vs → GSs T (bx P w K mg base N qual sc f fd.code A outer s H E) bd { nx := fun _ => Clo T (KK .non), rt := clK T KK } σ L) :
    FnOk P w K mg base (L2.CX P w) (k + 1) f fd ps (spOf T S) := by
  obtain ⟨oc, od, dV, kV, doc, pm, an, cdv0, ct, osl, rfl, lk, hcd, _, _⟩ := F.ex
  refine fn_of lk hcd S0.fs (fun vs H Q E ⟨L, KK, kx, _, h, _⟩ => hl vs L KK kx h) fun A outer s H vs Q E hr hsp => ?_
  obtain ⟨L, KK, kx, hs, h, q, qx⟩ := hsp
  have hx : Xok T (bx P w K mg base N qual sc f cdv0 A outer s H E) (clX T kx) := ⟨fun cls d _ H => E cls d H, takes_of rfl rfl rfl rfl, fun cls d σ L H ⟨L0, e, k⟩ h => qx cls d L0 H k (e H h)⟩
  have g := hb A outer s H E hr ⟨rfl, S0.kseq, S0.fs.nd, S0.kd⟩ vs L KK kx h hx _ rfl
  exact ⟨_, pssW, g H hs _ ⟨fun σ' L' H' ⟨L0, e, k⟩ h => q _ _ _ k (e _ h), fun v L' H' ⟨L0, e, k⟩ h => q _ _ _ k (e _ h), fun _ _ _ k => k.elim, fun _ _ _ k => k.elim⟩⟩
end
/-! ### calls, by entailment -/
/-- what a call asks: rows that the rows at hand entail -/
def CallS (T : List (Addr × Str)) (S : SpL) (vs : List V) (L : List SA) (K : GK) (kx : KX) : Prop := ∃ L', Ent T L L' ∧ S vs L' K kx
theorem CallS.mk {T : List (Addr × Str)} {S : SpL} {vs : List V} {L L' : List SA} {K : GK} {kx : KX} (s : S vs L' K kx) (e : Ent T L L') : CallS T S vs L K kx := ⟨L', e, s⟩
def spE (T : List (Addr × Str)) (S : SpL) : SpL := fun vs L K kx => CallS T S vs L K kx
theorem spE_le {T : List (Addr × Str)} {S : SpL} : ∀ vs H Q E, spOf T (spE T S) vs H Q E → spOf T S vs H Q E := fun vs H Q E ⟨L, K, kx, hs, ⟨L', e, s⟩, q, qx⟩ => ⟨L', K, kx, e H hs, s, q, qx⟩
section
variable {T : List (Addr × Str)} {P : Program} {w : World} {K : PySem.W.Frag} {mg : Str → Option Value} {base : Heap} {k : Nat} {C m x : Str} {S : SpL}
theorem FnAt.e (F : FnAt T P w K mg base k x S) : FnAt T P w K mg base k x (spE T S) := by
  obtain ⟨⟨fd, ps, F1, hb⟩, h2, h3⟩ := F
  exact ⟨⟨fd, ps, F1.imp spE_le, hb⟩, h2, h3⟩
theorem MeAt.e (F : MeAt T P w K mg base k C m S) : MeAt T P w K mg base k C m (spE T S) := by
  obtain ⟨⟨fd, ps, F1, hb⟩, h2, h3⟩ := F
  exact ⟨⟨fd, ps, F1.imp spE_le, hb⟩, h2, h3⟩
theorem MkAt.e (F : MkAt T P w K mg base k C S) : MkAt T P w K mg base k C (spE T S) := by
  obtain ⟨⟨fd, ps, F1, hb⟩, h2, h3⟩ := F
  exact ⟨⟨fd, ps, F1.imp spE_le, hb⟩, h2, h3⟩
theorem FnAt.mono {j : Nat} (F : FnAt T P w K mg base j x S) (h : j ≤ k) : FnAt T P w K mg base k x S := by
  obtain ⟨⟨fd, ps, F1, hb⟩, h2, h3⟩ := F
  exact ⟨⟨fd, ps, F1.mono h, hb⟩, h2, h3⟩
end
/-! ### raise -/
structure ExAt (K : PySem.W.Frag) (mg : Str → Option Value) (x : Str) : Prop where
  glo : mg x = some (.ref (He.ga K x))
  exc : (He.Fa.exc x).ok K = true
section
variable {T : List (Addr × Str)} {X : Cx} {σ : St} {L : List SA} {K : GK} {D : EndsL} {N : List Str} {ks : List (Str × NameKind)} {x : Str} {p p2 pos pos2 : Pos} {kx : KX} {m : Str} {j : Nat}
theorem gs_raise (n : Nm X N ks) (h : Kd ks x .globalImplicit) (hc : X.calm = true) (ex : ExAt X.K X.mg x) (hx : Xok T X kx) (hd : dbg x = false) (k : kx (.ref (He.ga X.K x)) none L) :
    GS T X (.Raise (some (.Call (.Name x p) [.Constant (.str m) j p2] [] pos)) none pos2) D σ L := by
  obtain ⟨W, tk, hW⟩ := hx
  obtain ⟨e1, e2, e3, e4⟩ := He.exc_ok ex.exc
  exact GS.of (ps_raise hc tk (pmk_own PySem.F.excBase_ValueError e1 ex.glo e2 (raises_own e3 e4) (n.gl h) (dbg1 hd))) fun H hs D0 l => hW _ _ _ _ _ k hs
end
/-! ### what a lambda is given to -/
def Catch (K : PySem.W.Frag) : List (Str × Str) → Value → (Str → Prop) → Prop
  | [], _, _ => False
  | (e, r) :: cs, c, P => ∃ b, PySem.W.exmOne K c (.ref (He.ga K e)) = some b ∧ (b = true → P r) ∧ (b = false → Catch K cs c P)
theorem Catch.imp {K : PySem.W.Frag} {P P' : Str → Prop} (f : ∀ r, P r → P' r) : ∀ {cs : List (Str × Str)} {c : Value}, Catch K cs c P → Catch K cs c P'
  | [], _, h => h.elim
  | (e, r) :: cs, c, ⟨b, h1, h2, h3⟩ => ⟨b, h1, fun z => f _ (h2 z), fun z => Catch.imp f (h3 z)⟩
inductive THds (sg : Scope) : List ExceptHandler → List (Str × Str) → Prop
  | nil : THds sg [] []
  | cons {e r : Str} {j : Nat} {p1 p2 p3 p4 : Pos} {hds : List ExceptHandler} {cs : List (Str × Str)} (h : sg.names.lookup e = some .globalImplicit) (hd : (e == ("__debug__" : Str)) = false) (t : THds sg hds cs) :
      THds sg (.ExceptHandler (some (.Name e p1)) none [.Return (some (.Constant (.str r) j p2)) p3] p4 :: hds) ((e, r) :: cs)
def TToldM (K : PySem.W.Frag) (cs : List (Str × Str)) : (XK → Hp → VK → Prop) → Hp → VK → Prop := fun tl H Q => tl (fun cls _ H' => Catch K cs cls fun r => Q (.str r) H') H Q
def tlCs (K : PySem.W.Frag) (cs : List (Str × Str)) : List (Value × (Addr → Value → Option Addr → TS)) := cs.map fun q => (.ref (He.ga K q.1), fun _ _ _ => fun D _ H => D.rt (.str q.2) H)
theorem hds_ok {Y : Cx} {sg : Scope} (hsc : Y.env.scope = sg) {hds : List ExceptHandler} {cs : List (Str × Str)} (t : THds sg hds cs) (hm : ∀ q ∈ cs, Y.mg q.1 = some (.ref (He.ga Y.K q.1))) : HdsOk Y hds (tlCs Y.K cs) := by
  induction t with
  | nil => exact .nil
  | @cons e r j p1 p2 p3 p4 hds cs h hd t ih =>
    exact .cons ⟨by show Y.env.scope.names.lookup e = _; rw [hsc]; exact h, hd, .inl (hm _ List.mem_cons_self)⟩ (fun a oe cls d pn _ _ => pss_one (ps_ret pe_str)) (ih fun q hq => hm q (List.mem_cons_of_mem _ hq))
theorem catch_many {K : PySem.W.Frag} {Wout : WX} {D : Ends} {Q : VK} (hD : D.rt = Q) {σ : St} {H : Hp} {d : Option Addr} : ∀ {cs : List (Str × Str)} {c : Value}, Catch K cs c (fun r => Q (.str r) H) → wMany K Wout D (tlCs K cs) c d σ H
  | [], _, h => h.elim
  | (e, r) :: cs, c, ⟨b, h1, h2, h3⟩ => ⟨b, h1, fun z a _ => by show D.rt (.str r) H; rw [hD]; exact h2 z, fun z => catch_many hD (h3 z)⟩
theorem told_givesM {X : Cx} {Ng : List Str} {x a q : Str} {sg : Scope} {g : Addr} {cdg : Value} {h0 : ExceptHandler} {hds : List ExceptHandler} {cs : List (Str × Str)} {p1 p2 p3 p8 : Pos} (t : THds sg (h0 :: hds) cs) (hm : ∀ q ∈ cs, X.mg q.1 = some (.ref (He.ga X.K q.1)))
    (hi : ∀ f : Addr, (start Ng [V.ref f])[0]? = some (some (V.ref f))) :
    LamX.GivesTo X Ng x sg g cdg [.Try [.Return (some (.Call (.Name a p1) [] [] p2)) p3] (h0 :: hds) [] [] p8] a q (TToldM X.K cs) := by
  intro f c' s H Q tl act hc h
  have tk : Takes (cxOf C8.CX0 X.prog X.w X.K X.mg X.base Ng x sg g cdg X.A X.stack s H C8.E0).nox (fun _ _ _ _ => False) := LamX.takes0
  refine ⟨_, pss_one (ps_try_many (X := (cxOf C8.CX0 X.prog X.w X.K X.mg X.base Ng x sg g cdg X.A X.stack s H C8.E0).nox) (l := tlCs X.K cs)
      (tb := fun W D σ H => ∃ Ech : XK, (∀ cls d σ' H', Ech cls d H' → W cls d σ' H') ∧ σ[0]? = some (some (.ref f)) ∧ H c' = some (LamX.CodeO c' q) ∧ tl Ech H D.rt)
      rfl rfl tk (fun W pn xe tk _ => ?_) (hds_ok (Y := (cxOf C8.CX0 X.prog X.w X.K X.mg X.base Ng x sg g cdg X.A X.stack s H C8.E0).nox) rfl t hm)), ?_⟩
  · refine ⟨fun pins s' σ H' D I h' => ?_⟩
    obtain ⟨Ech, hW, h1, h2, h3⟩ := h'
    have hp := act W pn xe Ech p1 p2 tk hW
    have hq := pss_one (ps_ret (pos := p3) hp)
    exact hq.run pins s' σ H' D I ⟨h1, h2, h3⟩
  · exact ⟨fun cls _ H' => Catch X.K cs cls fun r => Q (.str r) H', fun cls d σ' H' h => catch_many rfl h, hi f, hc, h⟩
/-- the def that calls what it got, and tells the class of what it catches -/
structure ToldAt (K : PySem.W.Frag) (mg : Str → Option Value) (x : Str) (cs : List (Str × Str)) : Prop where
  ex : ∃ (fd : FuncData) (pg : Arguments) (bg : List Stmt) (sg : Scope) (Ng : List Str) (a : Str) (h0 : ExceptHandler) (hds : List ExceptHandler) (p1 p2 p3 p8 : Pos), FunD K x x pg bg sg [] [] (He.ga K x) fd ∧ Binds K fd [a] [] ∧ FnScope Ng [a] sg ∧ Ng[0]? = some a ∧ Vis sg a ∧
    bg = [.Try [.Return (some (.Call (.Name a p1) [] [] p2)) p3] (h0 :: hds) [] [] p8] ∧ THds sg (h0 :: hds) cs ∧ (∀ f : Addr, (start Ng [V.ref f])[0]? = some (some (V.ref f))) ∧ (a == ("__debug__" : Str)) = false ∧ (a == ("__classdict__" : Str)) = false
  mgx : mg x = some (.ref (He.ga K x))
  cls : ∀ q ∈ cs, mg q.1 = some (.ref (He.ga K q.1))
/-- where lambdas of the running def have their code -/
structure LamAt (T : List (Addr × Str)) (X : Cx) : Prop where
  ex : ∃ c P, LamX.TabB X.base X.mg c P ∧ X.env.code = .ref c ∧ (P, X.env.qual ++ "<lambda>") ∈ T ∧ ∀ p ∈ T, p.1 = P → p.2 = X.env.qual ++ "<lambda>"
theorem ge_told {T : List (Addr × Str)} {X : Cx} {σ : St} {L : List SA} {K : GK} {N : List Str} {ks : List (Str × NameKind)} {x : Str} {cs : List (Str × Str)} {k : Nat} {params : Arguments} {body : Expr} {scope : Scope} {p lpos pos : Pos} (n : Nm X N ks) (h : Kd ks x .globalImplicit) (D : ToldAt X.K X.mg x cs) (LA : LamAt T X)
    (hr : Room (k + 2) X.A) (LS : LamX.LamS X.env.scope scope) (hdef : defaultsOf params X.env = ([], [])) (hbind : ∀ (q : Str) (cl : List (Str × Addr)) (pm cv ctv : Value), bindArgs (PySem.W.kla_fn "<lambda>" q params body scope cl pm cv ctv) ⟨[], []⟩ = pure []) (hd : dbg x = false) (nd : (scope.names.map (·.1)).Nodup)
    (hb : ∀ A outer s H E f c', Room k (LamX.lamCx X A outer s H E scope f c').A → Nm (LamX.lamCx X A outer s H E scope f c') N scope.names → Xok T (LamX.lamCx X A outer s H E scope f c') (fun cls _ L' => Catch X.K cs cls fun r => K (.str r) L') → GE T (LamX.lamCx X A outer s H E scope f c') body σ L K) :
    GE T X (.Call (.Name x p) [.Lambda params body scope lpos] [] pos) σ L K := by
  obtain ⟨fd, pg, bg, sg, Ng, a, h0, hds, p1, p2, p3, p8, F, hB, Sg, hNg, hva, ebg, th, hi, ha1, ha2⟩ := D.ex
  subst ebg
  obtain ⟨oc, od, dV, kV, doc, pm, an, cdv, ct, osl, rfl, lk, hcd, _, _⟩ := F.ex
  obtain ⟨c, P, TB, hcode, hmT, hu⟩ := LA.ex
  have hp := LamX.pe_lamcall (T := T) (t := fun E σ H Q => ∀ A outer s H0 f c', Room k (LamX.lamCx X A outer s H0 E scope f c').A → eW (LamX.lamCx X A outer s H0 E scope f c') body σ H Q) (p := p) (lpos := lpos) (pos := pos) (n.gl h) D.mgx F.kp lk hcd hB Sg hNg hva (told_givesM th D.cls hi) TB hcode hmT hu hr LS hdef hbind
    (fun A outer s H E f c' hr' => ⟨fun pins s' σ' H' Q I h' => h' A outer s H f c' hr' pins s' I⟩) (dbg1 hd) ha1 ha2
  refine GE.of hp fun H hs Q q => ⟨hs.tabs, fun H1 e1 t1 => ?_⟩
  intro A outer s H0 f c' hr'
  have hx : Xok T (LamX.lamCx X A outer s H0 (fun cls _ H' => Catch X.K cs cls fun r => Q (.str r) H') scope f c') (fun cls _ L' => Catch X.K cs cls fun r => K (.str r) L') :=
    ⟨fun cls d _ H => Catch X.K cs cls fun r => Q (.str r) H, takes_of rfl rfl rfl rfl, fun cls d σ L H k hs => k.imp fun r z => q _ _ _ z hs⟩
  exact hb A outer s H0 _ f c' hr' ⟨n.nn, rfl, n.nd, nd⟩ hx H1 (hs.extN e1 t1) Q q
end SW
set_option Elab.async false
set_option linter.all false
set_option maxRecDepth 100000
set_option maxHeartbeats 2000000
/-! Sw9: lists by operators and built-ins; stores by an operator; members. -/
namespace SW
open PySem PySem.Spec L2
open PyProof.Rows hiding St
section
variable {T : List (Addr × Str)} {X : Cx} {σ : St} {L L1 L' R' R2' : List SA} {K : GK} {D : EndsL} {p q : Addr} {α : Type} {R : PRep α} {x y v w : V} {N : List Str} {ks : List (Str × NameKind)}
/-! ### + and * of lists and tuples -/
theorem go_catL {xs ys : List V} (s : Sel L (pt p (.lst xs)) R') (s2 : Sel L (pt q (.lst ys)) R2') (hz : xs.length + ys.length ≤ sizeLine) (k : ∀ r, K (.ref r) (pt r (.lst (xs ++ ys)) :: L)) : GOp T X (binaryOp .Add) (.ref p) (.ref q) L K :=
  GOp.of op_cat fun H hs Q q' => ⟨p, q, xs, ys, rfl, rfl, hs.at s, hs.at s2, hz, fun r hr => q' _ _ _ (k r) (hs.new hr fun _ => nofun)⟩
theorem go_catR {ds es : List α} (s : Sel L (LstR R p ds) R') (s2 : Sel L (LstR R q es) R2') (hz : ds.length + es.length ≤ sizeLine) (k : ∀ r, K (.ref r) (LstR R r (ds ++ es) :: L)) : GOp T X (binaryOp .Add) (.ref p) (.ref q) L K :=
  GOp.of op_cat fun H hs Q q' => by
    obtain ⟨xs, e1, a1⟩ := hs.atR s
    obtain ⟨ys, e2, a2⟩ := hs.atR s2
    exact ⟨p, q, xs, ys, rfl, rfl, e1, e2, by rw [a1.length, a2.length]; exact hz, fun r hr => q' _ _ _ (k r) (hs.newR hr (a1.app a2))⟩
theorem go_rep {xs : List V} {i : Int} (s : Sel L (pt p (.lst xs)) R') (h0 : -(2 ^ 63) ≤ i) (h1 : i < 2 ^ 63) (hz : xs.length * i.toNat ≤ sizeLine) (k : ∀ r, K (.ref r) (pt r (.lst (List.replicate i.toNat xs).flatten) :: L)) : GOp T X (binaryOp .Mult) (.ref p) (.int i) L K :=
  GOp.of op_rep fun H hs Q q' => ⟨p, i, xs, rfl, rfl, hs.at s, h0, h1, hz, fun r hr => q' _ _ _ (k r) (hs.new hr fun _ => nofun)⟩
/-- t + u of tuples of data -/
theorem go_catT {ds es : List α} (r1 : Rv T L x (rTl R) ds) (r2 : Rv T L y (rTl R) es) (hz : ds.length + es.length ≤ sizeLine) (k : ∀ v, K v (Val (rTl R) v (ds ++ es) :: L)) : GOp T X (binaryOp .Add) x y L K := by
  refine GOp.of op_catA fun H hs Q q => ?_
  obtain ⟨a, xs, rfl, e1, a1⟩ := r1 H hs
  obtain ⟨b, ys, rfl, e2, a2⟩ := r2 H hs
  refine ⟨a, b, xs, ys, rfl, rfl, SqT.of e1, SqT.of e2, by rw [a1.length, a2.length]; exact hz, fun e => ?_, fun _ e => ?_, fun _ _ p hp => ?_⟩
  · subst e
    cases a1
    exact q _ _ _ (k _) (hs.addP Val.pers ⟨b, ys, rfl, e2, a2⟩)
  · subst e
    cases a2
    refine q _ _ _ (k _) (hs.addP Val.pers ⟨a, xs, rfl, e1, by rw [List.append_nil]; exact a1⟩)
  · have h2 : Hs T (pt p (.tup (xs ++ ys)) :: L) (upd H p (.tup (xs ++ ys))) := hs.new hp fun _ => nofun
    refine q _ _ _ (k _) (h2.tail.addP Val.pers ⟨p, xs ++ ys, rfl, upd_same, (a1.app a2).mono fun b zs eb => ?_⟩)
    rw [upd_ne (ne_of_none eb hp)]; exact eb
/-! ### members -/
theorem inV_int (i : Int) : ∀ ns : List Int, inV (.int i) (ns.map V.int) = decide (i ∈ ns)
  | [] => by simp [inV]
  | n :: ns => by
    have ih := inV_int i ns
    unfold inV at ih ⊢
    rw [List.map_cons, List.any_cons, ih]
    by_cases h : n = i
    · subst h; simp [eqV]
    · have h' : i ≠ n := fun z => h z.symm
      simp [eqV, h, h', List.mem_cons]
theorem inV_str (i : Str) : ∀ ns : List Str, inV (.str i) (ns.map V.str) = decide (i ∈ ns)
  | [] => by simp [inV]
  | n :: ns => by
    have ih := inV_str i ns
    unfold inV at ih ⊢
    rw [List.map_cons, List.any_cons, ih]
    by_cases h : n = i
    · subst h; simp [eqV]
    · have h' : i ≠ n := fun z => h z.symm
      simp [eqV, h, h', List.mem_cons]
theorem all_flat {β : Type} {f : β → V} (h : ∀ b, flatV (f b) = true) (ns : List β) : (ns.map f).all flatV = true := by
  simp [List.all_eq_true, h]
theorem go_inI {i : Int} {ns : List Int} (s : Sel L (pt p (.lst (ns.map V.int))) R') (k : K (.bl (decide (i ∈ ns))) L) : GOp T X (compareOp .In) (.int i) (.ref p) L K :=
  GOp.of op_in_seq fun H hs Q q => ⟨p, _, rfl, .inl (SqL.of (hs.at s)), rfl, all_flat (fun _ => rfl) ns, q _ _ _ (by rw [if_neg Bool.false_ne_true, inV_int]; exact k) hs⟩
theorem go_ninI {i : Int} {ns : List Int} (s : Sel L (pt p (.lst (ns.map V.int))) R') (k : K (.bl (!decide (i ∈ ns))) L) : GOp T X (compareOp .NotIn) (.int i) (.ref p) L K :=
  GOp.of op_notIn_seq fun H hs Q q => ⟨p, _, rfl, .inl (SqL.of (hs.at s)), rfl, all_flat (fun _ => rfl) ns, q _ _ _ (by rw [if_pos rfl, inV_int]; exact k) hs⟩
theorem go_inT {i : Str} {ns : List Str} (s : Sel L (pt p (.lst (ns.map V.str))) R') (k : K (.bl (decide (i ∈ ns))) L) : GOp T X (compareOp .In) (.str i) (.ref p) L K :=
  GOp.of op_in_seq fun H hs Q q => ⟨p, _, rfl, .inl (SqL.of (hs.at s)), rfl, all_flat (fun _ => rfl) ns, q _ _ _ (by rw [if_neg Bool.false_ne_true, inV_str]; exact k) hs⟩
theorem go_ninT {i : Str} {ns : List Str} (s : Sel L (pt p (.lst (ns.map V.str))) R') (k : K (.bl (!decide (i ∈ ns))) L) : GOp T X (compareOp .NotIn) (.str i) (.ref p) L K :=
  GOp.of op_notIn_seq fun H hs Q q => ⟨p, _, rfl, .inl (SqL.of (hs.at s)), rfl, all_flat (fun _ => rfl) ns, q _ _ _ (by rw [if_pos rfl, inV_str]; exact k) hs⟩
theorem any_mem {α : Type} {R : PRep α} [DecidableEq α] (d : α) : ∀ ds : List α, ((ds.map R.enc).any fun z => PyData.eqv z (R.enc d)) = decide (d ∈ ds)
  | [] => by simp
  | e :: ds => by
    rw [List.map_cons, List.any_cons, any_mem d ds, eqv_enc]
    by_cases h : e = d
    · subst h; simp
    · have h' : d ≠ e := fun z => h z.symm
      simp [h, h', List.mem_cons]
theorem go_inR {d : α} {ds : List α} [DecidableEq α] {k : Nat} (hr : Room k X.A) (r : Rv T L x R d) (s : Sel L (LstR R p ds) R') (n : R.dep ≤ 63) (q : K (.bl (decide (d ∈ ds))) L) : GOp T X (compareOp .In) x (.ref p) L K :=
  GOp.of (op_inD (by have := hr.un; omega)) fun H hs Q q' => by
    have h1 := sees_rv (KK := X.K) r (Nat.le_succ_of_le n) H hs
    have h2 := sees_lst (KK := X.K) s n H hs
    exact ⟨_, _, h1.1, h2.1, h1.2, h2.2, q' _ _ _ (by rw [any_mem]; exact q) hs⟩
theorem go_ninR {d : α} {ds : List α} [DecidableEq α] {k : Nat} (hr : Room k X.A) (r : Rv T L x R d) (s : Sel L (LstR R p ds) R') (n : R.dep ≤ 63) (q : K (.bl (!decide (d ∈ ds))) L) : GOp T X (compareOp .NotIn) x (.ref p) L K :=
  GOp.of (op_notInD (by have := hr.un; omega)) fun H hs Q q' => by
    have h1 := sees_rv (KK := X.K) r (Nat.le_succ_of_le n) H hs
    have h2 := sees_lst (KK := X.K) s n H hs
    exact ⟨_, _, h1.1, h2.1, h1.2, h2.2, q' _ _ _ (by rw [any_mem]; exact q) hs⟩
/-! ### built-ins -/
theorem gc_max2 {i j : Int} (hc : X.calm = true) (k : K (.int (if j > i then j else i)) L) : GC T X (.builtin "max") [.int i, .int j] L K := GC.of (call_max2 hc) fun H hs Q q => ⟨i, j, rfl, q _ _ _ k hs⟩
theorem gc_min2 {i j : Int} (hc : X.calm = true) (k : K (.int (if j < i then j else i)) L) : GC T X (.builtin "min") [.int i, .int j] L K := GC.of (call_min2 hc) fun H hs Q q => ⟨i, j, rfl, q _ _ _ k hs⟩
theorem gc_sum {ns : List Int} (hc : X.calm = true) (s : Sel L (pt p (.lst (ns.map V.int))) R') (k : K (.int ns.sum) L) : GC T X (.builtin "sum") [.ref p] L K := GC.of (cr_sum hc) fun H hs Q q => ⟨p, ns, rfl, SqL.of (hs.at s), q _ _ _ k hs⟩
theorem gc_maxL {ns : List Int} (hc : X.calm = true) (s : Sel L (pt p (.lst (ns.map V.int))) R') (h0 : ns ≠ []) (k : ∀ m, m ∈ ns → (∀ y, y ∈ ns → y ≤ m) → K (.int m) L) : GC T X (.builtin "max") [.ref p] L K :=
  GC.of (cr_max hc) fun H hs Q q => ⟨p, ns, rfl, SqL.of (hs.at s), List.length_pos_iff.mpr h0, fun m h1 h2 => q _ _ _ (k m h1 h2) hs⟩
theorem gc_minL {ns : List Int} (hc : X.calm = true) (s : Sel L (pt p (.lst (ns.map V.int))) R') (h0 : ns ≠ []) (k : ∀ m, m ∈ ns → (∀ y, y ∈ ns → m ≤ y) → K (.int m) L) : GC T X (.builtin "min") [.ref p] L K :=
  GC.of (cr_min hc) fun H hs Q q => ⟨p, ns, rfl, SqL.of (hs.at s), List.length_pos_iff.mpr h0, fun m h1 h2 => q _ _ _ (k m h1 h2) hs⟩
theorem gc_strI {i : Int} (h : i.natAbs.log2 < 1920) (k : K (.str (toString i)) L) : GC T X (.type "str") [.int i] L K := GC.of call_str_int fun H hs Q q => ⟨i, rfl, h, q _ _ _ k hs⟩
theorem gc_list {xs : List V} (s : Sel L (pt p (.lst xs)) R') (k : ∀ r, K (.ref r) (pt r (.lst xs) :: L)) : GC T X (.type "list") [.ref p] L K :=
  GC.of call_list_of fun H hs Q q => ⟨p, xs, rfl, .inl (SqL.of (hs.at s)), fun r hr => q _ _ _ (k r) (hs.new hr fun _ => nofun)⟩
theorem gc_listR {ds : List α} (s : Sel L (LstR R p ds) R') (k : ∀ r, K (.ref r) (LstR R r ds :: L)) : GC T X (.type "list") [.ref p] L K :=
  GC.of call_list_of fun H hs Q q => by
    obtain ⟨xs, e1, a1⟩ := hs.atR s
    exact ⟨p, xs, rfl, .inl (SqL.of e1), fun r hr => q _ _ _ (k r) (hs.newR hr a1)⟩
theorem gc_listT {ds : List α} (r : Rv T L x (rTl R) ds) (k : ∀ r, K (.ref r) (LstR R r ds :: L)) : GC T X (.type "list") [x] L K :=
  GC.of call_list_of fun H hs Q q => by
    obtain ⟨a, xs, rfl, e1, a1⟩ := r H hs
    exact ⟨a, xs, rfl, .inr (SqT.of e1), fun r hr => q _ _ _ (k r) (hs.newR hr a1)⟩
theorem gc_tuple {xs : List V} (s : Sel L (pt p (.lst xs)) R') (k : ∀ r, K (.ref r) (pt r (.tup xs) :: L)) : GC T X (.type "tuple") [.ref p] L K :=
  GC.of call_tuple_of fun H hs Q q => ⟨p, xs, rfl, .inl ⟨SqL.of (hs.at s), fun r hr => q _ _ _ (k r) (hs.new hr fun _ => nofun)⟩⟩
theorem gc_tupleR {ds : List α} (s : Sel L (LstR R p ds) R') (k : ∀ v, K v (Val (rTl R) v ds :: L)) : GC T X (.type "tuple") [.ref p] L K :=
  GC.of call_tuple_of fun H hs Q q => by
    obtain ⟨xs, e1, a1⟩ := hs.atR s
    refine ⟨p, xs, rfl, .inl ⟨SqL.of e1, fun r hr => q _ _ _ (k _) ?_⟩⟩
    have h2 : Hs T (pt r (.tup xs) :: L) (upd H r (.tup xs)) := hs.new hr fun _ => nofun
    refine h2.tail.addP Val.pers ⟨r, xs, rfl, upd_same, a1.mono fun b zs eb => ?_⟩
    rw [upd_ne (ne_of_none eb hr)]; exact eb
theorem gc_tupleT {ds : List α} (r : Rv T L x (rTl R) ds) (k : K x L) : GC T X (.type "tuple") [x] L K :=
  GC.of call_tuple_of fun H hs Q q => by
    obtain ⟨a, xs, rfl, e1, a1⟩ := r H hs
    exact ⟨a, xs, rfl, .inr ⟨SqT.of e1, q _ _ _ k hs⟩⟩
theorem gc_lenR {ds : List α} (s : Sel L (LstR R p ds) R') (k : K (.int ds.length) L) : GC T X (.builtin "len") [.ref p] L K :=
  GC.of call_len_seq fun H hs Q q => by
    obtain ⟨xs, e1, a1⟩ := hs.atR s
    exact ⟨p, xs, rfl, .inl (SqL.of e1), by rw [a1.length]; exact q _ _ _ k hs⟩
theorem gc_lenTl {ds : List α} (r : Rv T L x (rTl R) ds) (k : K (.int ds.length) L) : GC T X (.builtin "len") [x] L K :=
  GC.of call_len_seq fun H hs Q q => by
    obtain ⟨a, xs, rfl, e1, a1⟩ := r H hs
    exact ⟨a, xs, rfl, .inr (SqT.of e1), by rw [a1.length]; exact q _ _ _ k hs⟩
/-! ### ranges as values -/
theorem call_rng1 : CallR X (.type "range") (fun vs H Q => ∃ j, vs = [V.int j] ∧ ∀ p, H p = none → Q (.ref p) (upd H p (.rng 0 j))) := by
  intro pins s σ H vs us Q I r h
  obtain ⟨j, rfl, q⟩ := h
  obtain ⟨u, rfl, ri⟩ := Vals.one r
  obtain ⟨t, rfl⟩ := ri
  refine PySem.call_range_1 ⟨.ref s.heap.objs.size, upd H s.heap.objs.size (.rng 0 j), I.laid (t' := s.toks + 1 + 1) (fun b o e => Heap.get?_push_of_some _ e) (Nat.le_refl _) ?_, rfl, q _ (I.hok.fresh (Nat.le_refl _))⟩
  exact ⟨s.toks, t, s.toks + 1, Heap.get?_push_size _ rfl⟩
theorem gc_rng1 {j : Int} (k : ∀ r, K (.ref r) (pt r (.rng 0 j) :: L)) : GC T X (.type "range") [.int j] L K := GC.of call_rng1 fun H hs Q q => ⟨j, rfl, fun r hr => q _ _ _ (k r) (hs.new hr fun _ => nofun)⟩
theorem gc_rng2 {i j : Int} (k : ∀ r, K (.ref r) (pt r (.rng i j) :: L)) : GC T X (.type "range") [.int i, .int j] L K := GC.of cr_range2 fun H hs Q q => ⟨i, j, rfl, fun r hr => q _ _ _ (k r) (hs.new hr fun _ => nofun)⟩
def rngL (i j : Int) : List Int := (List.range (j - i).toNat).map fun k => i + (k : Nat)
theorem vals_rng {i : Int} {n : Nat} {acc : List Value} (hl : acc.length = n) (h : ∀ (j : Nat) (v : Value), acc[j]? = some v → ∃ t, v = Value.int (i + j * 1) t) : Vals ((List.range n).map fun k => V.int (i + (k : Nat))) acc := by
  refine vals_of_at (by simp [hl]) fun j x u h1 h2 => ?_
  obtain ⟨t, rfl⟩ := h j u h2
  rw [List.getElem?_map] at h1
  by_cases hj : j < n
  · rw [List.getElem?_range hj] at h1
    cases h1
    exact ⟨t, by rw [Int.mul_one]⟩
  · rw [List.getElem?_eq_none (by simpa using hj)] at h1; cases h1
theorem call_list_rng (hc : X.calm = true) : CallR X (.type "list") (fun xs H Q => ∃ p i j, xs = [V.ref p] ∧ H p = some (.rng i j) ∧ -(2 ^ 62) ≤ i ∧ i < 2 ^ 62 ∧ -(2 ^ 62) ≤ j ∧ j < 2 ^ 62 ∧ (j - i).toNat ≤ 2 ^ 24 ∧ (j - i).toNat ≤ sizeLine ∧ ∀ l, H l = none → Q (.ref l) (upd H l (.lst ((rngL i j).map V.int)))) := by
  intro pins s σ H xs us Q I r h
  obtain ⟨p, i, j, rfl, hp, h1, h2, h3, h4, h5, hz, q⟩ := h
  obtain ⟨u, rfl, rx⟩ := Vals.one r
  obtain rfl : u = Value.ref p := rx
  obtain ⟨t1, t2, t3, ho⟩ := I.hok p _ hp
  refine PySem.call_list_range (n := (j - i).toNat) (I.ok.hd hc) ho (small_one h1 h2 h3 h4) (rangeSize_nat i j) h5 fun h' tk acc' c' kp e hacc => ?_
  refine ⟨.ref s.heap.objs.size, _, I.laid (t' := tk) kp (Nat.le_refl _) (show ObjOk X.prog X.w _ h' _ (.lst ((rngL i j).map V.int)) from ⟨?_, acc'.toList, c', ?_, by simpa using e⟩), rfl, q _ (I.hok.fresh (Nat.le_refl _))⟩
  · rw [List.length_map]; unfold rngL; rw [List.length_map, List.length_range]; exact hz
  · unfold rngL
    rw [List.map_map]
    exact vals_rng (by rw [Array.length_toList]; exact hacc.1) fun m v hm => hacc.2 m v (by simpa using hm)
theorem gc_listRng {i j : Int} (hc : X.calm = true) (s : Sel L (pt p (.rng i j)) R') (h1 : -(2 ^ 62) ≤ i) (h2 : i < 2 ^ 62) (h3 : -(2 ^ 62) ≤ j) (h4 : j < 2 ^ 62) (h5 : (j - i).toNat ≤ 2 ^ 24) (hz : (j - i).toNat ≤ sizeLine) (k : ∀ r, K (.ref r) (pt r (.lst ((rngL i j).map V.int)) :: L)) :
    GC T X (.type "list") [.ref p] L K := GC.of (call_list_rng hc) fun H hs Q q => ⟨p, i, j, rfl, hs.at s, h1, h2, h3, h4, h5, hz, fun r hr => q _ _ _ (k r) (hs.new hr fun _ => nofun)⟩
/-! ### stores by an operator -/
def GIp (T : List (Addr × Str)) (X : Cx) (op : Operator) (x y : V) (L : List SA) (K : GK) : Prop := ∀ H, Hs T L H → ∀ Q : VK, (∀ v L' H', K v L' → Hs T L' H' → Q v H') → ∀ pins s σ v u, Inv X pins σ H s → RelV x v → RelV y u → wpAny (model X.prog X.w) X.A (inplaceOp op v u) (EP X pins σ Q) X.xe s
def ipW (X : Cx) (op : Operator) : TIp := fun x y H Q => ∀ pins s σ v u, Inv X pins σ H s → RelV x v → RelV y u → wpAny (model X.prog X.w) X.A (inplaceOp op v u) (EP X pins σ Q) X.xe s
theorem ipWr {op : Operator} : PIp X op (ipW X op) := fun pins s σ H x y v u Q I r1 r2 h => h pins s σ v u I r1 r2
theorem GIp.of {op : Operator} {r : TIp} (hp : PIp X op r) (w : WR2 T r x y L K) : GIp T X op x y L K := fun H hs Q q pins s σ v u I r1 r2 => hp pins s σ H x y v u Q I r1 r2 (w H hs Q q)
theorem gip_add {i j : Int} (k : K (.int (i + j)) L) : GIp T X .Add (.int i) (.int j) L K := GIp.of ip_add (wr_I0 k)
theorem gip_sub {i j : Int} (k : K (.int (i - j)) L) : GIp T X .Sub (.int i) (.int j) L K := GIp.of ip_sub (wr_I0 k)
theorem gip_addS {i j : Str} (hz : i.length + j.length ≤ sizeLine) (k : K (.str (i ++ j)) L) : GIp T X .Add (.str i) (.str j) L K := GIp.of iop_add_str fun H hs Q q => ⟨i, j, rfl, rfl, hz, q _ _ _ k hs⟩
theorem gs_aug {n : Str} {e : Expr} {op : Operator} {pos pos' : Pos} {kd : NameKind} {f : V → St} (nm : Nm X N ks) (a : At N σ n x) (s : Slot N σ n f) (h : Kd ks n kd) (lk : Lk kd) (hf : kd = .local ∨ X.fn n = true)
    (g : GE T X e σ L fun y L1 => GIp T X op x y L1 fun z L2 => D.nx (f z) L2) : GS T X (.AugAssign (.Name n pos') op e pos) D σ L := by
  obtain ⟨i, h1, h2⟩ := s.ix
  obtain ⟨j, h3, h4⟩ := a.ix
  have hij : i = j := by
    have hi : i < N.length := by
      by_cases c : i < N.length
      · exact c
      · rw [List.getElem?_eq_none (by omega)] at h1; cases h1
    exact (List.getElem?_inj hi nm.nd).mp (by rw [h1, h3])
  subst hij
  refine GS.of (ps_aug (i := i) (by rw [nm.nn]; exact nm.nd) (by rw [nm.nn]; exact h1) (nm.loc h lk) peW ipWr ?_) fun H hs D0 l => ⟨x, h4, g H hs _ fun y L1 H1 k1 h1 => k1 H1 h1 _ fun z L2 H2 k2 h2' => l.nx _ _ _ (by rw [← h2]; exact k2) h2'⟩
  rcases hf with rfl | hf
  · exact .inr (nm.look h)
  · exact .inl hf
/-- e.f op= value: the field is read, the value reckoned, the field stored -/
def GFA (T : List (Addr × Str)) (X : Cx) (o : V) (f : Str) (value : Expr) (op : Operator) (σ : St) (L : List SA) (N : List SA → Prop) : Prop := ∃ a C dx fs v R, o = .ref a ∧ Sel L (pt a (.ins C dx fs)) R ∧ Cls X.K C ∧ NoAttr X.K C f ∧ fs.lookup f = some v ∧
  GE T X value σ L fun y L1 => GIp T X op v y L1 fun z L2 => ∃ dx' fs' L', Rpl L2 (pt a (.ins C dx' fs')) (pt a (.ins C dx' (putF f z fs'))) L' ∧ fs'.length < 1000 ∧ N L'
theorem gs_fldaug {o value : Expr} {f : Str} {op : Operator} {tpos pos : Pos} (h : GE T X o σ L fun x L1 => GFA T X x f value op σ L1 (D.nx σ)) : GS T X (.AugAssign (.Attribute o f tpos) op value pos) D σ L :=
  GS.of (ps_fldaug peW peW (rd := ipW X op) (fun pins s σ H x y u v Q I r1 r2 h => h pins s σ u v I r1 r2)) fun H hs D0 l => h H hs _ fun x L1 H1 ⟨a, C, dx, fs, v, R, ex, s, c, na, lk, g⟩ h1 =>
    ⟨a, C, dx, fs, v, ex, h1.at s, c, na, lk, g H1 h1 _ fun y L2 H2 k2 h2 => k2 H2 h2 _ fun z L3 H3 ⟨dx', fs', L', r, hl, n⟩ h3 => by
      obtain ⟨R3, s3⟩ := r.sel
      exact ⟨dx', fs', h3.at s3, hl, l.nx _ _ _ n (h3.rpl r True.intro fun _ => nofun)⟩⟩
/-- xs[i] by values -/
def rGetL : V → V → Hp → VK → Prop := fun o i H Q => ∃ p xs k z, o = .ref p ∧ i = .int k ∧ H p = some (.lst xs) ∧ atI xs k = some z ∧ Q z H
theorem get_list : PGet X rGetL := by
  intro pins s σ H o i ov iv Q I ro ri h
  obtain ⟨p, xs, k, z, rfl, rfl, hp, he, q⟩ := h
  obtain rfl : ov = Value.ref p := ro
  obtain ⟨t, rfl⟩ := ri
  obtain ⟨its, r, pl, hz⟩ := I.list (SqL.of hp)
  obtain ⟨j, h1, h2, h3, h4, h5⟩ := atI_get he
  obtain ⟨w, ew, rw'⟩ := r.get h2
  have hl := r.length
  have hn := line63
  have fin : EP X pins σ Q w s := ⟨z, H, I, rw', q⟩
  by_cases h0 : 0 ≤ k
  · have hj : k.toNat = j := by
      rw [seqIndex_of h0 h5] at h1
      exact Option.some.inj h1
    exact wpAny_getItem_list pl.isList h0 (by omega) (by rw [hj]; simpa using ew) fin
  · have hj : (k + (its.toArray.size : Int)).toNat = j := by
      rw [seqIndex_neg (by omega) h4] at h1
      rw [List.size_toArray, ← hl]
      exact Option.some.inj h1
    exact wpAny_getItem_list_neg pl.isList (by omega) (by rw [List.size_toArray] <;> omega) (by omega) (by rw [hj]; simpa using ew) fin
def GAS (T : List (Addr × Str)) (X : Cx) (o i : V) (value : Expr) (op : Operator) (σ : St) (L : List SA) (N : List SA → Prop) : Prop := ∃ p xs k z R, o = .ref p ∧ i = .int k ∧ Sel L (pt p (.lst xs)) R ∧ atI xs k = some z ∧
  GE T X value σ L fun y L1 => GIp T X op z y L1 fun u L2 => GPutL o i u L2 N
theorem gs_augS {o i value : Expr} {op : Operator} {tpos pos : Pos} (ha : ∀ ov iv new, augStore i ov iv new = (do holding [new, ov, iv] (setItem ov iv new); release [new, ov, iv] []; pure .next))
    (h : GE T X o σ L fun ov L1 => GE T X i σ L1 fun iv L2 => GAS T X ov iv value op σ L2 (D.nx σ)) : GS T X (.AugAssign (.Subscript o i tpos) op value pos) D σ L :=
  GS.of (ps_augS peW peW get_list peW ipWr set_list ha) fun H hs D0 l => h H hs _ fun ov L1 H1 k1 h1 => k1 H1 h1 _ fun iv L2 H2 ⟨p, xs, k, z, R, e1, e2, s, e3, g⟩ h2 =>
    ⟨p, xs, k, z, e1, e2, h2.at s, e3, g H2 h2 _ fun y L3 H3 k3 h3 => k3 H3 h3 _ fun u L4 H4 ⟨p', xs', k', ys, L', e4, e5, r, ⟨j, e6, e7⟩, n⟩ h4 => by
      obtain ⟨R4, s4⟩ := r.sel
      subst e7
      exact ⟨p', xs', k', j, e4, e5, h4.at s4, e6, l.nx _ _ _ n (h4.rpl r True.intro fun _ => nofun)⟩⟩
/-! ### remove, of a list of ints -/
theorem erase_at (i : Int) : ∀ (ns : List Int), i ∈ ns → ∃ j : Nat, ns[j]? = some i ∧ (∀ m : Nat, m < j → ns[m]? ≠ some i) ∧ ns.eraseIdx j = ns.erase i
  | [], h => by cases h
  | n :: ns, h => by
    by_cases e : n = i
    · subst e
      exact ⟨0, rfl, fun m hm => by omega, by simp⟩
    · have h' : i ∈ ns := by
        rcases List.mem_cons.mp h with z | z
        · exact absurd z.symm e
        · exact z
      obtain ⟨j, h1, h2, h3⟩ := erase_at i ns h'
      refine ⟨j + 1, by simpa using h1, fun m hm => ?_, ?_⟩
      · cases m with
        | zero => simp [e]
        | succ m => simpa using h2 m (by omega)
      · rw [List.eraseIdx_cons_succ, h3, List.erase_cons_tail (by simpa using e)]
def GRem (T : List (Addr × Str)) (p : Addr) (i : Int) (L : List SA) (N : List SA → Prop) : Prop := ∃ (ns : List Int) (L' : List SA), Rpl L (pt p (.lst (ns.map V.int))) (pt p (.lst ((ns.erase i).map V.int))) L' ∧ i ∈ ns ∧ N L'
theorem ge_remove {o e : Expr} {apos cpos : Pos} (hbase : attributeBase o "remove" X.env (eval o X.env) = eval o X.env) (hfew : ((backTo cpos (starEach [e] X.env)).all (fun x => !x.1) && (backToKw cpos (keywordEach [] X.env)).all (fun x => x.1.isSome)
      && decide (([e] : List Expr).length + ([] : List Keyword).length + (if ([] : List Keyword).isEmpty then 0 else 1) < 30)) = true) (hline : (apos.endLine == cpos.line) = true) (hs : starEach [e] X.env = (false, eval e X.env) :: starEach [] X.env) (hplain : (backTo cpos (starEach [] X.env)).any (·.1) = false)
    (h : GE T X o σ L fun v L1 => ∃ p, v = .ref p ∧ HasL T L1 p ∧ GE T X e σ L1 fun y L2 => ∃ i, y = .int i ∧ GRem T p i L2 (K .non)) : GE T X (.Call (.Attribute o "remove" apos) [e] [] cpos) σ L K :=
  GE.of (pe_bm PySem.F.plainAttrs_list PySem.F.slot_list_remove PySem.F.type_list_remove mt_remove peW (pa_cons peW pa_nil hs) hbase hfew hline hs hplain) fun H hh Q q => h H hh _ fun v L1 H1 ⟨p, ev, hp, k1⟩ h1 => by
    subst ev
    obtain ⟨xs, e1⟩ := hp H1 h1
    refine ⟨.inl ⟨rfl, xs, SqL.of e1⟩, k1 H1 h1 _ fun y L2 H2 ⟨i, ey, ns, L', r, hm, n⟩ h2 => ?_⟩
    subst ey
    obtain ⟨R2, s2⟩ := r.sel
    obtain ⟨j, j1, j2, j3⟩ := erase_at i ns hm
    exact ⟨p, ns, i, j, rfl, rfl, h2.at s2, j1, j2, q _ _ _ n (by rw [j3]; exact h2.rpl r True.intro fun _ => nofun)⟩
end
end SW
set_option Elab.async false
set_option linter.all false
set_option maxRecDepth 100000
set_option maxHeartbeats 2000000
/-! Sw10: fields, by search. -/
namespace SW
open PySem PySem.Spec L2
open PyProof.Rows hiding St
inductive PutF : Str → V → List (Str × V) → List (Str × V) → Prop
  | nil {f : Str} {y : V} : PutF f y [] [(f, y)]
  | here {f : Str} {y x : V} {r : List (Str × V)} : PutF f y ((f, x) :: r) ((f, y) :: r)
  | there {f g : Str} {y x : V} {r r' : List (Str × V)} (h : decide (g = f) = false) (t : PutF f y r r') : PutF f y ((g, x) :: r) ((g, x) :: r')
theorem PutF.eq {f : Str} {y : V} {fs fs' : List (Str × V)} (h : PutF f y fs fs') : fs' = putF f y fs := by
  induction h with
  | nil => rfl
  | here => unfold putF; rw [if_pos rfl]
  | there h _ ih => unfold putF; rw [if_neg (of_decide_eq_false h), ← ih]
inductive LkF : List (Str × V) → Str → V → Prop
  | here {f : Str} {x : V} {r : List (Str × V)} : LkF ((f, x) :: r) f x
  | there {f g : Str} {x v : V} {r : List (Str × V)} (h : decide (g = f) = false) (t : LkF r f v) : LkF ((g, x) :: r) f v
theorem LkF.eq {f : Str} {v : V} {fs : List (Str × V)} (h : LkF fs f v) : fs.lookup f = some v := by
  induction h with
  | here => rw [List.lookup_cons, beq_self_eq_true]
  | @there f g x v r h _ ih =>
    have : (f == g) = false := beq_eq_false_iff_ne.mpr fun z => of_decide_eq_false h z.symm
    rw [List.lookup_cons, this]; exact ih
inductive NoF : List (Str × V) → Str → Prop
  | nil {f : Str} : NoF [] f
  | cons {f g : Str} {x : V} {r : List (Str × V)} (h : decide (g = f) = false) (t : NoF r f) : NoF ((g, x) :: r) f
theorem NoF.eq {f : Str} {fs : List (Str × V)} (h : NoF fs f) : fs.lookup f = none := by
  induction h with
  | nil => rfl
  | @cons f g x r h _ ih =>
    have : (f == g) = false := beq_eq_false_iff_ne.mpr fun z => of_decide_eq_false h z.symm
    rw [List.lookup_cons, this]; exact ih
section
variable {T : List (Addr × Str)} {X : Cx} {σ : St} {L L' R' : List SA} {K : GK} {KK : PySem.W.Frag} {a C dx : Addr} {fs fs' : List (Str × V)} {f : Str} {v y z : V} {N : List SA → Prop}
theorem gf (s : Sel L (pt a (.ins C dx fs)) R') (l : LkF fs f v) (c : Cls KK C) (n : NoAttr KK C f) (k : K v L) : GF T KK (.ref a) f L K := ⟨a, C, dx, fs, v, R', rfl, s, c, n, l.eq, k⟩
theorem gfs (r : Rpl L (pt a (.ins C dx fs)) (pt a (.ins C dx fs')) L') (e : PutF f y fs fs') (c : Cls KK C) (n : NoAttr KK C f) (hz : fs.length < 1000) (k : N L') : GFS KK (.ref a) f y L N := ⟨a, C, dx, fs, L', rfl, by rw [← e.eq]; exact r, c, n, hz, k⟩
theorem gfa {value : Expr} {op : Operator} (s : Sel L (pt a (.ins C dx fs)) R') (l : LkF fs f v) (c : Cls X.K C) (n : NoAttr X.K C f)
    (g : GE T X value σ L fun y L1 => GIp T X op v y L1 fun z L2 => ∃ dx' fs' L', Rpl L2 (pt a (.ins C dx' fs')) (pt a (.ins C dx' (putF f z fs'))) L' ∧ fs'.length < 1000 ∧ N L') : GFA T X (.ref a) f value op σ L N := ⟨a, C, dx, fs, v, R', rfl, s, c, n, l.eq, g⟩
theorem gfaE (r : Rpl L (pt a (.ins C dx fs)) (pt a (.ins C dx fs')) L') (e : PutF f z fs fs') (hz : fs.length < 1000) (k : N L') : ∃ dx' fs' L', Rpl L (pt a (.ins C dx' fs')) (pt a (.ins C dx' (putF f z fs'))) L' ∧ fs'.length < 1000 ∧ N L' := ⟨dx, fs, L', by rw [← e.eq]; exact r, hz, k⟩
theorem isIns {C C' a : Addr} {m : Str} (s : Sel L (pt a (.ins C' dx fs)) R') (l : NoF fs m) (e : C' = C) : IsIns T C (.ref a) m L := ⟨a, rfl, fun H h => ⟨dx, fs, by rw [← e]; exact h.at s, l.eq⟩⟩
theorem gas {p : Addr} {xs : List V} {k : Int} {value : Expr} {op : Operator} (s : Sel L (pt p (.lst xs)) R') (e : atI xs k = some z) (g : GE T X value σ L fun y L1 => GIp T X op z y L1 fun u L2 => GPutL (.ref p) (.int k) u L2 N) : GAS T X (.ref p) (.int k) value op σ L N := ⟨p, xs, k, z, R', rfl, rfl, s, e, g⟩
end
/-! ### blocks of comprehensions -/
theorem Nm.ndN {X : Cx} {N : List Str} {ks : List (Str × NameKind)} (n : Nm X N ks) : X.N.Nodup := by rw [n.nn]; exact n.nd
theorem nm_blk {X : Cx} {N : List Str} {ks kc : List (Str × NameKind)} {scope : Scope} {s : Shared} {H : Hp} {C : Addr} {cl : List (Str × Addr)} {fp : List Addr} (n : Nm X N ks) (h : (relS scope X.env.scope).names = kc) (nd : (kc.map (·.1)).Nodup) : Nm (blkX X s H scope C cl fp) N kc := ⟨n.nn, h, n.nd, nd⟩
section
variable {X : Cx} {N : List Str} {ks kc : List (Str × NameKind)} {scope : Scope} {s : Shared} {H : Hp} {C : Addr} {cl : List (Str × Addr)} {fp : List Addr} {T : List (Addr × Str)} {σ : St} {L : List SA}
theorem gg_blk {tg : Expr} {v : V} {K : St → List SA → Prop} (n : Nm X N ks) (h : (relS scope X.env.scope).names = kc) (nd : (kc.map (·.1)).Nodup) (k : Nm (blkX X s H scope C cl fp) N kc → GG T (blkX X s H scope C cl fp) tg v σ L K) : GG T (blkX X s H scope C cl fp) tg v σ L K := k (nm_blk n h nd)
theorem gts_blk {ifs : List Expr} {K : Bool → List SA → Prop} (n : Nm X N ks) (h : (relS scope X.env.scope).names = kc) (nd : (kc.map (·.1)).Nodup) (k : Nm (blkX X s H scope C cl fp) N kc → GTs T (blkX X s H scope C cl fp) ifs σ L K) : GTs T (blkX X s H scope C cl fp) ifs σ L K := k (nm_blk n h nd)
theorem ge_blk {e : Expr} {K : GK} (n : Nm X N ks) (h : (relS scope X.env.scope).names = kc) (nd : (kc.map (·.1)).Nodup) (k : Nm (blkX X s H scope C cl fp) N kc → GE T (blkX X s H scope C cl fp) e σ L K) : GE T (blkX X s H scope C cl fp) e σ L K := k (nm_blk n h nd)
end
theorem ite_nI {i : Int} {A B : Prop} (h : B) : if decide (V.int i = V.non) = true then A else B := by rw [decide_eq_false (fun z => by cases z), if_neg Bool.false_ne_true]; exact h
theorem ite_nN {A B : Prop} (h : A) : if decide (V.non = V.non) = true then A else B := by rw [decide_eq_true rfl, if_pos rfl]; exact h
theorem ite_nnI {i : Int} {A B : Prop} (h : A) : if (!decide (V.int i = V.non)) = true then A else B := by rw [decide_eq_false (fun z => by cases z)]; exact h
theorem ite_nnN {A B : Prop} (h : B) : if (!decide (V.non = V.non)) = true then A else B := by rw [decide_eq_true rfl]; exact h
theorem ite_nR {i : Addr} {A B : Prop} (h : B) : if decide (V.ref i = V.non) = true then A else B := by rw [decide_eq_false (fun z => by cases z), if_neg Bool.false_ne_true]; exact h
theorem ite_nnR {i : Addr} {A B : Prop} (h : A) : if (!decide (V.ref i = V.non)) = true then A else B := by rw [decide_eq_false (fun z => by cases z)]; exact h
theorem grem {T : List (Addr × Str)} {p : Addr} {i : Int} {L L' : List SA} {N : List SA → Prop} {ns : List Int} (r : Rpl L (pt p (.lst (ns.map V.int))) (pt p (.lst ((ns.erase i).map V.int))) L') (hm : i ∈ ns) (k : N L') : GRem T p i L N := ⟨ns, L', r, hm, k⟩
theorem ite_nb {b : Bool} {A B : Prop} (h1 : b = false → A) (h2 : b = true → B) : if (!b) = true then A else B := by
  cases b with
  | false => exact h1 rfl
  | true => exact h2 rfl
end SW
set_option Elab.async false
set_option linter.all false
set_option maxRecDepth 100000
set_option maxHeartbeats 2000000
/-! Sw11: lists of objects; loops whose row is found on the way; joins; the drawn dice. -/
namespace SW
open PySem PySem.Spec L2
open PyProof.Rows hiding St
theorem iteNT {A B : Prop} (h : B) : if (!true) = true then A else B := h
theorem iteNF {A B : Prop} (h : A) : if (!false) = true then A else B := h
theorem Fit.trans {L L1 L2 : List SA} (f : Fit L L1) (g : Fit L1 L2) : Fit L L2 := fun H h => g H (f H h)
theorem Fit.tl {A : SA} {L W : List SA} (f : Fit L W) : Fit (A :: L) (A :: W) := fun H h => h.cons2 Cv.id f
theorem Fit.at1 {A : SA} {L L' R : List SA} (s : Sel L A R) (f : Fit (A :: R) L') : Fit L L' := fun H h => f H (h.perm s.perm)
theorem Fit.of {L W : List SA} (p : L.Perm W) : Fit L W := fun H h => h.perm p
theorem gs_join {T : List (Addr × Str)} {X : Cx} {σ : St} {L : List SA} {D : EndsL} {st : Stmt} (n1 : St → List SA → Prop) (h : GS T X st { D with nx := n1 } σ L) (k : ∀ σ' L', n1 σ' L' → D.nx σ' L') : GS T X st D σ L :=
  fun H hs D0 l => h H hs D0 ⟨fun σ' L' H' q h' => l.nx σ' L' H' (k σ' L' q) h', l.rt, l.bk, l.ct⟩
theorem lcend_ent {T : List (Addr × Str)} {D : Addr} {y : V} {L L' : List SA} {N : List SA → Prop} (t : Ent T L L') (h : LcEnd T D y L' N) : LcEnd T D y L N := fun H hs => h H (t H hs)
theorem pcs_pt1 {a : Addr} {o : HO} {h : Hp} (n : NoTbl o) (e : pt a o h) : Pcs [pt a o] h := ⟨[one a o], .cons one_same .nil, by simp, fun g hg => by
  have hg : g = one a o := by simpa using hg
  subst hg
  intro b u e2
  obtain ⟨rfl, rfl⟩ := one_of e2
  exact ⟨e, n⟩⟩
/-! ### lists of objects -/
/-- the pieces of each -/
def ObS (F : Addr → SA) (as : List Addr) : SA := fun h => Pcs (as.map F) h
/-- a list of references, the pieces of each -/
def ObL (F : Addr → SA) (D : Addr) (as : List Addr) : SA := fun h => Pcs (pt D (.lst (as.map V.ref)) :: as.map F) h
section
variable {T : List (Addr × Str)} {F : Addr → SA} {D a : Addr} {as : List Addr} {L : List SA}
theorem obl_nil {h : Hp} (e : pt D (.lst []) h) : ObL F D [] h := pcs_pt1 (fun _ => nofun) e
theorem obl_out : Ent T (ObL F D as :: L) (pt D (.lst (as.map V.ref)) :: ObS F as :: L) := Ent.trans (Ent.unf (L1 := pt D (.lst (as.map V.ref)) :: as.map F)) (Fit.ent (Fit.tl fun _ h => Pcs.fold h))
theorem obl_in : Ent T (pt D (.lst (as.map V.ref ++ [.ref a])) :: F a :: ObS F as :: L) (ObL F D (as ++ [a]) :: L) := fun H h => by
  have h1 : Hs T (ObS F as :: pt D (.lst (as.map V.ref ++ [.ref a])) :: F a :: L) H := h.perm (List.perm_middle (l₁ := [pt D (.lst (as.map V.ref ++ [.ref a])), F a]) (a := ObS F as) (l₂ := L))
  have h2 : Hs T (as.map F ++ (pt D (.lst (as.map V.ref ++ [.ref a])) :: F a :: L)) H := ⟨h1.tabs, h1.pcs.unf⟩
  have h3 : Hs T (pt D (.lst (as.map V.ref ++ [.ref a])) :: (as.map F ++ (F a :: L))) H := h2.perm List.perm_middle
  have e : pt D (.lst (as.map V.ref ++ [.ref a])) :: (as.map F ++ (F a :: L)) = (pt D (.lst ((as ++ [a]).map V.ref)) :: (as ++ [a]).map F) ++ L := by simp
  rw [e] at h3
  exact ⟨h3.tabs, h3.pcs.fold⟩
theorem obs_cons : Ent T (ObS F (a :: as) :: L) (F a :: ObS F as :: L) := Ent.trans (Ent.unf (L1 := F a :: as.map F)) (Fit.ent (Fit.tl fun _ h => Pcs.fold h))
theorem obs_drop {i : Nat} (h : as[i]? = some a) : Ent T (ObS F (as.drop i) :: L) (F a :: ObS F (as.drop (i + 1)) :: L) := by
  have hi : i < as.length := by
    by_cases c : i < as.length
    · exact c
    · rw [List.getElem?_eq_none (by omega)] at h; cases h
  have e : as.drop i = a :: as.drop (i + 1) := by
    rw [List.drop_eq_getElem_cons hi]
    rw [List.getElem?_eq_getElem hi] at h
    cases h; rfl
  rw [e]
  exact obs_cons
end
/-! ### loops whose row is found on the way -/
section
variable {T : List (Addr × Str)} {X : Cx} {σ : St} {L R' : List SA} {D : EndsL} {tg iter : Expr} {body : List Stmt} {pos : Pos}
theorem gs_forLx (hp : PassesOwn (model X.prog X.w) X.A X.env X.xe) (hc : X.calm = true) (hf : ∀ x, foldedSetIterable iter X.env x = pure x)
    (h0 : GE T X iter σ L fun v L1 => ∃ (l : Addr) (xs : List V) (inv : Nat → St → List SA → Prop), v = .ref l ∧ Fits T (inv 0) σ L1 ∧ (∀ i σ' L', inv i σ' L' → ∃ R, Sel L' (pt l (.lst xs)) R) ∧
      (∀ i x σ' L', xs[i]? = some x → inv i σ' L' → GG T X tg x σ' L' fun σ2 L2 => GSs T X body { D with nx := Fits T (inv (i + 1)), ct := Fits T (inv (i + 1)), bk := D.nx } σ2 L2) ∧
      (∀ σ' L', inv xs.length σ' L' → D.nx σ' L')) : GS T X (.For tg iter body [] pos) D σ L := by
  refine GS.of (ps_for hp hc (pi_list peW) pgW pssW hf) fun H hh D0 le => h0 H hh _ fun v L1 H1 ⟨l, xs, inv, ev, iv, hl, hs, hd⟩ h1 => ?_
  obtain ⟨L1, iv, h1⟩ := fits_hs iv h1
  obtain ⟨R1, s1⟩ := hl _ _ _ iv
  refine ⟨l, ev, ⟨xs, SqL.of (h1.at s1)⟩, wfor (Itl X.K l) xs.length inv (fun σ L H i h => ?_) (fun i σ L H hi iv h => ?_) (fun i σ L H hi iv h x H' y => ?_) hd h1 iv le⟩
  · obtain ⟨R, s⟩ := hl _ _ _ i
    exact ⟨xs, SqL.of (h.at s), Nat.le_refl _⟩
  · obtain ⟨R, s⟩ := hl _ _ _ iv
    exact ⟨xs, xs[i], SqL.of (h.at s), by simp [hi]⟩
  · obtain ⟨R, s⟩ := hl _ _ _ iv
    obtain ⟨e, y⟩ := y
    subst e
    exact ⟨L, h, hs i x σ L (y xs (SqL.of (h.at s))) iv⟩
theorem gs_forRx (hp : PassesOwn (model X.prog X.w) X.A X.env X.xe) (hc : X.calm = true) (hf : ∀ x, foldedSetIterable iter X.env x = pure x)
    (h0 : GE T X iter σ L fun v L1 => ∃ (α : Type) (R : PRep α) (l : Addr) (ds : List α) (inv : Nat → St → List SA → Prop), v = .ref l ∧ Fits T (inv 0) σ L1 ∧ (∀ i σ' L', inv i σ' L' → ∃ R0, Sel L' (LstR R l ds) R0) ∧
      (∀ i d x σ' L', ds[i]? = some d → inv i σ' L' → GG T X tg x σ' (Val R x d :: L') fun σ2 L2 => GSs T X body { D with nx := Fits T (inv (i + 1)), ct := Fits T (inv (i + 1)), bk := D.nx } σ2 L2) ∧
      (∀ σ' L', inv ds.length σ' L' → D.nx σ' L')) : GS T X (.For tg iter body [] pos) D σ L := by
  refine GS.of (ps_for hp hc (pi_list peW) pgW pssW hf) fun H hh D0 le => h0 H hh _ fun v L1 H1 ⟨α, R, l, ds, inv, ev, iv, hl, hs, hd⟩ h1 => ?_
  obtain ⟨L1, iv, h1⟩ := fits_hs iv h1
  have get : ∀ {i σ L H}, inv i σ L → Hs T L H → ∃ xs, H l = some (.lst xs) ∧ A2r R H xs ds := fun {i σ L H} iv h => by
    obtain ⟨R0, s⟩ := hl _ _ _ iv
    exact h.factP (fun g ⟨xs, e, r⟩ sub => ⟨xs, (sub l _ e).1, r.mono sub.tup⟩) s
  obtain ⟨xs1, e1, _⟩ := get iv h1
  refine ⟨l, ev, ⟨xs1, SqL.of e1⟩, wfor (Itl X.K l) ds.length inv (fun σ L H i h => ?_) (fun i σ L H hi iv h => ?_) (fun i σ L H hi iv h x H' y => ?_) hd h1 iv le⟩
  · obtain ⟨xs, e, r⟩ := get i h
    exact ⟨xs, SqL.of e, Nat.le_of_eq r.length⟩
  · obtain ⟨xs, e, r⟩ := get iv h
    have : i < xs.length := by rw [r.length]; exact hi
    exact ⟨xs, xs[i], SqL.of e, by simp [this]⟩
  · obtain ⟨xs, e, r⟩ := get iv h
    obtain ⟨e2, y⟩ := y
    subst e2
    obtain ⟨d, hd', rr⟩ := r.get' (y xs (SqL.of e))
    exact ⟨_, h.addP Val.pers rr, hs i d x σ L hd' iv⟩
theorem gs_forTx (hp : PassesOwn (model X.prog X.w) X.A X.env X.xe) (hc : X.calm = true) (hf : ∀ x, foldedSetIterable iter X.env x = pure x)
    (h0 : GE T X iter σ L fun v L1 => ∃ (α : Type) (R : PRep α) (ds : List α) (inv : Nat → St → List SA → Prop), Fits T (inv 0) σ L1 ∧ (∀ i σ' L', inv i σ' L' → Rv T L' v (rTl R) ds) ∧
      (∀ i d x σ' L', ds[i]? = some d → inv i σ' L' → GG T X tg x σ' (Val R x d :: L') fun σ2 L2 => GSs T X body { D with nx := Fits T (inv (i + 1)), ct := Fits T (inv (i + 1)), bk := D.nx } σ2 L2) ∧
      (∀ σ' L', inv ds.length σ' L' → D.nx σ' L')) : GS T X (.For tg iter body [] pos) D σ L := by
  refine GS.of (ps_for hp hc (pi_tup peW) pgW pssW hf) fun H hh D0 le => h0 H hh _ fun v L1 H1 ⟨α, R, ds, inv, iv, hl, hs, hd⟩ h1 => ?_
  obtain ⟨L1, iv, h1⟩ := fits_hs iv h1
  obtain ⟨l, xs1, ev0, e1, _⟩ := hl _ _ _ iv H1 h1
  subst ev0
  have get : ∀ {i σ L H}, inv i σ L → Hs T L H → ∃ xs, H l = some (.tup xs) ∧ A2r R H xs ds := fun {i σ L H} iv h => by
    obtain ⟨l', xs, ev, e, r⟩ := hl _ _ _ iv H h
    cases ev
    exact ⟨xs, e, r⟩
  refine ⟨l, rfl, ⟨xs1, SqT.of e1⟩, wfor (Itt X.K l) ds.length inv (fun σ L H i h => ?_) (fun i σ L H hi iv h => ?_) (fun i σ L H hi iv h x H' y => ?_) hd h1 iv le⟩
  · obtain ⟨xs, e, r⟩ := get i h
    exact ⟨xs, SqT.of e, Nat.le_of_eq r.length⟩
  · obtain ⟨xs, e, r⟩ := get iv h
    have : i < xs.length := by rw [r.length]; exact hi
    exact ⟨xs, xs[i], SqT.of e, by simp [this]⟩
  · obtain ⟨xs, e, r⟩ := get iv h
    obtain ⟨e2, y⟩ := y
    subst e2
    obtain ⟨d, hd', rr⟩ := r.get' (y xs (SqT.of e))
    exact ⟨_, h.addP Val.pers rr, hs i d x σ L hd' iv⟩
theorem gs_forNx {a : Expr} {p : Pos} (hp : PassesOwn (model X.prog X.w) X.A X.env X.xe) (hc : X.calm = true) (hg : Gl X "range") (hm : X.mg "range" = none)
    (hst : starEach [a] X.env = [(false, eval a X.env)]) (hf : ∀ x, foldedSetIterable (.Call (.Name "range" p) [a] [] pos) X.env x = pure x) {pos2 : Pos}
    (h0 : GA T X [a] σ L fun vs L1 => ∃ (n : Int) (inv : Nat → St → List SA → Prop), vs = [.int n] ∧ -(2 ^ 62) ≤ n ∧ n < 2 ^ 62 ∧ Fits T (inv 0) σ L1 ∧
      (∀ (i : Nat) σ' L', (i : Int) < n → inv i σ' L' → GG T X tg (.int (i : Int)) σ' L' fun σ2 L2 => GSs T X body { D with nx := Fits T (inv (i + 1)), ct := Fits T (inv (i + 1)), bk := D.nx } σ2 L2) ∧
      (∀ σ' L', inv n.toNat σ' L' → D.nx σ' L')) : GS T X (.For tg (.Call (.Name "range" p) [a] [] pos) body [] pos2) D σ L := by
  refine GS.of (ps_for hp hc (pi_range1 hg hm paW hst) pgW pssW hf) fun H hh D0 le => h0 H hh _ fun vs L1 H1 ⟨n, inv, ev, b1, b2, iv, hs, hd⟩ h1 => ?_
  obtain ⟨L1, iv, h1⟩ := fits_hs iv h1
  refine ⟨n, ev, b1, b2, wfor (Itr 0 n.toNat) n.toNat inv (fun σ L H i h => Nat.le_refl _) (fun i σ L H hi iv h => hi) (fun i σ L H hi iv h x H' y => ?_) hd h1 iv le⟩
  obtain ⟨e, y⟩ := y
  subst e
  subst y
  refine ⟨L, h, ?_⟩
  rw [Int.zero_add]
  exact hs i σ L (by omega) iv
end
/-! ### the drawn dice -/
def dcP (d : Addr) : SA := fun h => ∃ q : Int × Int × Int, pt d (.lst [.int q.1, .int q.2.1, .int q.2.2]) h
section
variable {T : List (Addr × Str)} {X : Cx} {σ : St} {L R : List SA} {D : EndsL} {sts : List Stmt} {d : Addr}
theorem dc_in (s : Sel L (dcP d) R) (h : ∀ x y z, GSs T X sts D σ (pt d (.lst [.int x, .int y, .int z]) :: R)) : GSs T X sts D σ L := GSs.via fun H hs => by
  have h1 := (hs.sel s)
  obtain ⟨q, h2⟩ := h1.pcs.ex
  exact ⟨_, ⟨h1.tabs, h2⟩, h q.1 q.2.1 q.2.2⟩
theorem Cv.dc {x y z : Int} : Cv (SW.pt d (.lst [.int x, .int y, .int z])) (dcP d) := fun h e => ⟨(x, y, z), e⟩
end
def spDice : SpL := fun vs L K kx => ∃ (c : Int), vs = [.int c] ∧ ∀ d, K (.ref d) (dcP d :: L)
def spRoll : SpL := fun vs L K kx => ∃ (d : Addr) (m : Int) (R : List SA), vs = [.ref d, .int m] ∧ 0 < m ∧ m < 1073741824 ∧ L = dcP d :: R ∧ ∀ r : Int, 0 ≤ r → r < m → K (.int r) (dcP d :: R)
/-- the script: a list that is read -/
def ScrP (KK : PySem.W.Frag) (a : Addr) (ns : List Int) : SA := fun h => SqL KK h a (ns.map V.int)
theorem rd_sub {h H : Hp} {a : Addr} {o : HO} (s : Sub h H) (r : Rd h a o) : Rd H a o := by
  rcases r with r | ⟨n, r⟩
  · exact .inl (s _ _ r).1
  · exact .inr ⟨n, (s _ _ r).1⟩
theorem scr_sub {KK : PySem.W.Frag} {h H : Hp} {a : Addr} {xs : List V} (s : Sub h H) (r : SqL KK h a xs) : SqL KK H a xs := by
  rcases r with r | r
  · exact .inl (rd_sub s r)
  · exact .inr r
theorem Hs.scr {T : List (Addr × Str)} {KK : PySem.W.Frag} {a : Addr} {ns : List Int} {L R : List SA} {H : Hp} (s : Sel L (ScrP KK a ns) R) (h : Hs T L H) : SqL KK H a (ns.map V.int) := h.factP (fun g e sub => scr_sub sub e) s
theorem pcs_scr {KK : PySem.W.Frag} {a : Addr} {ns : List Int} {H : Hp} (h : SqL KK H a (ns.map V.int)) : Pcs [ScrP KK a ns] H := by
  have key : ∀ o : HO, NoTbl o → H a = some o → SqL KK (one a o) a (ns.map V.int) → Pcs [ScrP KK a ns] H := fun o no e q => ⟨[one a o], .cons q .nil, by simp, fun g hg => by
    have hg : g = one a o := by simpa using hg
    subst hg
    intro b u e2
    obtain ⟨rfl, rfl⟩ := one_of e2
    exact ⟨e, no⟩⟩
  rcases h with h | h
  · rcases h with h | ⟨n, h⟩
    · exact key (.lst (ns.map V.int)) (fun _ => nofun) h (.inl (.inl one_same))
    · exact key (.frz n (.lst (ns.map V.int))) (fun _ => nofun) h (.inl (.inr ⟨n, one_same⟩))
  · refine ⟨[fun _ => none], .cons (.inr h) .nil, by simp, fun g hg => ?_⟩
    have hg : g = fun _ => none := by simpa using hg
    subst hg
    intro b u e2
    cases e2
theorem gsl_scr {T : List (Addr × Str)} {X : Cx} {L R' : List SA} {K : GK} {p : Addr} {ns : List Int} {lo hi : Option Int} (s : Sel L (ScrP X.K p ns) R') (k : ∀ q, K (.ref q) (pt q (.lst (cutD (ns.map V.int) lo hi)) :: L)) : GSl T X (.ref p) lo hi L K :=
  GSl.of sl_list fun H hs Q q => ⟨p, ns.map V.int, rfl, hs.scr s, fun r hr => q _ _ _ (k r) (hs.new hr fun _ => nofun)⟩
def spRounds (KK : PySem.W.Frag) : SpL := fun vs L K kx => ∃ (s : Addr) (ns : List Int) (m : Nat) (R : List SA), vs = [.ref s, .int (m : Int)] ∧ L = ScrP KK s ns :: R ∧ ns.length ≤ 1000 ∧ ∀ D as, K (.ref D) (ObL dcP D as :: R)
theorem call_roll {T : List (Addr × Str)} {L R : List SA} {K : GK} {kx : KX} {d : Addr} {m : Int} (e : Ent T L (dcP d :: R)) (h1 : 0 < m) (h2 : m < 1073741824) (k : ∀ r : Int, 0 ≤ r → r < m → K (.int r) (dcP d :: R)) : spE T spRoll [.ref d, .int m] L K kx := CallS.mk ⟨d, m, R, rfl, h1, h2, rfl, k⟩ e
end SW
set_option Elab.async false
set_option linter.all false
set_option maxRecDepth 100000
set_option maxHeartbeats 2000000
/-! Sw12: sums of truth values. -/
namespace SW
open PySem PySem.Spec L2
open PyProof.Rows hiding St
section
variable {prog : Program} {w : World} {A : Around} {E : Value → Shared → Prop} {s : Shared} {l : Addr} {items : Array Value}
theorem sum_boolRaw {Q : Value → Shared → Prop} {val : Nat → Int} (hh : A.handled = none) (hl : s.heap.IsList l items) (hv : ∀ (i : Nat) v, items[i]? = some v → NumOf (val i) v)
    (h : ∀ h' tk t', (∀ b o, s.heap.get? b = some o → h'.get? b = some o) → Q (.int (preSum val items.size) t') { s with heap := h', toks := tk }) : wpAny (model prog w) A (call (.builtin "sum") [.ref l]) Q E s := by
  have hlt : l < s.heap.objs.size := by obtain ⟨_, e, _⟩ := hl; exact Heap.lt_size e
  refine call_sum_walkAnyB (wpAny_pyIter_list hl ?_)
  refine ⟨_, _, _, _, _, _, _, val, rfl, (Walks.list (A := A.in1) hh _ l (Nat.ne_of_lt hlt) items).toS, ⟨⟨_, Heap.get?_push_size _ rfl, rfl, rfl⟩, hl.push _⟩, fun b hb => ?_, fun i v hi => hv i v hi, fun s' t' hm => ?_⟩
  · show b < (s.heap.push _).objs.size
    rw [Heap.size_push]
    rcases List.mem_cons.mp hb with rfl | hb
    · exact Nat.lt_succ_self _
    · rcases List.mem_cons.mp hb with rfl | hb
      · exact Nat.lt_succ_of_lt hlt
      · cases hb
  · have e : s' = { s with heap := s'.heap, toks := s'.toks } := by
      obtain ⟨h1, h2, h3, h4, h5⟩ := hm
      cases s'
      cases h2
      cases h3
      cases h4
      rfl
    rw [e]
    exact h s'.heap s'.toks t' (old_kept hm.heap)
end
theorem vals_bools : ∀ {bs : List Bool} {its : List Value}, Vals (bs.map V.bl) its → its = bs.map Value.bool
  | [], its, h => by
    have := h.length
    cases its with
    | nil => rfl
    | cons _ _ => cases this
  | b :: bs, its, h => by
    cases h with
    | cons r t => rw [vals_bools t]; have r : _ = Value.bool b := r; rw [r]; rfl
def rSumB (K : PySem.W.Frag) : List V → Hp → VK → Prop := fun vs H Q => ∃ (a : Addr) (bs : List Bool), vs = [V.ref a] ∧ SqL K H a (bs.map V.bl) ∧ Q (.int ((bs.map fun b => if b = true then (1 : Int) else 0).sum)) H
theorem cr_sumB {X : Cx} (hc : X.calm = true) : CallR X (.builtin "sum") (rSumB X.K) := by
  intro pins s σ H vs us Q I r h
  obtain ⟨a, bs, rfl, hs, q⟩ := h
  obtain ⟨its, rv, hl, _⟩ := I.list hs
  rw [Vals.ref1 r]
  have e := vals_bools rv
  subst e
  refine sum_boolRaw (val := fun j => (bs.map fun b => if b = true then (1 : Int) else 0).getD j 0) (I.ok.hd hc) hl.isList (fun i v hi => ?_) fun h' tk t' hk => ?_
  · have hi2 : (bs.map Value.bool)[i]? = some v := by simpa using hi
    rw [List.getElem?_map] at hi2
    cases hb : bs[i]? with
    | none => rw [hb] at hi2; cases hi2
    | some b =>
      rw [hb] at hi2
      cases hi2
      exact .inr ⟨b, rfl, by simp [List.getD_eq_getElem?_getD, hb]⟩
  · have e := preSum_getD (bs.map fun b => if b = true then (1 : Int) else 0) (bs.map Value.bool).toArray.size
    rw [List.take_of_length_le (by simp)] at e
    rw [e]
    exact ⟨.int _, H, I.kept hk, ⟨_, rfl⟩, q⟩
theorem gc_sumB {T : List (Addr × Str)} {X : Cx} {L R' : List SA} {K : GK} {p : Addr} {bs : List Bool} (hc : X.calm = true) (s : Sel L (pt p (.lst (bs.map V.bl))) R') (k : K (.int ((bs.map fun b => if b = true then (1 : Int) else 0).sum)) L) : GC T X (.builtin "sum") [.ref p] L K := GC.of (cr_sumB hc) fun H hs Q q => ⟨p, bs, rfl, SqL.of (hs.at s), q _ _ _ k hs⟩
end SW
set_option Elab.async false
set_option linter.all false
set_option maxRecDepth 100000
set_option maxHeartbeats 2000000
/-! Sw13: texts; calls and tries that know the slots. -/
namespace SW
open PySem PySem.Spec L2
open PyProof.Rows hiding St
section
variable {T : List (Addr × Str)} {X : Cx} {σ : St} {L R' : List SA} {K : GK} {D : EndsL} {tg iter o e : Expr} {body : List Stmt} {pos apos cpos : Pos}
/-- over a text's signs -/
theorem gs_forSx (hp : PassesOwn (model X.prog X.w) X.A X.env X.xe) (hc : X.calm = true) (hf : ∀ x, foldedSetIterable iter X.env x = pure x)
    (h0 : GE T X iter σ L fun v L1 => ∃ (z : Str) (inv : Nat → St → List SA → Prop), v = .str z ∧ Fits T (inv 0) σ L1 ∧
      (∀ i c σ' L', z.cps[i]? = some c → inv i σ' L' → GG T X tg (.str ⟨#[c]⟩) σ' L' fun σ2 L2 => GSs T X body { D with nx := Fits T (inv (i + 1)), ct := Fits T (inv (i + 1)), bk := D.nx } σ2 L2) ∧
      (∀ σ' L', inv z.cps.size σ' L' → D.nx σ' L')) : GS T X (.For tg iter body [] pos) D σ L := by
  refine GS.of (ps_for hp hc (pi_str peW) pgW pssW hf) fun H hh D0 le => h0 H hh _ fun v L1 H1 ⟨z, inv, ev, iv, hs, hd⟩ h1 => ?_
  obtain ⟨L1, iv, h1⟩ := fits_hs iv h1
  refine ⟨z, ev, wfor (Its z) z.cps.size inv (fun σ L H i h => Nat.le_refl _) (fun i σ L H hi iv h => hi) (fun i σ L H hi iv h x H' y => ?_) hd h1 iv le⟩
  obtain ⟨e, c, hc, y⟩ := y
  subst e
  subst y
  exact ⟨L, h, hs i c σ L hc iv⟩
theorem go_inSign {c : Nat} {z : Str} (k : K (.bl (decide (c ∈ z.cps.toList))) L) : GOp T X (compareOp .In) (.str ⟨#[c]⟩) (.str z) L K := GOp.of op_in_sign fun H hs Q q => ⟨c, z, rfl, rfl, q _ _ _ k hs⟩
theorem go_ninSign {c : Nat} {z : Str} (k : K (.bl (!decide (c ∈ z.cps.toList))) L) : GOp T X (compareOp .NotIn) (.str ⟨#[c]⟩) (.str z) L K := GOp.of op_notIn_sign fun H hs Q q => ⟨c, z, rfl, rfl, q _ _ _ k hs⟩
/-- a.index(b) -/
theorem ge_index (hs : starEach [e] X.env = [(false, eval e X.env)]) (hbase : attributeBase o "index" X.env (eval o X.env) = eval o X.env) (hline : (apos.endLine == cpos.line) = true)
    (h : GE T X o σ L fun v L1 => ∃ a, v = .str a ∧ GE T X e σ L1 fun y L2 => ∃ b i rest, y = .str b ∧ Builtin.Str.occurrences a b 0 a.length 1 = i :: rest ∧ K (.int (i : Nat)) L2) : GE T X (.Call (.Attribute o "index" apos) [e] [] cpos) σ L K :=
  GE.of (pe_m1 F.slot_str_index F.type_str_index mt_sindex peW peW hs hbase hline) fun H hh Q q => h H hh _ fun v L1 H1 ⟨a, ev, k1⟩ h1 => ⟨⟨a, ev⟩, k1 H1 h1 _ fun y L2 H2 ⟨b, i, rest, ey, ho, k2⟩ h2 => ⟨a, b, i, rest, ev, by rw [ey], ho, q _ _ _ k2 h2⟩⟩
/-- a.join(list of texts) -/
theorem ge_join (hs : starEach [e] X.env = [(false, eval e X.env)]) (hbase : attributeBase o "join" X.env (eval o X.env) = eval o X.env) (hline : (apos.endLine == cpos.line) = true)
    (h : GE T X o σ L fun v L1 => ∃ a, v = .str a ∧ GE T X e σ L1 fun y L2 => ∃ p ys R', y = .ref p ∧ Sel L2 (pt p (.lst (ys.map V.str))) R' ∧ (ys.map (·.length)).sum + ys.length * a.length ≤ 16777216 ∧ K (.str (Txt.join a ys)) L2) : GE T X (.Call (.Attribute o "join" apos) [e] [] cpos) σ L K :=
  GE.of (pe_join peW peW hs hbase hline) fun H hh Q q => h H hh _ fun v L1 H1 ⟨a, ev, k1⟩ h1 => ⟨⟨a, ev⟩, k1 H1 h1 _ fun y L2 H2 ⟨p, ys, R', ey, s, hz, k2⟩ h2 => ⟨a, p, ys, ev, by rw [ey], .inl (SqL.of (h2.at s)), hz, q _ _ _ k2 h2⟩⟩
end
/-! ### what is raised is wished for at the slots -/
abbrev KXS := Value → Option Addr → St → List SA → Prop
def XokS (T : List (Addr × Str)) (X : Cx) (kx : KXS) : Prop := ∃ W : WX, Takes X W ∧ ∀ cls d σ L H, kx cls d σ L → Hs T L H → W cls d σ H
section
variable {T : List (Addr × Str)} {X : Cx} {σ : St} {L : List SA} {K : GK} {D : EndsL} {kx : KX} {kxs : KXS} {S : SpL} {e o : Expr} {es : List Expr} {x m : Str} {p pos apos : Pos} {k : Nat} {N : List Str} {ks : List (Str × NameKind)}
theorem ge_callS (F : FnAt T X.prog X.w X.K X.mg X.base k x S) (hr : Room k X.A) (hx : XokS T X kxs) (hg : Gl X x) (hdb : (x == ("__debug__" : Str)) = false) (he : starEach (e :: es) X.env = (false, eval e X.env) :: starEach es X.env) (hpl : (backTo pos (starEach es X.env)).any (·.1) = false)
    (h : GA T X (e :: es) σ L fun vs L1 => S vs L1 K (fun c d L' => kxs c d σ L')) : GE T X (.Call (.Name x p) (e :: es) [] pos) σ L K := by
  obtain ⟨fd, ps, F1, hb⟩ := F.ex
  obtain ⟨W, tk, hW⟩ := hx
  refine GE.of (pe_callSD F1 hr hg F.mgx F.kp hb .nil (fun σ => passAt tk σ) paW hdb he hpl) fun H hs Q q => h H hs _ fun vs L1 H1 k1 h1 => ?_
  rw [List.append_nil]
  exact ⟨L1, K, _, h1, k1, q, fun cls d L' H' k h' => hW _ _ _ _ _ k h'⟩
/-- try: body except x: suite -/
theorem gs_try {np pos' : Pos} {body suite : List Stmt} {b0 : Stmt} (n : Nm X N ks) (h : Kd ks x .globalImplicit) (hs : X.stack = X.env :: X.outer) (hf : X.env.frame = some X.env.locals) (hd : dbg x = false) (gl : X.mg x = some (.ref (He.ga X.K x))) (hx : Xok T X kx)
    (hb : ∀ pn xe, Nm (X.tr pn xe) N ks → PassesOwn (model (X.tr pn xe).prog (X.tr pn xe).w) (X.tr pn xe).A (X.tr pn xe).env (X.tr pn xe).xe → XokS T (X.tr pn xe) (fun cls d σ' L' => ∃ b, PySem.W.exmOne X.K cls (.ref (He.ga X.K x)) = some b ∧ (b = true → ∀ a pn', GSs T (X.suite a pn') (b0 :: suite) D σ' L') ∧ (b = false → kx cls d L')) → GSs T (X.tr pn xe) body D σ L) :
    GS T X (.Try body [.ExceptHandler (some (.Name x np)) none (b0 :: suite) pos'] [] [] pos) D σ L := by
  obtain ⟨Wout, tk, hW⟩ := hx
  refine GS.of (ps_try_only (tb := fun W D σ H => ∀ pn xe, Takes (X.tr pn xe) W → PassesOwn (model (X.tr pn xe).prog (X.tr pn xe).w) (X.tr pn xe).A (X.tr pn xe).env (X.tr pn xe).xe → ssW (X.tr pn xe) body D σ H) (ts := fun a cls d D σ H => ∀ pn', ssW (X.suite a pn') (b0 :: suite) D σ H) hs hf ⟨n.gl h, dbg1 hd, .inl gl⟩ tk (fun W pn xe tk hp => ⟨fun pins s σ H D I h => h pn xe tk hp pins s I⟩) (fun a oe cls d pn _ _ => ⟨fun pins s σ H D I h => h _ pins s I⟩)) fun H hh D0 le => ?_
  intro pn xe tk2 hp
  refine hb pn xe ⟨n.nn, n.kk, n.nd, n.kd⟩ hp ⟨_, tk2, fun cls d σ' L' H' ⟨b, e1, e2, e3⟩ h' => ⟨b, e1, fun z a _ => ?_, fun z => hW _ _ _ _ _ (e3 z) h'⟩⟩ H hh D0 le
  exact fun pn' => e2 z a pn' H' h' D0 le
end
end SW
set_option Elab.async false
set_option linter.all false
set_option maxRecDepth 100000
set_option maxHeartbeats 2000000
/-! Sx1: an own exception over ValueError whose __init__ says super().__init__(text) first. -/
namespace SW
open PySem PySem.Spec L2
open PyProof.Rows hiding St
/-- the context of such an __init__ -/
def cxK (CX : CXT) (P : Program) (w : World) (K : PySem.W.Frag) (mg : Str → Option Value) (base : Heap) (N : List Str) (qual : Str) (scope : Scope) (f cda cc : Addr) (A : Around) (outer : List Env) (s : Shared) (H : Hp) (E : XK) : Cx where
  prog := P
  w := w
  K := K
  mg := mg
  base := base
  A := A.deeper (PySem.W.ksEnv qual scope s.heap.objs.size f (.ref cda) cc)
  N := N
  s_0 := s
  H_0 := H
  env := PySem.W.ksEnv qual scope s.heap.objs.size f (.ref cda) cc
  outer := outer
  stack := PySem.W.ksEnv qual scope s.heap.objs.size f (.ref cda) cc :: outer
  ex := []
  calm := true
  fn := fun _ => false
  pn := []
  xe := fun e s' => wpAny (model P w) (A.deeper (PySem.W.ksEnv qual scope s.heap.objs.size f (.ref cda) cc)) (leaving (PySem.W.ksEnv qual scope s.heap.objs.size f (.ref cda) cc) e) (fun _ s'' => CX outer H s E e s'') (fun e' s'' => CX outer H s E e' s'') s'
structure SupScope (ps : List Str) (sc : Scope) : Prop where
  kind : sc.kind = .function
  co : sc.isCoroutine = false
  gen : sc.isGenerator = false
  nd : ps.Nodup
  par : ∀ x ∈ ps, sc.names.lookup x = some .local
  cell : ∀ y ∈ sc.names, y.2 ≠ .cell
  free : ∀ y ∈ sc.names, y.2 = .free → y.1 = "__class__"
  cls : sc.names.lookup ("__class__" : Str) = some .free
  sup : sc.names.lookup ("super" : Str) = some .globalImplicit
theorem look_mem {l : List (Str × Value)} {y : Str} {u : Value} (nd : (l.map (·.1)).Nodup) (h : (y, u) ∈ l) : l.lookup y = some u := by
  induction l with
  | nil => cases h
  | cons p l ih =>
    obtain ⟨z, m⟩ := p
    rw [List.map_cons, List.nodup_cons] at nd
    rcases List.mem_cons.mp h with e | e
    · cases e; simp [List.lookup]
    · have ne : y ≠ z := fun q => nd.1 (by rw [← q]; exact List.mem_map.mpr ⟨_, e, rfl⟩)
      rw [List.lookup_cons, show (y == z) = false from beq_eq_false_iff_ne.mpr ne]
      exact ih nd.2 e
theorem zip_fst : ∀ {ps : List Str} {us : List Value}, ((ps.zip us).map (·.1)).Sublist ps
  | [], _ => by simp
  | p :: ps, [] => by simp
  | p :: ps, u :: us => by rw [List.zip_cons_cons, List.map_cons]; exact (zip_fst (ps := ps) (us := us)).cons₂ p
theorem zip_look {ps : List Str} {us : List Value} {i : Nat} {y : Str} {u : Value} (nd : ps.Nodup) (h1 : ps[i]? = some y) (h2 : us[i]? = some u) : (ps.zip us).reverse.lookup y = some u := by
  refine look_mem ?_ ?_
  · rw [List.map_reverse]
    exact ((List.reverse_perm _).nodup_iff).mpr (nd.sublist zip_fst)
  · rw [List.mem_reverse]
    refine List.mem_of_getElem? (i := i) ?_
    rw [List.getElem?_zip_eq_some]
    exact ⟨h1, h2⟩
theorem inv_startK {CX : CXT} {P : Program} {w : World} {K : PySem.W.Frag} {mg : Str → Option Value} {base : Heap} {ps : List Str} {qual : Str} {scope : Scope} {f cda cc : Addr} {A : Around} {outer : List Env} {s : Shared} {h1 : Heap} {tk : Nat} {H : Hp} {E : XK} {us : List Value} {vs : List V}
    {cl : Value} {cld : Option Addr} {D : Addr} {csl : Array (Option Value)} (S : SupScope ps scope) (hd : A.handled = none) (e0 : Env0 P w K mg base A outer s H) (hl : vs.length = ps.length) (r : Vals vs us) (hcc : K.lookup cc = some ⟨cl, cld, .cell (some (.ref D)), csl⟩)
    (ns : h1.Ns s.heap.objs.size (fun x => (ps.zip us).reverse.lookup x)) (hk : ∀ b o, s.heap.get? b = some o → h1.get? b = some o) :
    Inv (cxK CX P w K mg base ps qual scope f cda cc A outer s H E) [] (L2.start ps vs) H { s with heap := h1, toks := tk } := by
  have hbase : base.get? cc = some ⟨cl, cld, .cell (some (.ref D)), csl⟩ := e0.mod.kin _ _ hcc
  obtain ⟨hs1, hs2⟩ := e0.bs _ _ hbase
  have cells : ∀ {y : Str} {c : Addr}, List.lookup y [(("__class__" : Str), cc)] = some c → y = "__class__" ∧ c = cc := fun {y c} h => by
    rw [List.lookup_cons] at h
    by_cases q : (y == ("__class__" : Str)) = true
    · rw [q] at h
      cases h
      exact ⟨by simpa using q, rfl⟩
    · rw [Bool.eq_false_iff.mpr q] at h
      cases h
  have noA : ∀ b : Addr, b ∉ (cxK CX P w K mg base ps qual scope f cda cc A outer s H E).ex := fun b z => absurd (show b ∈ ([] : List Addr) from z) (by simp)
  refine ⟨⟨e0.mod, S.kind, rfl, rfl, Nat.le_refl _, fun y z c h1 h2 => ?_, fun y hy => ?_, fun y c hf h => (by cases hf), fun _ => hd, Around.frames_deeper e0.frames, .inr ⟨rfl, rfl⟩, fun b z => absurd z (noA b), e0.bs, e0.bsz, fun b _ _ => noA b, fun b z => absurd z (noA b), e0.funs, e0.frf⟩,
    rfl, e0.bare, Un.kept hk, ⟨_, ns, fun i y v h1 h2 h3 => ?_⟩, fun y c h => ?_, e0.hok.fresh (Nat.le_refl _), fun y c h => ?_, fun p hp => absurd (show p ∈ ([] : List (Addr × Obj)) from hp) (by simp), e0.hok.kept hk, ?_⟩
  · rw [(cells h1).1, (cells h2).1]
  · refine ⟨cc, ?_⟩
    have hy : scope.names.lookup y = some .cell ∨ scope.names.lookup y = some .free := hy
    rcases hy with hy | hy
    · exact absurd rfl (S.cell _ (PySem.mem_of_lookup hy))
    · have := S.free _ (PySem.mem_of_lookup hy) rfl
      have this : y = "__class__" := this
      subst this
      rfl
  · have hi : i < vs.length := by
      unfold L2.start at h2
      by_cases hi : i < vs.length
      · exact hi
      · rw [List.getElem?_append_right (by simpa using hi)] at h2
        rw [List.getElem?_replicate] at h2
        split at h2 <;> cases h2
    have ha : vs[i]? = some v := by
      unfold L2.start at h2
      rw [List.getElem?_append_left (by simpa using hi), List.getElem?_map] at h2
      cases e : vs[i]? with
      | none => rw [e] at h2; cases h2
      | some a => rw [e] at h2; cases h2; rfl
    obtain ⟨u, hu, rv⟩ := r.get ha
    have h1 : ps[i]? = some y := h1
    refine ⟨u, rv, .inl ⟨S.par y (List.mem_of_getElem? h1), ?_⟩⟩
    exact zip_look S.nd h1 hu
  · rw [(cells h).2]
    exact ⟨_, _, hk _ _ hs1, rfl⟩
  · rw [(cells h).2]; exact hs2
  · unfold L2.start
    show _ = ps.length
    rw [List.length_append, List.length_map, List.length_replicate]
    omega
/-- what the written part says of such a class -/
structure SupF (K : PySem.W.Frag) (P : Program) (f C : Addr) (qual : Str) (params : Arguments) (body : List Stmt) (scope : Scope) (fd : FuncData) : Prop where
  ex : ∃ oc od osl cda cc dV kV doc pm an ct cl cld csl ccl cdd vs ccs file tf, fd = PySem.W.fnX "__init__" qual params body scope [("__class__", cc)] dV kV doc pm an (.ref cda) ct ∧ K.lookup f = some ⟨oc, od, .func fd, osl⟩ ∧
    PySem.W.codeIn K (.ref cda) qual = true ∧ K.lookup cc = some ⟨cl, cld, .cell (some (.ref C)), csl⟩ ∧ K.lookup cda = some ⟨ccl, cdd, .fields vs, ccs⟩ ∧ vs[2]? = some (.str file tf) ∧ ((P.main.file : Str) == file) = true
  oex : OexC K C
  sup : PySem.W.nsIn K mainGlobals "super" = some none
  thp : PySem.W.nsIn K cStatics "thirdparty.any" = some none
  cls : ∃ cd, PySem.W.clsIn K C = some cd ∧ PySem.W.alongIn K "__init__" ((cd.mro.dropWhile (· != .ref C)).drop 1) = some (some (.builtin "ValueError.__init__"))
  sub : PySem.W.mroIn K C (.type "ValueError") = some true
  mro : PySem.W.mroIn K C (.ref C) = some true
  top : (P.main.scope.names.lookup ("super" : Str)).isSome = false
  kp : PySem.W.keepIn K (.ref f) = true
section
variable {X : Cx} {pins : List (Addr × Obj)} {σ : St} {H : Hp} {s : Shared}
theorem load_super (I : Inv X pins σ H s) (hk : X.env.kindOf ("super" : Str) = some .globalImplicit) (hs : X.mg "super" = none) {Q : Value → Shared → Prop} {E : Value → Shared → Prop} (q : Q (.type "super") s) : wpAny (model X.prog X.w) X.A (loadName X.env "super") Q E s := by
  obtain ⟨mb, hb, hbb⟩ := I.mod.blt
  refine PySem.W.ks_loadName_global I.ok.kind hk ?_
  refine PySem.Calls.loadGlobal_builtin (env := X.env) (mg := X.mg) (mb := mb) ?_ hs ?_ ((hbb _ (by decide +kernel)).trans (show bootBuiltins "super" = some (.type "super") from by decide +kernel)) q
  · rw [I.ok.glob]; exact I.mod.glob.keeps I.bk
  · rw [I.ok.blt]; exact hb.keeps I.bk
end
theorem init_super {CX : CXT} {P : Program} {w : World} {K : PySem.W.Frag} {mg : Str → Option Value} {base : Heap} {k : Nat} {f C : Addr} {qual : Str} {params : Arguments} {body rest : List Stmt} {scope : Scope} {fd : FuncData} {ps ps' : List Str} {sp : Sp} {ar : Arg} {p0 p1 p2 p3 p4 p5 : Pos} {msg : Str} {j : Nat}
    (F : SupF K P f C qual params body scope fd) (S : SupScope ps scope) (hmg : mg "super" = none) (hb0 : body = .Expr (.Call (.Attribute (.Call (.Name "super" p0) [] [] p1) "__init__" p2) [.Constant (.str msg) j p3] [] p4) p5 :: rest)
    (hself : (params.posonlyargs ++ params.args).head? = some ar) (har : ps = ar.arg :: ps') (hline : (p2.endLine == p4.line) = true) (len : ∀ vs H Q E, sp vs H Q E → vs.length = ps.length)
    (hrest : ∀ cda cc A outer s H vs Q E, sp vs H Q E → ∃ a vs', vs = .ref a :: vs' ∧ H a = some (exo a C none) ∧ ∃ t, PSs (cxK CX P w K mg base ps qual scope f cda cc A outer s H E) rest t ∧ t { nx := fun _ H' => Q .non H', rt := Q } (L2.start ps vs) H) :
    FnOk P w K mg base CX (k + 1) f fd ps sp := by
  refine ⟨len, fun A outer s H args us vs Q E hr e0 hb r hsp => ?_⟩
  obtain ⟨oc, od, osl, cda, cc, dV, kV, doc, pm, an, ct, cl, cld, csl, ccl, cdd, cvs, ccs, file, tf, rfl, lk, hcd, hcc, hcda, hvs, hfile⟩ := F.ex
  have hl := len _ _ _ _ hsp
  have KX : K.In s.heap := e0.mod.kin.keeps fun b o e => (e0.bs b o e).1
  have lim : s.heap.NoLimit := e0.mod.nolimit.keeps fun b o e => (e0.bs b o e).1
  have hloc : ∀ y ∈ ps.zip us, scope.names.lookup y.1 = some .local := fun ⟨n, v⟩ hy => S.par n (List.of_mem_zip hy).1
  refine PySem.ks_codeAny_call_defAt (fd := PySem.W.fnX "__init__" qual params body scope [("__class__", cc)] dV kV doc pm an (.ref cda) ct) (body := body) (binds := ps.zip us) hr.depth (KX _ _ lk) rfl lim (PySem.W.codeRec_of KX hcd) rfl hb S.cell hloc (fun h₁ hns hk₁ => ?_) S.co S.gen S.kind
  obtain ⟨a, vs', rfl, ha, t, ht, hq⟩ := hrest cda cc A outer s H vs Q E hsp
  have I : Inv (cxK CX P w K mg base ps qual scope f cda cc A outer s H E) [] (L2.start ps (.ref a :: vs')) H { s with heap := h₁, toks := s.toks + (ps.zip us).length } := inv_startK S hr.hd e0 hl r hcc hns hk₁
  subst hb0
  obtain ⟨vnm, vq, vN, vbs, vbm, vsn, vsub, vab, vcol, vdd, vk0, vk1, vk2, vk3, vk5, hC, hbm⟩ := F.oex.cls
  obtain ⟨cdC, hcls, halong⟩ := F.cls
  -- the walk of super().__init__(msg)
  refine PySem.ks_wpAt_execs_cons (PySem.ks_wpAt_Expr_any ?_ I.quiet rfl)
  have ev : eval (.Call (.Attribute (.Call (.Name "super" p0) [] [] p1) "__init__" p2) [.Constant (.str msg) j p3] [] p4) (PySem.W.ksEnv qual scope s.heap.objs.size f (.ref cda) cc) = (do
      let ov ← attributeBase (.Call (.Name "super" p0) [] [] p1) "__init__" (PySem.W.ksEnv qual scope s.heap.objs.size f (.ref cda) cc) (eval (.Call (.Name "super" p0) [] [] p1) (PySem.W.ksEnv qual scope s.heap.objs.size f (.ref cda) cc))
      standAt p2.atName
      methodCall (.Call (.Name "super" p0) [] [] p1) "__init__" p2 p4 (PySem.W.ksEnv qual scope s.heap.objs.size f (.ref cda) cc) ov 1 (backTo p4 (starEach [.Constant (.str msg) j p3] (PySem.W.ksEnv qual scope s.heap.objs.size f (.ref cda) cc))) (backToKw p4 (keywordEach [] (PySem.W.ksEnv qual scope s.heap.objs.size f (.ref cda) cc)))) := rfl
  show PySem.wpAt _ _ _ (eval (.Call (.Attribute (.Call (.Name "super" p0) [] [] p1) "__init__" p2) [.Constant (.str msg) j p3] [] p4) (PySem.W.ksEnv qual scope s.heap.objs.size f (.ref cda) cc)) _ _ _
  rw [ev]
  obtain ⟨m, fr, hm⟩ := I.loc
  obtain ⟨uself, ru, hlook⟩ := hm 0 ar.arg (.ref a) (by show ps[0]? = _; rw [har]; rfl) (by subst har; rfl) (.inl (S.par _ (by rw [har]; exact List.mem_cons_self)))
  obtain rfl : uself = Value.ref a := ru
  have hmself : m ar.arg = some (.ref a) := by
    rcases hlook with ⟨_, h⟩ | ⟨h, _⟩
    · exact h
    · have q := S.par ar.arg (by rw [har]; exact List.mem_cons_self)
      have h : scope.names.lookup ar.arg = some .cell ∨ scope.names.lookup ar.arg = some .free := h
      rw [q] at h
      rcases h with h | h <;> cases h
  have K1 : K.In h₁ := fun b o e => hk₁ b o (KX b o e)
  obtain ⟨t1, hx⟩ := exo_at I.hok ha
  have hx : h₁.get? a = some ({ cls := .ref C, dict := none, data := .fields #[.ref t1, .none, .none, .none, .bool false, .none] } : Obj) := hx
  have hCh := K1 _ _ hC
  refine PySem.wpAt_bind (PySem.ks_wpAt_super_base (env := PySem.W.ksEnv qual scope s.heap.objs.size f (.ref cda) cc) S.sup S.cls (by decide) rfl (K1 _ _ lk) rfl hself rfl (K1 _ _ hcda) rfl hvs hfile F.top ?_)
  refine load_super I S.sup hmg ⟨rfl, ?_⟩
  refine wpAny_loadName_free S.kind S.cls rfl ⟨_, K1 _ _ hcc, rfl⟩ ?_
  refine wpAny_loadName_local S.kind (S.par _ (by rw [har]; exact List.mem_cons_self)) fr hmself ?_
  refine PySem.ks_wpAny_isType_cls hCh rfl ⟨rfl, ?_⟩
  refine PySem.ks_wpAny_call_super hCh rfl hx rfl (fun c => nofun) (PySem.W.looks_mroIn K1 F.mro) (fun h2 e2 k2 => ?_)
  refine PySem.wpAt_bind (PySem.wpAt_of_wpAny (wpAny_standAt ?_))
  have K2 : K.In h2 := fun b o e => k2 b o (K1 b o e)
  have hx2 := k2 _ _ hx
  have hne : a ≠ C := fun z => by
    rw [z, hCh] at hx
    cases hx
  have I2at : PySem.W.InstAt h2 a ({ cls := .ref C, dict := none, data := .fields #[.ref t1, .none, .none, .none, .bool false, .none] } : Obj) C none := ⟨hx2, rfl, rfl, True.intro⟩
  rw [L2.mcall_line (by rfl) hline]
  refine PySem.wpAt_of_wpAny (wpAny_bind (wpAny_holding (PySem.W.kxs_getMethod PySem.W.kxs_ValueError e2 (PySem.W.looks_opaque K2 F.thp) (l₀ := cdC.mro) ((PySem.W.looks_clsIn K2 hcls).andThen .now) rfl K2 halong (I2at.type.andThen (PySem.W.looks_mroIn K2 F.sub)) hne (by decide) ?_)))
  show wpAny _ _ (callWith p4 (.ref h2.objs.size) [] (backTo p4 (starEach [.Constant (.str msg) j p3] (PySem.W.ksEnv qual scope s.heap.objs.size f (.ref cda) cc))) []) _ _ _
  refine PySem.W.kxs_callWith (i := "ValueError.__init__") (x := a) (by rfl) ?_
  refine PySem.Calls.evalArgs_plain (Calls.spliced_cons (Calls.Constant_str (k := j) (pos := p3) ?_))
  refine Calls.spliced_nil ?_
  have hmw : (h2.push (PySem.W.kxs_mw "ValueError.__init__" a)).get? h2.objs.size = some (PySem.W.kxs_mw "ValueError.__init__" a) := Heap.get?_push_size _ rfl
  refine ⟨hmw, ?_⟩
  have hx3 : (h2.push (PySem.W.kxs_mw "ValueError.__init__" a)).get? a = some ({ cls := .ref C, dict := none, data := .fields #[.ref t1, .none, .none, .none, .bool false, .none] } : Obj) := Heap.get?_push_of_some _ hx2
  have hC3 := Heap.get?_push_of_some (PySem.W.kxs_mw "ValueError.__init__" a) (K2 _ _ hC)
  refine wpAny_call (codeAny_of_tree ?_)
  show wpAny _ _ (callAny (.ref h2.objs.size) ⟨_, []⟩) _ _ _
  simp only [callAny]
  refine wpAny_bind (wpAny_load hmw ?_)
  simp only [PySem.W.kxs_mw, show (Value.type "method-wrapper" == Value.type "method" || Value.type "method-wrapper" == Value.type "builtin_function_or_method" || Value.type "method-wrapper" == Value.type "method-wrapper") = true by decide, if_true]
  refine PySem.W.KFB.if_so (by decide) ?_
  refine wpAny_bind (PySem.W.check_bound_init PySem.F.excBase_ValueError.toExcCallFacts hC3 hx3 rfl ?_)
  refine wpAny_bind (wpAny_pure (wpAny_pure ?_))
  refine ⟨plainId_quiet PySem.F.excBase_ValueError.init.plain _, codeAny_builtin PySem.F.excBase_ValueError.initEntry ?_⟩
  refine PySem.W.exc_init_tree (cls := .ref C) (t0 := t1) (dv := none) (c2 := .none) (c3 := .none) (b4 := .bool false) hx3 (by show 1 ≤ sizeLine; rw [sizeLine_eq]; omega) (fun h4 k4 hx4 _ => ?_)
  have k3 : ∀ b o, h₁.get? b = some o → (h2.push (PySem.W.kxs_mw "ValueError.__init__" a)).get? b = some o := fun b o e => Heap.get?_push_of_some _ (k2 b o e)
  have J0 : Inv (cxK CX P w K mg base ps qual scope f cda cc A outer s H E) [] (L2.start ps (.ref a :: vs')) H ⟨h2.push (PySem.W.kxs_mw "ValueError.__init__" a), s.gens, s.drawn, s.toks + (ps.zip us).length + 1 + 1, s.os⟩ := I.kept (t' := s.toks + (ps.zip us).length + 1 + 1) k3
  have J := J0.write (t' := s.toks + (ps.zip us).length + 1 + 1) (x := a) (e := a) (o := exo a C none) (by rw [ha]; exact True.intro) (.inl rfl) k4 ⟨_, hx4⟩ (exo_ok hx4)
  have eu : upd H a (exo a C none) = H := by
    funext b
    by_cases hb : b = a
    · rw [hb, upd_same, ha]
    · rw [upd_ne hb]
  rw [eu] at J
  refine PySem.wpAt_of_wpAny ?_
  have fin : ∀ {σ' : St} {H' : Hp} {v : V} {u : Value} {s' : Shared}, Inv (cxK CX P w K mg base ps qual scope f cda cc A outer s H E) [] σ' H' s' → RelV v u → Q v H' → CE outer P w H s Q u s' :=
    fun {σ' H' v u s'} J rv q => ⟨v, H', J.os, J.bare, J.base, J.hok, rv, q⟩
  refine wpAny_mono (ht.run [] _ (L2.start ps (.ref a :: vs')) H _ J hq) (fun fl s' hs => ?_) fun e s' hs => hs
  cases fl with
  | ret u =>
    obtain ⟨v, σ', H', J, rv, q⟩ := hs
    exact fin J rv q
  | next =>
    obtain ⟨σ', H', J, q⟩ := hs
    exact fin (v := V.non) (u := Value.none) J rfl q
  | brk =>
    obtain ⟨_, _, _, q⟩ := hs
    exact False.elim q
  | cont =>
    obtain ⟨_, _, _, q⟩ := hs
    exact False.elim q
end SW
set_option Elab.async false
set_option linter.all false
set_option maxRecDepth 100000
set_option maxHeartbeats 2000000
/-! Sx2: raising such an exception, over rows. -/
namespace SW
open PySem PySem.Spec L2
open PyProof.Rows hiding St
/-- the promise of such an __init__: the fields in order of their stores, the last first -/
def spXI (C : Addr) (gs : List Str) : Sp := fun vs H Q _ => ∃ a ys, vs = .ref a :: ys ∧ ys.length = gs.length ∧ H a = some (exo a C none) ∧
  ∀ d H', H d = none → d ≠ a → H' a = some (exo a C (some d)) → H' d = some (exd d (gs.zip ys).reverse) → (∀ b, b ≠ a → b ≠ d → H' b = H b) → Q .non H'
section
variable {P : Program} {w : World} {K : PySem.W.Frag} {mg : Str → Option Value} {base : Heap} {f C : Addr} {qual : Str} {params : Arguments} {body : List Stmt} {scope : Scope} {fd : FuncData} {ar : Arg} {p0 p1 p2 p3 p4 p5 q1 q2 q3 q4 r1 r2 r3 r4 : Pos} {msg g g2 : Str} {j : Nat} {ps' : List Str}
theorem ok_init1 (F : SupF K P f C qual params body scope fd) (S : SupScope ["self", g] scope) (hmg : mg "super" = none)
    (hb0 : body = [.Expr (.Call (.Attribute (.Call (.Name "super" p0) [] [] p1) "__init__" p2) [.Constant (.str msg) j p3] [] p4) p5, .Assign [.Attribute (.Name "self" q1) g q2] (.Name g q3) q4])
    (hself : (params.posonlyargs ++ params.args).head? = some ar) (har : ar.arg = "self") (hline : (p2.endLine == p4.line) = true) (hno : NoAttr K C g) (hd1 : dbg g = false)
    (hsw : ∀ env, swapsWith (.Name g q3) (some (.Attribute (.Name "self" q1) g q2)) q4.line env = pure false) :
    FnOk P w K mg base (L2.CX P w) 1 f fd ["self", g] (spXI C [g]) := by
  refine init_super F S hmg hb0 hself (ps' := [g]) (by rw [har]) hline (fun vs H Q E h => ?_) fun cda cc A outer s H vs Q E h => ?_
  · obtain ⟨a, ys, rfl, hl, _⟩ := h
    simp [hl]
  · obtain ⟨a, ys, rfl, hl, ha, hq⟩ := h
    obtain ⟨y, rfl⟩ : ∃ y, ys = [y] := by
      rcases ys with _ | ⟨y, _ | ⟨z, t⟩⟩
      · cases hl
      · exact ⟨y, rfl⟩
      · simp at hl
    refine ⟨a, [y], rfl, ha, _, pss_one (ps_ost (pe_var (i := 0) rfl (.inl (S.par _ (by simp))) (by decide) (by decide)) (pe_var (i := 1) rfl (.inl (S.par _ (by simp))) (dbg1 hd1) (dbg2 hd1)) (hsw _)), ?_⟩
    refine ⟨y, rfl, .ref a, rfl, a, C, rfl, F.oex, hno, .inl ⟨ha, fun d hd ne => ?_⟩⟩
    refine hq d _ hd ne upd_same ?_ fun b h1 h2 => ?_
    · rw [upd_ne ne, upd_same]; rfl
    · rw [upd_ne h1, upd_ne h2]
theorem ok_init2 (F : SupF K P f C qual params body scope fd) (S : SupScope ["self", g, g2] scope) (hmg : mg "super" = none)
    (hb0 : body = [.Expr (.Call (.Attribute (.Call (.Name "super" p0) [] [] p1) "__init__" p2) [.Constant (.str msg) j p3] [] p4) p5, .Assign [.Attribute (.Name "self" q1) g q2] (.Name g q3) q4, .Assign [.Attribute (.Name "self" r1) g2 r2] (.Name g2 r3) r4])
    (hself : (params.posonlyargs ++ params.args).head? = some ar) (har : ar.arg = "self") (hline : (p2.endLine == p4.line) = true) (hno : NoAttr K C g) (hno2 : NoAttr K C g2) (hd1 : dbg g = false) (hd2 : dbg g2 = false)
    (hsw : ∀ env, swapsWith (.Name g q3) (some (.Attribute (.Name "self" q1) g q2)) q4.line env = pure false) (hsw2 : ∀ env, swapsWith (.Name g2 r3) (some (.Attribute (.Name "self" r1) g2 r2)) r4.line env = pure false) :
    FnOk P w K mg base (L2.CX P w) 1 f fd ["self", g, g2] (spXI C [g, g2]) := by
  refine init_super F S hmg hb0 hself (ps' := [g, g2]) (by rw [har]) hline (fun vs H Q E h => ?_) fun cda cc A outer s H vs Q E h => ?_
  · obtain ⟨a, ys, rfl, hl, _⟩ := h
    simp [hl]
  · obtain ⟨a, ys, rfl, hl, ha, hq⟩ := h
    obtain ⟨y, z, rfl⟩ : ∃ y z, ys = [y, z] := by
      rcases ys with _ | ⟨y, _ | ⟨z, _ | ⟨u, t⟩⟩⟩
      · cases hl
      · cases hl
      · exact ⟨y, z, rfl⟩
      · simp at hl
    refine ⟨a, [y, z], rfl, ha, _, pss_cons (ps_ost (pe_var (i := 0) rfl (.inl (S.par _ (by simp))) (by decide) (by decide)) (pe_var (i := 1) rfl (.inl (S.par _ (by simp))) (dbg1 hd1) (dbg2 hd1)) (hsw _))
      (pss_one (ps_ost (pe_var (i := 0) rfl (.inl (S.par _ (by simp))) (by decide) (by decide)) (pe_var (i := 2) rfl (.inl (S.par _ (by simp))) (dbg1 hd2) (dbg2 hd2)) (hsw2 _))), ?_⟩
    refine ⟨y, rfl, .ref a, rfl, a, C, rfl, F.oex, hno, .inl ⟨ha, fun d hd ne => ?_⟩⟩
    refine ⟨z, rfl, .ref a, rfl, a, C, rfl, F.oex, hno2, .inr ⟨d, [(g, y)], upd_same, by rw [upd_ne ne, upd_same], by simp, ?_⟩⟩
    refine hq d _ hd ne ?_ upd_same fun b h1 h2 => ?_
    · rw [upd_ne (Ne.symm ne), upd_same]
    · rw [upd_ne h2, upd_ne h1, upd_ne h2]
end
/-- a class of exceptions whose __init__ keeps such a promise -/
structure ExiAt (P : Program) (w : World) (K : PySem.W.Frag) (mg : Str → Option Value) (base : Heap) (k : Nat) (x : Str) (gs : List Str) : Prop where
  F : ∃ (fd : FuncData) (ps : List Str), FnOk P w K mg base (L2.CX P w) k (He.ma K (He.ga K x) "__init__") fd ps (spXI (He.ga K x) gs) ∧ Binds K fd ps []
  T : OexC K (He.ga K x)
  iC : PySem.W.findIn K (.ref (He.ga K x)) "__init__" = some (some (.ref (He.ma K (He.ga K x) "__init__")))
  tI : PySem.W.typeIn K (.ref (He.ma K (He.ga K x) "__init__")) = some (.type "function")
  glo : mg x = some (.ref (He.ga K x))
section
variable {T : List (Addr × Str)} {X : Cx} {σ : St} {L : List SA} {D : EndsL} {N : List Str} {ks : List (Str × NameKind)} {x : Str} {e : Expr} {es : List Expr} {p pos pos2 : Pos} {kx : KX} {k : Nat} {gs : List Str}
theorem gs_raiseI (n : Nm X N ks) (h : Kd ks x .globalImplicit) (hc : X.calm = true) (ex : ExiAt X.prog X.w X.K X.mg X.base k x gs) (hr : Room (k + 1) X.A) (hx : Xok T X kx) (hd : dbg x = false) (he : starEach (e :: es) X.env = (false, eval e X.env) :: starEach es X.env) (hpl : (backTo pos (starEach es X.env)).any (·.1) = false)
    (g : GA T X (e :: es) σ L fun vs L1 => vs.length = gs.length ∧ vs.length ≤ 1000 ∧ ∀ d, kx (.ref (He.ga X.K x)) (some d) (pt d (.xd (gs.zip vs).reverse) :: L1)) :
    GS T X (.Raise (some (.Call (.Name x p) (e :: es) [] pos)) none pos2) D σ L := by
  obtain ⟨W, tk, hW⟩ := hx
  obtain ⟨fd, ps, F1, hb⟩ := ex.F
  refine GS.of (ps_raise hc tk (pmk_oex ex.T ex.iC ex.tI F1 hr hb .nil (passes_call takes0 fun _ _ _ _ h => h) (n.gl h) ex.glo paW (dbg1 hd) he hpl)) fun H hs D0 l => ?_
  refine g H hs _ fun vs L1 H1 ⟨hl, hz, k1⟩ h1 => ⟨hz, fun a ha => ?_⟩
  rw [List.append_nil]
  refine ⟨a, vs, rfl, hl, upd_same, fun d H' hd ne e1 e2 e3 => ⟨rfl, d, _, e1, e2, ?_, ?_⟩⟩
  · rw [← upd_ne (H := H1) (o := exo a (He.ga X.K x) none) ne]; exact hd
  · have hd1 : H1 d = none := by rw [← upd_ne (H := H1) (o := exo a (He.ga X.K x) none) ne]; exact hd
    have eq : upd (del H' a) d (.xd (gs.zip vs).reverse) = upd H1 d (.xd (gs.zip vs).reverse) := by
      funext b
      by_cases hb1 : b = d
      · subst hb1; rw [upd_same, upd_same]
      · rw [upd_ne hb1, upd_ne hb1]
        by_cases hb2 : b = a
        · subst hb2; rw [del_same, ha]
        · rw [del_ne hb2, e3 b hb2 hb1, upd_ne hb2]
    rw [eq]
    exact hW _ _ _ _ _ (k1 d) (h1.new hd1 fun _ => nofun)
end
end SW
set_option Elab.async false
set_option linter.all false
set_option maxRecDepth 100000
set_option maxHeartbeats 2000000
/-! Sx3: such classes in the head: looked at by Bools; a Hook that sees the statics too. -/
namespace SW
open PySem PySem.Spec L2
open PyProof.Rows hiding St
def oexB (K : PySem.W.Frag) (C : Addr) : Bool := match K.lookup C with
  | some ⟨.type "type", _, .cls cd, sl⟩ => (match cd.mro, sl.toList with
    | .ref C' :: bm, [_, _, _, _, some (.builtin n), _] => C' == C && (n == "ValueError.__new__" && (!cd.hasDel && (cd.hasDict && PySem.HandSPX.refsVE bm)))
    | _, _ => false)
  | _ => false
theorem oexB_ok {K : PySem.W.Frag} {C : Addr} (q : oexB K C = true) : ∃ nm q N bs bm sn sub ab col dd k0 k1 k2 k3 k5, K.lookup C = some (excClassObj nm q C N bs bm true sn sub ab col dd k0 k1 k2 k3 k5 "ValueError.__new__") ∧ PySem.HandSPX.refsVE bm = true := by
  unfold oexB at q
  split at q
  · rename_i dd cd sl ho
    split at q
    · rename_i C' bm k0 k1 k2 k3 n k5 hm hs
      simp only [Bool.and_eq_true, beq_iff_eq, Bool.not_eq_true'] at q
      obtain ⟨rfl, rfl, hdel, hdict, ht⟩ := q
      obtain ⟨nm, bs, mro, ns, qn, hd, sn, sub, ab, col, del⟩ := cd
      dsimp only at hm hdel hdict
      subst hm hdel hdict
      have hsl : sl = #[k0, k1, k2, k3, some (.builtin "ValueError.__new__"), k5] := by
        obtain ⟨l⟩ := sl
        simp only at hs
        rw [hs]
      subst hsl
      exact ⟨nm, qn, ns, bs, bm, sn, sub, ab, col, dd, k0, k1, k2, k3, k5, ho, ht⟩
    · cases q
  · cases q
/-- the closure and the code of such an __init__ -/
def cloB (P : Program) (K : PySem.W.Frag) (C : Addr) (fd : FuncData) : Bool := match fd.closure, fd.code with
  | [(nm, cc)], .ref cda => nm == ("__class__" : Str) && (PySem.W.codeIn K (.ref cda) fd.qualname && ((match K.lookup cc with
    | some ⟨_, _, .cell (some (.ref D)), _⟩ => D == C
    | _ => false) && (match K.lookup cda with
    | some ⟨_, _, .fields vs, _⟩ => (match (vs[2]? : Option Value) with
      | some (.str file _) => (P.main.file : Str) == file
      | _ => false)
    | _ => false)))
  | _, _ => false
abbrev FnS : Type := Option (Str × Str × Arguments × FuncBody × Scope × Addr × Addr)
abbrev XiD : Type := Str × Arguments × List Stmt × Scope
def fiA (K : PySem.W.Frag) (x : Str) : Addr := He.ma K (He.ga K x) "__init__"
def fnS (K : PySem.W.Frag) (x : Str) : FnS := match K.lookup (fiA K x) with
  | some ⟨_, _, .func fd, _⟩ => some (fd.name, fd.qualname, fd.params, fd.body, fd.scope, fd.globals, fd.builtins)
  | _ => none
def XiD.val (d : XiD) : FnS := some ("__init__", d.1 ++ ".__init__", d.2.1, .stmts d.2.2.1, d.2.2.2, mainGlobals, builtinsNs)
def supB (P : Program) (K : PySem.W.Frag) (x : Str) : Bool :=
  oexB K (He.ga K x) && (He.eqO (PySem.W.findIn K (.ref (He.ga K x)) "__setattr__") (some (some (.builtin "object.__setattr__"))) && (decide (PySem.W.subIn K (.ref (He.ga K x)) (.type "BaseException") = some true) && (decide (PySem.W.typeIn K (.ref (He.ga K x)) = some (.type "type")) && (PySem.W.keepIn K (.ref (He.ga K x)) &&
  (He.eqO (PySem.W.nsIn K mainGlobals "super") (some none) && (He.eqO (PySem.W.nsIn K cStatics "thirdparty.any") (some none) && ((match PySem.W.clsIn K (He.ga K x) with
    | some cd => He.eqO (PySem.W.alongIn K "__init__" ((cd.mro.dropWhile (· != .ref (He.ga K x))).drop 1)) (some (some (.builtin "ValueError.__init__")))
    | none => false) && (decide (PySem.W.mroIn K (He.ga K x) (.type "ValueError") = some true) && (decide (PySem.W.mroIn K (He.ga K x) (.ref (He.ga K x)) = some true) && (!(P.main.scope.names.lookup ("super" : Str)).isSome && (PySem.W.keepIn K (.ref (fiA K x)) &&
  (He.eqO (PySem.W.findIn K (.ref (He.ga K x)) "__init__") (some (some (.ref (fiA K x)))) && (decide (PySem.W.typeIn K (.ref (fiA K x)) = some (.type "function")) && (match K.lookup (fiA K x) with
    | some ⟨_, _, .func fd, _⟩ => (match fd.defaults with
      | .none => cloB P K (He.ga K x) fd
      | _ => false)
    | _ => false))))))))))))))
theorem supB_ok {P : Program} {K : PySem.W.Frag} {d : XiD} (h : supB P K d.1 = true) (hf : fnS K d.1 = d.val) : ∃ fd, SupF K P (fiA K d.1) (He.ga K d.1) (d.1 ++ ".__init__") d.2.1 d.2.2.1 d.2.2.2 fd ∧
    PySem.W.findIn K (.ref (He.ga K d.1)) "__init__" = some (some (.ref (fiA K d.1))) ∧ PySem.W.typeIn K (.ref (fiA K d.1)) = some (.type "function") ∧
    ∀ ps : List Str, (∀ (cl : List (Str × Addr)) (kV doc pm : Value) (an : Option Addr) (cdv ct : Value) (us : List Value), us.length = ps.length → bindArgs (PySem.W.fnX "__init__" (d.1 ++ ".__init__") d.2.1 d.2.2.1 d.2.2.2 cl .none kV doc pm an cdv ct) ⟨us, []⟩ = pure (ps.zip us)) → Binds K fd ps [] := by
  unfold supB at h
  obtain ⟨h1, h⟩ := He.ba h
  obtain ⟨h2, h⟩ := He.ba h
  obtain ⟨h3, h⟩ := He.ba h
  obtain ⟨h4, h⟩ := He.ba h
  obtain ⟨h5, h⟩ := He.ba h
  obtain ⟨h6, h⟩ := He.ba h
  obtain ⟨h7, h⟩ := He.ba h
  obtain ⟨h8, h⟩ := He.ba h
  obtain ⟨h9, h⟩ := He.ba h
  obtain ⟨h10, h⟩ := He.ba h
  obtain ⟨h11, h⟩ := He.ba h
  obtain ⟨h12, h⟩ := He.ba h
  obtain ⟨h13, h⟩ := He.ba h
  obtain ⟨h14, h15⟩ := He.ba h
  cases hl : K.lookup (fiA K d.1) with
  | none => rw [hl] at h15; cases h15
  | some o =>
    obtain ⟨oc, od, dt, osl⟩ := o
    rw [hl] at h15
    cases dt with
    | func fd =>
      unfold fnS at hf
      rw [hl] at hf
      obtain ⟨f1, f2, f3, f4, f5, f6, f7, f8, f9, f10, f11, f12, f13, f14, f15⟩ := fd
      have e := Option.some.inj hf
      simp only [Prod.mk.injEq] at e
      obtain ⟨rfl, rfl, rfl, rfl, rfl, rfl, rfl⟩ := e
      cases f8 with
      | none =>
        have h15 : cloB P K (He.ga K d.1) _ = true := h15
        unfold cloB at h15
        split at h15
        · rename_i nm cc cda hc hcode
          obtain ⟨g1, g⟩ := He.ba h15
          obtain ⟨g2, g⟩ := He.ba g
          obtain ⟨g3, g4⟩ := He.ba g
          have g1 := beq_iff_eq.mp g1
          subst g1
          dsimp only at hc hcode g2
          subst hc hcode
          split at g3
          · rename_i c1 c2 D0 c4 hcc
            have g3 := beq_iff_eq.mp g3
            subst g3
            split at g4
            · rename_i v1 v2 vs v4 hcda
              split at g4
              · rename_i file tf hvs
                obtain ⟨cd, hcd, hal⟩ : ∃ cd, PySem.W.clsIn K (He.ga K d.1) = some cd ∧ PySem.W.alongIn K "__init__" ((cd.mro.dropWhile (· != .ref (He.ga K d.1))).drop 1) = some (some (.builtin "ValueError.__init__")) := by
                  split at h8
                  · rename_i cd hcd
                    exact ⟨cd, hcd, He.eqO_ok h8⟩
                  · cases h8
                refine ⟨_, ⟨⟨oc, od, osl, cda, cc, .none, f9, f10, f11, f12, f14, c1, c2, c4, v1, v2, vs, v4, file, tf, rfl, hl, g2, hcc, hcda, hvs, g4⟩, ⟨oexB_ok h1, He.eqO_ok h2, of_decide_eq_true h3, of_decide_eq_true h4, h5⟩, He.eqO_ok h6, He.eqO_ok h7, ⟨cd, hcd, hal⟩, of_decide_eq_true h9, of_decide_eq_true h10, by simpa using h11, h12⟩,
                  He.eqO_ok h13, of_decide_eq_true h14, fun ps hb => ?_⟩
                exact .all (hb [("__class__", cc)] f9 f10 f11 f12 (.ref cda) f14)
              · cases g4
            · cases g4
          · cases g3
        · cases h15
      | _ => cases h15
    | _ => cases h15
/-! ### the Hook that sees the statics -/
def asY (g : Addr → Option Obj) (n : Nat) : List Addr := He.asD g n ++ [cStatics]
/-- what is told: HeadHook4's facts, and such classes' inits -/
structure SaysY (fa : List He.Fa) (fn : List He.DefD) (tf : List He.Defn) (sf : List XiD) (ex : PySem.W.Frag → Bool) (h : Heap) (K : PySem.W.Frag) : Prop where
  d : He.SaysD fa fn K
  more : ex K = true
  xi : sf.map (fun d => fnS K d.1) = sf.map XiD.val
  hd : ∀ p ∈ tf, PySem.W.codeHdIn K (He.cT K p).1 (He.cT K p).2 = true
  out : ∀ p ∈ tf, K.lookup (He.cT K p).2 = none
  empty : ∀ p ∈ tf, h.get? (He.cT K p).2 = some { cls := .none, data := .fields #[] }
abbrev AlY : Type := (He.AlD × Bool) × List FnS
def obsY (n : Nat) (fa : List He.Fa) (fn : List He.DefD) (tf : List He.Defn) (sf : List XiD) (ex : PySem.W.Frag → Bool) (g : Addr → Option Obj) : AlY :=
  ((He.obsD fa fn (He.frT g (asY g n)), ex (He.frT g (asY g n)) && He.tabsB g tf (He.frT g (asY g n))), sf.map fun d => fnS (He.frT g (asY g n)) d.1)
def valY (fn : List He.DefD) (sf : List XiD) : AlY := ((He.valD fn, true), sf.map XiD.val)
theorem saysY_of {n : Nat} {fa : List He.Fa} {fn : List He.DefD} {tf : List He.Defn} {sf : List XiD} {ex : PySem.W.Frag → Bool} {h : Heap} (e : obsY n fa fn tf sf ex h.get? = valY fn sf) : SaysY fa fn tf sf ex h (He.frT h.get? (asY h.get? n)) := by
  have e1 : He.obsD fa fn (He.frT h.get? (asY h.get? n)) = He.valD fn := congrArg (fun z : AlY => z.1.1) e
  have e2 : (ex (He.frT h.get? (asY h.get? n)) && He.tabsB h.get? tf (He.frT h.get? (asY h.get? n))) = true := congrArg (fun z : AlY => z.1.2) e
  have e3 : (sf.map fun d => fnS (He.frT h.get? (asY h.get? n)) d.1) = sf.map XiD.val := congrArg (fun z : AlY => z.2) e
  obtain ⟨h1, h2⟩ := He.ba e2
  have key : ∀ p ∈ tf, PySem.W.codeHdIn (He.frT h.get? (asY h.get? n)) (He.cT (He.frT h.get? (asY h.get? n)) p).1 (He.cT (He.frT h.get? (asY h.get? n)) p).2 = true ∧ ∃ o, h.get? (He.cT (He.frT h.get? (asY h.get? n)) p).2 = some o ∧ He.emptyTab o = true := fun p hp => by
    obtain ⟨h3, h4⟩ := He.ba (List.all_eq_true.mp h2 p hp)
    refine ⟨h3, ?_⟩
    cases q : h.get? (He.cT (He.frT h.get? (asY h.get? n)) p).2 with
    | none => rw [q] at h4; cases h4
    | some o => rw [q] at h4; exact ⟨o, rfl, h4⟩
  exact ⟨e1, h1, e3, fun p hp => (key p hp).1, fun p hp => by
    obtain ⟨_, o, q, z⟩ := key p hp
    exact He.frT_none q z, fun p hp => by
    obtain ⟨_, o, q, z⟩ := key p hp
    rw [q, He.emptyTab_eq z]⟩
def hookY (n : Nat) (fa : List He.Fa) (fn : List He.DefD) (tf : List He.Defn) (sf : List XiD) (ex : PySem.W.Frag → Bool) : PySem.W.Hook where
  α := AlY
  obs := fun s => obsY n fa fn tf sf ex s.heap.get?
  val := fun _ => valY fn sf
  says := fun _ h => ∃ K : PySem.W.Frag, K.In h ∧ SaysY fa fn tf sf ex h K
  of := fun _ _ e => ⟨_, He.frT_in, saysY_of e⟩
  keeps := fun _ _ _ ⟨K, hK, c⟩ k => ⟨K, PySem.W.Frag.In.keeps hK k, ⟨c.d, c.more, c.xi, c.hd, c.out, fun p hp => k _ _ (c.empty p hp)⟩⟩
theorem obsY_eq {n : Nat} {fa : List He.Fa} {fn : List He.DefD} {tf : List He.Defn} {sf : List XiD} {ex : PySem.W.Frag → Bool} {g : Addr → Option Obj} {s : Shared} (h : ∀ a, g a = s.heap.get? a) : obsY n fa fn tf sf ex g = (hookY n fa fn tf sf ex).obs s := by
  have e : g = s.heap.get? := funext h
  rw [e] <;> rfl
theorem SaysY.xi_at {fa : List He.Fa} {fn : List He.DefD} {tf : List He.Defn} {sf : List XiD} {ex : PySem.W.Frag → Bool} {h : Heap} {K : PySem.W.Frag} (c : SaysY fa fn tf sf ex h K) (i : Nat) {d : XiD} (hd : sf[i]? = some d := by rfl) : fnS K d.1 = d.val := by
  have e : (sf.map fun d => fnS K d.1)[i]? = (sf.map XiD.val)[i]? := by rw [c.xi]
  rw [List.getElem?_map, List.getElem?_map, hd] at e
  exact Option.some.inj e
end SW
set_option Elab.async false
set_option linter.all false
set_option maxRecDepth 100000
set_option maxHeartbeats 2000000
/-! Sw14: operators in place; items of tuples of any length. -/
namespace SW
open PySem PySem.Spec L2
open PyProof.Rows hiding St
section
variable {T : List (Addr × Str)} {X : Cx} {σ : St} {L R' R2' : List SA} {K : GK} {α β : Type} {R : PRep α} {S : PRep β} {v : V}
theorem gip_mul {i j : Int} (c : (-(2 ^ 64) < i ∧ i < 2 ^ 64) ∨ (-(2 ^ 64) < j ∧ j < 2 ^ 64)) (k : K (.int (i * j)) L) : GIp T X .Mult (.int i) (.int j) L K := GIp.of iop_mul (wr_I c k)
theorem gip_div {i j : Int} (c : 0 < j ∧ j < 1073741824) (k : K (.int (i / j)) L) : GIp T X .FloorDiv (.int i) (.int j) L K := GIp.of iop_fdiv (wr_I c k)
theorem gip_mod {i j : Int} (c : 0 < j) (k : K (.int (i % j)) L) : GIp T X .Mod (.int i) (.int j) L K := GIp.of iop_mod (wr_I c k)
/-- an item of a tuple -/
theorem gi_tl {ds : List α} {n : Nat} {d : α} (r : Rv T L v (rTl R) ds) (e : ds[n]? = some d) (k : ∀ x, K x (Val R x d :: L)) : GIx T X v (.int (n : Int)) L K := by
  intro H hs Q q
  obtain ⟨a, xs, rfl, ex, ax⟩ := r H hs
  obtain ⟨x, e1, rx⟩ := ax.get e
  intro value slice pins s' σ v u I rx' ry z
  exact ix_tup value slice pins s' σ H (.ref a) (.int n) v u Q I rx' ry ⟨a, xs, (n : Int), x, rfl, rfl, SqT.of ex, atI_nat e1, q _ _ _ (k x) (hs.addP Val.pers rx)⟩ z
theorem gi_tlS {f : α → V} {g : α → Prop} (c : Scal R f g) {ds : List α} {n : Nat} {d : α} (r : Rv T L v (rTl R) ds) (e : ds[n]? = some d) (k : K (f d) L) : GIx T X v (.int (n : Int)) L K := by
  intro H hs Q q
  obtain ⟨a, xs, rfl, ex, ax⟩ := r H hs
  obtain ⟨x, e1, rx⟩ := ax.get e
  obtain ⟨rfl, _⟩ := c.to rx
  intro value slice pins s' σ v u I rx' ry z
  exact ix_tup value slice pins s' σ H (.ref a) (.int n) v u Q I rx' ry ⟨a, xs, (n : Int), f d, rfl, rfl, SqT.of ex, atI_nat e1, q _ _ _ k hs⟩ z
theorem gi_pair0 {d : α × β} (r : Rv T L v (rPair R S) d) (k : ∀ x, K x (Val R x d.1 :: L)) : GIx T X v (.int 0) L K := by
  intro H hs Q q
  obtain ⟨a, x, y, rfl, ex, r1, r2⟩ := r H hs
  intro value slice pins s' σ v u I rx' ry z
  exact ix_tup value slice pins s' σ H (.ref a) (.int 0) v u Q I rx' ry ⟨a, [x, y], 0, x, rfl, rfl, SqT.of ex, rfl, q _ _ _ (k x) (hs.addP Val.pers r1)⟩ z
theorem gi_pair1 {d : α × β} (r : Rv T L v (rPair R S) d) (k : ∀ x, K x (Val S x d.2 :: L)) : GIx T X v (.int 1) L K := by
  intro H hs Q q
  obtain ⟨a, x, y, rfl, ex, r1, r2⟩ := r H hs
  intro value slice pins s' σ v u I rx' ry z
  exact ix_tup value slice pins s' σ H (.ref a) (.int 1) v u Q I rx' ry ⟨a, [x, y], 1, y, rfl, rfl, SqT.of ex, rfl, q _ _ _ (k y) (hs.addP Val.pers r2)⟩ z
theorem rv_tl1 {a : Addr} {x : V} {d : α} (s : Sel L (pt a (.tup [x])) R') (h : Rv T L x R d) : Rv T L (.ref a) (rTl R) [d] := fun H hs => ⟨a, [x], rfl, hs.at s, .cons (h H hs) .nil⟩
theorem rv_tl2 {a : Addr} {x y : V} {d e : α} (s : Sel L (pt a (.tup [x, y])) R') (h : Rv T L x R d) (h2 : Rv T L y R e) : Rv T L (.ref a) (rTl R) [d, e] := fun H hs => ⟨a, [x, y], rfl, hs.at s, .cons (h H hs) (.cons (h2 H hs) .nil)⟩
end
section
variable {T : List (Addr × Str)} {X : Cx} {σ : St} {L : List SA} {α : Type} {R : PRep α}
theorem gg_val {f : α → V} {g : α → Prop} (c : Scal R f g) {e : Expr} {v : V} {d : α} {K : St → List SA → Prop} (r : Rv T L v R d) (h : g d → GG T X e (f d) σ L K) : GG T X e v σ L K := fun H hs Q q => by
  obtain ⟨rfl, k⟩ := c.to (r H hs)
  exact h k H hs Q q
end
section
variable {T : List (Addr × Str)} {X : Cx} {σ : St} {L : List SA} {α β : Type} {R : PRep α} {S : PRep β} {v : V}
theorem pers_tup {a : Addr} {xs : List V} : Pers (fun h => h a = some (.tup xs)) := fun _ _ t e => t _ _ e
/-- a pair unpacked, its first of any kind -/
theorem gg_pairL {g : β → V} {cg : β → Prop} {es : List Expr} {k : Nat} {p : Pos} {K : St → List SA → Prop} (c2 : Scal S g cg) {d : α × β} (r : Rv T L v (rPair R S) d) (hc : X.calm = true) (hn : (assignEach es X.env).length = 2) (hst : (assignEach es X.env).findIdx? (·.1) = none)
    (h : ∀ x, cg d.2 → GGs T X es [x, g d.2] σ (Val R x d.1 :: L) K) : GG T X (.Tuple es k p) v σ L K := fun H hs Q q => by
  obtain ⟨a, x, y, rfl, e, h1, h2⟩ := r H hs
  obtain ⟨rfl, k2⟩ := c2.to h2
  exact gg_tupF (L := (fun h => h a = some (.tup [x, g d.2])) :: Val R x d.1 :: L) hc (xs := [x, g d.2]) hn hst (fun H' hs' => hs'.getP pers_tup .here) (fun H' hs' => h x k2 H' hs'.tail) H ((hs.addP Val.pers h1).addP pers_tup e) Q q
theorem ent_val {d : α} (r : Rv T L v R d) : Ent T L (Val R v d :: L) := fun H h => h.addP Val.pers (r H h)
end
theorem ite_nT {z : Str} {A B : Prop} (h : B) : if decide (V.str z = V.non) = true then A else B := by rw [decide_eq_false (by nofun)]; exact iteF h
theorem ite_nnT {z : Str} {A B : Prop} (h : A) : if (!decide (V.str z = V.non)) = true then A else B := by rw [decide_eq_false (by nofun)]; exact iteT h
/-- two values, in order -/
def K2 (P : V → V → List SA → Prop) : List V → List SA → Prop := fun vs L => ∃ v w, vs = [v, w] ∧ P v w L
theorem K2.mk {P : V → V → List SA → Prop} {v w : V} {L : List SA} (h : P v w L) : K2 P [v, w] L := ⟨v, w, rfl, h⟩
theorem gs_par2 {X : Cx} {σ : St} {L : List SA} {D : EndsL} {N : List Str} {ks : List (Str × NameKind)} {x y : Str} {f1 : V → St} {f2 : V → V → St} {a b : Expr} {px py p3 pos : Pos} {kt k2 p4} (n : Nm X N ks) (s1 : Slot N σ x f1) (s2 : ∀ v, Slot N (f1 v) y (f2 v)) (h1 : Kd ks x .local) (h2 : Kd ks y .local) (hne : decide (x = y) = false) (hc : X.calm = true)
    (hw : swappedStores [.Tuple [.Name x px, .Name y py] kt p3] (.Tuple [a, b] k2 p4) X.env = pure (some [x, y])) (hs : swapsWithSole [.Tuple [.Name x px, .Name y py] kt p3] (.Tuple [a, b] k2 p4) pos.line X.env = pure false)
    (h : GA T X [a, b] σ L (K2 fun v w => D.nx (f2 v w))) : GS T X (.Assign [.Tuple [.Name x px, .Name y py] kt p3] (.Tuple [a, b] k2 p4) pos) D σ L := by
  obtain ⟨i, hi, ei⟩ := s1.ix
  have hj : ∃ j : Nat, N[j]? = some y ∧ ∀ v w, f2 v w = (f1 v).set j (some w) := by
    obtain ⟨j, hj, ej⟩ := (s2 .non).ix
    refine ⟨j, hj, fun v w => ?_⟩
    obtain ⟨j', hj', ej'⟩ := (s2 v).ix
    have hlt : j < N.length := by
      by_cases c : j < N.length
      · exact c
      · rw [List.getElem?_eq_none (by omega)] at hj; cases hj
    have : j = j' := (List.getElem?_inj hlt n.nd).mp (by rw [hj, hj'])
    subst this
    exact ej' w
  obtain ⟨j, hj, ej⟩ := hj
  have hij : i ≠ j := fun z => by
    subst z
    rw [hi] at hj
    cases hj
    exact of_decide_eq_false hne rfl
  refine gs_par hc n.ndN (by rw [n.nn]; exact hi) (by rw [n.nn]; exact hj) hij (n.look h1) (n.look h2) hw hs fun H hh Q q => h H hh Q fun vs L1 H1 ⟨v, w, e, k⟩ h1 => q vs L1 H1 ⟨v, w, e, by rw [← ei, ← ej]; exact k⟩ h1
end SW
set_option Elab.async false
set_option linter.all false
set_option maxRecDepth 100000
set_option maxHeartbeats 1600000
set_option pp.deepTerms false
set_option pp.deepTerms.threshold 10
set_option pp.maxSteps 500
namespace K01
open PySem PySem.Spec L2 SW
open PyProof.Rows hiding St
/-- the program's statements, by places -/
def top (i : Nat) : Stmt := PySem.Challenge.pw_brookhall_k01_records_as_octets.main.body.getD i (.Pass ⟨0, 0, 0, 0⟩)
abbrev s_BadRecord__init : Stmt := inClass (top 2) 0
abbrev s_OutOfLog__init : Stmt := inClass (top 3) 0
abbrev s_OutOfOrder__init : Stmt := inClass (top 5) 0
abbrev s_BadText__init : Stmt := inClass (top 8) 0
abbrev s_folded : Stmt := top 12
abbrev n_folded : List Str := ["number"]
abbrev k_folded : List (Str × NameKind) := [("number", .local)]
theorem sc_folded : DefSc n_folded ["number"] k_folded (defScope s_folded) := ⟨⟨rfl, rfl, rfl, by decide +kernel, rfl, by decide +kernel, by decide +kernel⟩, rfl, by decide +kernel⟩
abbrev s_unfolded : Stmt := top 13
abbrev n_unfolded : List Str := ["number"]
abbrev k_unfolded : List (Str × NameKind) := [("number", .local)]
theorem sc_unfolded : DefSc n_unfolded ["number"] k_unfolded (defScope s_unfolded) := ⟨⟨rfl, rfl, rfl, by decide +kernel, rfl, by decide +kernel, by decide +kernel⟩, rfl, by decide +kernel⟩
abbrev s_number_octets : Stmt := top 14
abbrev n_number_octets : List Str := ["number", "found"]
abbrev k_number_octets : List (Str × NameKind) := [("number", .local), ("found", .local), ("folded", .globalImplicit), ("BadRecord", .globalImplicit)]
theorem sc_number_octets : DefSc n_number_octets ["number"] k_number_octets (defScope s_number_octets) := ⟨⟨rfl, rfl, rfl, by decide +kernel, rfl, by decide +kernel, by decide +kernel⟩, rfl, by decide +kernel⟩
abbrev s_text_octets : Stmt := top 15
abbrev n_text_octets : List Str := ["text", "found", "sign"]
abbrev k_text_octets : List (Str × NameKind) := [("text", .local), ("found", .local), ("sign", .local), ("number_octets", .globalImplicit), ("len", .globalImplicit), ("SIGNS", .globalImplicit), ("BadRecord", .globalImplicit)]
theorem sc_text_octets : DefSc n_text_octets ["text"] k_text_octets (defScope s_text_octets) := ⟨⟨rfl, rfl, rfl, by decide +kernel, rfl, by decide +kernel, by decide +kernel⟩, rfl, by decide +kernel⟩
abbrev s_Reader__init : Stmt := inClass (top 16) 0
abbrev n_Reader__init : List Str := ["self", "row", "place"]
abbrev k_Reader__init : List (Str × NameKind) := [("self", .local), ("row", .local), ("place", .local)]
theorem sc_Reader__init : DefSc n_Reader__init ["self", "row", "place"] k_Reader__init (defScope s_Reader__init) := ⟨⟨rfl, rfl, rfl, by decide +kernel, rfl, by decide +kernel, by decide +kernel⟩, rfl, by decide +kernel⟩
abbrev s_Reader_octet : Stmt := inClass (top 16) 1
abbrev n_Reader_octet : List Str := ["self"]
abbrev k_Reader_octet : List (Str × NameKind) := [("self", .local), ("len", .globalImplicit), ("BadRecord", .globalImplicit)]
theorem sc_Reader_octet : DefSc n_Reader_octet ["self"] k_Reader_octet (defScope s_Reader_octet) := ⟨⟨rfl, rfl, rfl, by decide +kernel, rfl, by decide +kernel, by decide +kernel⟩, rfl, by decide +kernel⟩
abbrev s_Reader_whole : Stmt := inClass (top 16) 2
abbrev n_Reader_whole : List Str := ["self", "start", "found", "much", "octet"]
abbrev k_Reader_whole : List (Str × NameKind) := [("self", .local), ("start", .local), ("found", .local), ("much", .local), ("octet", .local), ("BadRecord", .globalImplicit), ("unfolded", .globalImplicit)]
theorem sc_Reader_whole : DefSc n_Reader_whole ["self"] k_Reader_whole (defScope s_Reader_whole) := ⟨⟨rfl, rfl, rfl, by decide +kernel, rfl, by decide +kernel, by decide +kernel⟩, rfl, by decide +kernel⟩
abbrev s_Reader_text : Stmt := inClass (top 16) 3
abbrev n_Reader_text : List Str := ["self", "start", "count", "found", "k", "octet"]
abbrev k_Reader_text : List (Str × NameKind) := [("self", .local), ("start", .local), ("count", .local), ("found", .local), ("k", .local), ("octet", .local), ("len", .globalImplicit), ("BadRecord", .globalImplicit), ("range", .globalImplicit), ("SIGNS", .globalImplicit)]
theorem sc_Reader_text : DefSc n_Reader_text ["self"] k_Reader_text (defScope s_Reader_text) := ⟨⟨rfl, rfl, rfl, by decide +kernel, rfl, by decide +kernel, by decide +kernel⟩, rfl, by decide +kernel⟩
abbrev s_sum_of : Stmt := top 17
abbrev n_sum_of : List Str := ["row", "one", "other", "octet"]
abbrev k_sum_of : List (Str × NameKind) := [("row", .local), ("one", .local), ("other", .local), ("octet", .local)]
theorem sc_sum_of : DefSc n_sum_of ["row"] k_sum_of (defScope s_sum_of) := ⟨⟨rfl, rfl, rfl, by decide +kernel, rfl, by decide +kernel, by decide +kernel⟩, rfl, by decide +kernel⟩
abbrev s_record_octets : Stmt := top 18
abbrev n_record_octets : List Str := ["record", "base", "time", "mark", "at", "key", "value"]
abbrev k_record_octets : List (Str × NameKind) := [("record", .local), ("base", .local), ("time", .local), ("mark", .local), ("at", .local), ("key", .local), ("value", .local), ("number_octets", .globalImplicit), ("text_octets", .globalImplicit)]
theorem sc_record_octets : DefSc n_record_octets ["record", "base", "time"] k_record_octets (defScope s_record_octets) := ⟨⟨rfl, rfl, rfl, by decide +kernel, rfl, by decide +kernel, by decide +kernel⟩, rfl, by decide +kernel⟩
abbrev s_batch : Stmt := top 19
abbrev n_batch : List Str := ["records", "base", "time", "row", "record", "head"]
abbrev k_batch : List (Str × NameKind) := [("records", .local), ("base", .local), ("time", .local), ("row", .local), ("record", .local), ("head", .local), ("BadRecord", .globalImplicit), ("number_octets", .globalImplicit), ("len", .globalImplicit), ("record_octets", .globalImplicit), ("sum_of", .globalImplicit), ("tuple", .globalImplicit)]
theorem sc_batch : DefSc n_batch ["records"] k_batch (defScope s_batch) := ⟨⟨rfl, rfl, rfl, by decide +kernel, rfl, by decide +kernel, by decide +kernel⟩, rfl, by decide +kernel⟩
abbrev s_read_batch : Stmt := top 20
abbrev n_read_batch : List Str := ["row", "place", "reader", "count", "end", "total", "start", "base", "time", "many", "found", "k", "mark", "at", "key"]
abbrev k_read_batch : List (Str × NameKind) := [("row", .local), ("place", .local), ("reader", .local), ("count", .local), ("end", .local), ("total", .local), ("start", .local), ("base", .local), ("time", .local), ("many", .local), ("found", .local), ("k", .local), ("mark", .local), ("at", .local), ("key", .local), ("Reader", .globalImplicit), ("len", .globalImplicit), ("BadRecord", .globalImplicit), ("sum_of", .globalImplicit), ("range", .globalImplicit), ("tuple", .globalImplicit)]
theorem sc_read_batch : DefSc n_read_batch ["row", "place"] k_read_batch (defScope s_read_batch) := ⟨⟨rfl, rfl, rfl, by decide +kernel, rfl, by decide +kernel, by decide +kernel⟩, rfl, by decide +kernel⟩
abbrev s_read_all : Stmt := top 21
abbrev n_read_all : List Str := ["row", "found", "place", "records"]
abbrev k_read_all : List (Str × NameKind) := [("row", .local), ("found", .local), ("place", .local), ("records", .local), ("len", .globalImplicit), ("read_batch", .globalImplicit), ("BadRecord", .globalImplicit), ("tuple", .globalImplicit)]
theorem sc_read_all : DefSc n_read_all ["row"] k_read_all (defScope s_read_all) := ⟨⟨rfl, rfl, rfl, by decide +kernel, rfl, by decide +kernel, by decide +kernel⟩, rfl, by decide +kernel⟩
abbrev s_law_dice : Stmt := top 23
abbrev n_law_dice : List Str := ["cell"]
abbrev k_law_dice : List (Str × NameKind) := [("cell", .local), ("abs", .globalImplicit), ("int", .globalImplicit)]
theorem sc_law_dice : DefSc n_law_dice ["cell"] k_law_dice (defScope s_law_dice) := ⟨⟨rfl, rfl, rfl, by decide +kernel, rfl, by decide +kernel, by decide +kernel⟩, rfl, by decide +kernel⟩
abbrev s_law_roll : Stmt := top 24
abbrev n_law_roll : List Str := ["dice", "many", "found"]
abbrev k_law_roll : List (Str × NameKind) := [("dice", .local), ("many", .local), ("found", .local), ("int", .globalImplicit)]
theorem sc_law_roll : DefSc n_law_roll ["dice", "many"] k_law_roll (defScope s_law_roll) := ⟨⟨rfl, rfl, rfl, by decide +kernel, rfl, by decide +kernel, by decide +kernel⟩, rfl, by decide +kernel⟩
abbrev s_law_rounds : Stmt := top 25
abbrev n_law_rounds : List Str := ["script", "most", "cells", "cell"]
abbrev k_law_rounds : List (Str × NameKind) := [("script", .local), ("most", .local), ("cells", .local)]
theorem sc_law_rounds : DefSc n_law_rounds ["script", "most"] k_law_rounds (defScope s_law_rounds) := ⟨⟨rfl, rfl, rfl, by decide +kernel, rfl, by decide +kernel, by decide +kernel⟩, rfl, by decide +kernel⟩
abbrev kc0_law_rounds : List (Str × NameKind) := [(".0", .local), ("cell", .local), ("_law_dice", .globalImplicit)]
abbrev ow0_law_rounds : List (Str × Nat) := [("cell", 3)]
abbrev s_law_told : Stmt := top 26
abbrev n_law_told : List Str := ["what"]
abbrev k_law_told : List (Str × NameKind) := [("what", .local), ("BadRecord", .globalImplicit), ("OutOfLog", .globalImplicit), ("Fenced", .globalImplicit), ("OutOfOrder", .globalImplicit), ("NotDue", .globalImplicit), ("BadPlan", .globalImplicit), ("BadText", .globalImplicit), ("TooLarge", .globalImplicit)]
theorem sc_law_told : DefSc n_law_told ["what"] k_law_told (defScope s_law_told) := ⟨⟨rfl, rfl, rfl, by decide +kernel, rfl, by decide +kernel, by decide +kernel⟩, rfl, by decide +kernel⟩
abbrev s_law : Stmt := top 27
abbrev n_law : List Str := ["script", "dice", "first", "records", "key", "value", "reply", "number", "one", "other", "octet", "k", "row", "spoilt"]
abbrev k_law : List (Str × NameKind) := [("script", .local), ("dice", .local), ("first", .local), ("records", .local), ("key", .local), ("value", .local), ("reply", .local), ("number", .local), ("one", .local), ("other", .local), ("octet", .local), ("k", .cell), ("row", .cell), ("spoilt", .cell), ("_law_rounds", .globalImplicit), ("_law_roll", .globalImplicit), ("range", .globalImplicit), ("tuple", .globalImplicit), ("batch", .globalImplicit), ("read_batch", .globalImplicit), ("len", .globalImplicit), ("_law_told", .globalImplicit), ("read_all", .globalImplicit), ("unfolded", .globalImplicit), ("folded", .globalImplicit), ("number_octets", .globalImplicit), ("sum_of", .globalImplicit), ("text_octets", .globalImplicit), ("record_octets", .globalImplicit)]
theorem sc_law : DefSc n_law ["script"] k_law (defScope s_law) := ⟨⟨rfl, rfl, rfl, by decide +kernel, rfl, by decide +kernel, by decide +kernel⟩, rfl, by decide +kernel⟩
local macro_rules | `(tactic| tm_at "sAt") => `(tactic| with_reducible (first | exact At.here | (apply At.there; tm_at "sAt")))
local macro_rules | `(tactic| tm_at "sSlot") => `(tactic| with_reducible (first | exact Slot.here | (apply Slot.there; tm_at "sSlot")))
local macro_rules | `(tactic| tm_at "sKd") => `(tactic| with_reducible (first | exact Kd.here | (apply Kd.there; tm_at "sKd")))
local macro_rules | `(tactic| tm_at "sSel") => `(tactic| with_reducible (first | exact Sel.here | (apply Sel.there; tm_at "sSel")))
local macro_rules | `(tactic| tm_at "sRpl") => `(tactic| with_reducible (first | exact Rpl.here | (apply Rpl.there; tm_at "sRpl")))
local macro_rules | `(tactic| tm_at "sTk") => `(tactic| (first | exact Tk.nil | (apply Tk.cons; (tm_at "sSel"); (tm_at "sTk"))))
local macro_rules | `(tactic| tm_at "sVk") => `(tactic| first
  | exact Vk.l
  | exact Vk.c
  | exact Vk.f)
local macro_rules | `(tactic| tm_at "sLk") => `(tactic| first
  | exact Lk.l
  | exact Lk.c)
local macro_rules | `(tactic| tm_at "sLf") => `(tactic| first
  | exact Or.inl rfl
  | exact Or.inr rfl)
local macro_rules | `(tactic| tm_at "sRoom") => `(tactic| first
  | assumption
  | exact L2.Room.mono (by assumption) (by decide))
local macro_rules | `(tactic| tm_at "sXok") => `(tactic| first
  | assumption
  | exact xok0)
local macro_rules | `(tactic| tm_at "sCv") => `(tactic| (first | with_reducible exact Cv.id | with_reducible exact Cv.lst0 | ((with_reducible refine Cv.pt ?_); tm_at "sEq") | ((with_reducible refine Cv.lst ?_); tm_at "sEq") | ((with_reducible refine Cv.val ?_); tm_at "sEq")))
local macro_rules | `(tactic| tm_at "sEq") => `(tactic| (first | rfl | assumption | (simp; done)))
local macro_rules | `(tactic| tm_at "sSelC") => `(tactic| (first | ((with_reducible apply SelC.here); tm_at "sCv") | ((with_reducible apply SelC.there); tm_at "sSelC")))
local macro_rules | `(tactic| tm_at "fit") => `(tactic| (first | with_reducible exact Fit.refl | with_reducible exact Fit.nil | ((with_reducible apply Fit.find); (case s => tm_at "sSelC"); (case t => tm_at "fit")) | ((with_reducible apply Fit.drop); tm_at "fit")))
local macro_rules | `(tactic| tm_at "sLkF") => `(tactic| with_reducible (first | exact LkF.here | (apply LkF.there (by with_unfolding_all rfl); tm_at "sLkF")))
local macro_rules | `(tactic| tm_at "sNoF") => `(tactic| with_reducible (first | exact NoF.nil | (apply NoF.cons (by with_unfolding_all rfl); tm_at "sNoF")))
local macro_rules | `(tactic| tm_at "sPutF") => `(tactic| with_reducible (first | exact PutF.here | exact PutF.nil | (apply PutF.there (by with_unfolding_all rfl); tm_at "sPutF")))
local macro_rules | `(tactic| tm_at "sHasL") => `(tactic| (first | exact hasL_pt (by tm_at "sSel") | exact hasL_R (by tm_at "sSel")))
local macro_rules | `(tactic| tm_at "sZ") => `(tactic| (first | assumption | (simp only [List.length_cons, List.length_nil, List.length_append, PySem.sizeLine_eq]; omega) | (rw [PySem.sizeLine_eq]; simp; done)))
local macro_rules | `(tactic| tm_at "sIx") => `(tactic| with_unfolding_all rfl)
local macro_rules | `(tactic| tm_at "sSet") => `(tactic| (first | exact SetR.here | (apply SetR.there; tm_at "sSet")))
local macro_rules | `(tactic| tm_at "sPut") => `(tactic| first
  | exact PutAt.c 0 (by with_unfolding_all rfl) (by tm_at "sSet")
  | exact PutAt.c 1 (by with_unfolding_all rfl) (by tm_at "sSet")
  | exact PutAt.c 2 (by with_unfolding_all rfl) (by tm_at "sSet")
  | exact PutAt.c 3 (by with_unfolding_all rfl) (by tm_at "sSet")
  | exact PutAt.c 4 (by with_unfolding_all rfl) (by tm_at "sSet")
  | exact PutAt.c 5 (by with_unfolding_all rfl) (by tm_at "sSet"))
local macro_rules | `(tactic| tm_at "gECall") => `(tactic| first
  | ((guard_target = GE _ _ (Expr.Call (Expr.Name "len" _) _ _ _) _ _ _); (with_reducible refine gb_len (by assumption) (by tm_at "sKd") ?hm ?he ?hpl ?_); (case hm => assumption); (case he => rfl); (case hpl => rfl))
  | ((guard_target = GE _ _ (Expr.Call (Expr.Name "int" _) _ _ _) _ _ _); (with_reducible refine gb_int (by assumption) (by tm_at "sKd") ?hm ?he ?hpl ?_); (case hm => assumption); (case he => rfl); (case hpl => rfl))
  | ((guard_target = GE _ _ (Expr.Call (Expr.Name "str" _) _ _ _) _ _ _); (with_reducible refine gb_str (by assumption) (by tm_at "sKd") ?hm ?he ?hpl ?_); (case hm => assumption); (case he => rfl); (case hpl => rfl))
  | ((guard_target = GE _ _ (Expr.Call (Expr.Name "list" _) _ _ _) _ _ _); (with_reducible refine gb_list (by assumption) (by tm_at "sKd") ?hm ?he ?hpl ?_); (case hm => assumption); (case he => rfl); (case hpl => rfl))
  | ((guard_target = GE _ _ (Expr.Call (Expr.Name "tuple" _) _ _ _) _ _ _); (with_reducible refine gb_tuple (by assumption) (by tm_at "sKd") ?hm ?he ?hpl ?_); (case hm => assumption); (case he => rfl); (case hpl => rfl))
  | ((guard_target = GE _ _ (Expr.Call (Expr.Name "min" _) _ _ _) _ _ _); (with_reducible refine gb_min (by assumption) (by tm_at "sKd") ?hm ?he ?hpl ?_); (case hm => assumption); (case he => rfl); (case hpl => rfl))
  | ((guard_target = GE _ _ (Expr.Call (Expr.Name "max" _) _ _ _) _ _ _); (with_reducible refine gb_max (by assumption) (by tm_at "sKd") ?hm ?he ?hpl ?_); (case hm => assumption); (case he => rfl); (case hpl => rfl))
  | ((guard_target = GE _ _ (Expr.Call (Expr.Name "sum" _) _ _ _) _ _ _); (with_reducible refine gb_sum (by assumption) (by tm_at "sKd") ?hm ?he ?hpl ?_); (case hm => assumption); (case he => rfl); (case hpl => rfl))
  | ((guard_target = GE _ _ (Expr.Call (Expr.Name "sorted" _) _ _ _) _ _ _); (with_reducible refine gb_sorted (by assumption) (by tm_at "sKd") ?hm ?he ?hpl ?_); (case hm => assumption); (case he => rfl); (case hpl => rfl))
  | ((guard_target = GE _ _ (Expr.Call (Expr.Name "abs" _) _ _ _) _ _ _); (with_reducible refine gb_abs (by assumption) (by tm_at "sKd") ?hm ?he ?hpl ?_); (case hm => assumption); (case he => rfl); (case hpl => rfl))
  | ((guard_target = GE _ _ (Expr.Call (Expr.Name "range" _) _ _ _) _ _ _); (with_reducible refine gb_range (by assumption) (by tm_at "sKd") ?hm ?he ?hpl ?_); (case hm => assumption); (case he => rfl); (case hpl => rfl))
  | ((guard_target = GE _ _ (Expr.Call (Expr.Name "any" _) _ _ _) _ _ _); (with_reducible refine gb_any (by assumption) (by tm_at "sKd") ?hm ?he ?hpl ?_); (case hm => assumption); (case he => rfl); (case hpl => rfl))
  | ((guard_target = GE _ _ (Expr.Call (Expr.Name "all" _) _ _ _) _ _ _); (with_reducible refine gb_all (by assumption) (by tm_at "sKd") ?hm ?he ?hpl ?_); (case hm => assumption); (case he => rfl); (case hpl => rfl))
  | ((guard_target = GE _ _ (Expr.Call (Expr.Name "dict" _) _ _ _) _ _ _); (with_reducible refine gb_dict (by assumption) (by tm_at "sKd") ?hm ?he ?hpl ?_); (case hm => assumption); (case he => rfl); (case hpl => rfl))
  | ((guard_target = GE _ _ (Expr.Call (Expr.Name "set" _) _ _ _) _ _ _); (with_reducible refine gb_set (by assumption) (by tm_at "sKd") ?hm ?he ?hpl ?_); (case hm => assumption); (case he => rfl); (case hpl => rfl)))
local macro_rules | `(tactic| tm_at "gECall") => `(tactic| (guard_target = GE _ _ (Expr.Call (Expr.Name "_law_roll" _) (_ :: _) [] _) _ _ _; (refine ge_call (FnAt.e (x := "_law_roll") (by assumption)) (by tm_at "sRoom") (by tm_at "sXok") (Nm.gl (by assumption) (by tm_at "sKd")) ?hdb ?he ?hpl ?_); (case hdb => rfl); (case he => rfl); (case hpl => rfl)))
local macro_rules | `(tactic| tm_at "gECall") => `(tactic| (guard_target = GE _ _ (Expr.Call (Expr.Name "_law_dice" _) (_ :: _) [] _) _ _ _; (refine ge_call (FnAt.e (x := "_law_dice") (by assumption)) (by tm_at "sRoom") (by tm_at "sXok") (Nm.gl (by assumption) (by tm_at "sKd")) ?hdb ?he ?hpl ?_); (case hdb => rfl); (case he => rfl); (case hpl => rfl)))
local macro_rules | `(tactic| tm_at "gECall") => `(tactic| (guard_target = GE _ _ (Expr.Call (Expr.Name "_law_rounds" _) (_ :: _) [] _) _ _ _; (refine ge_call (FnAt.e (x := "_law_rounds") (by assumption)) (by tm_at "sRoom") (by tm_at "sXok") (Nm.gl (by assumption) (by tm_at "sKd")) ?hdb ?he ?hpl ?_); (case hdb => rfl); (case he => rfl); (case hpl => rfl)))
local macro_rules | `(tactic| tm_at "gECall") => `(tactic| (guard_target = GE _ _ (Expr.Call (Expr.Name "_law_deed" _) (_ :: _) [] _) _ _ _; (refine ge_call (FnAt.e (x := "_law_deed") (by assumption)) (by tm_at "sRoom") (by tm_at "sXok") (Nm.gl (by assumption) (by tm_at "sKd")) ?hdb ?he ?hpl ?_); (case hdb => rfl); (case he => rfl); (case hpl => rfl)))
local macro_rules | `(tactic| tm_at "gE") => `(tactic| first
  | ((guard_target = GE _ _ (Expr.Name _ _) _ _ _); (with_reducible refine ge_name (by assumption) (by tm_at "sAt") (by tm_at "sKd") (by tm_at "sVk") rfl ?_))
  | ((guard_target = GE _ _ (Expr.Constant (Const.int _) _ _) _ _ _); (with_reducible refine ge_int ?_))
  | ((guard_target = GE _ _ (Expr.Attribute _ _ _) _ _ _); (with_reducible refine ge_fld ?hb ?_); (case hb => rfl))
  | ((guard_target = GE _ _ (Expr.Subscript _ (Expr.Slice _ _ none _) _) _ _ _); (with_reducible refine ge_slice ?_))
  | ((guard_target = GE _ _ (Expr.Call (Expr.Attribute _ _ _) _ _ _) _ _ _); tm_at "gEMeth")
  | ((guard_target = GE _ _ (Expr.Subscript _ _ _) _ _ _); (with_reducible refine ge_sub ?hs ?_); (case hs => exact fun _ _ => rfl))
  | ((guard_target = GE _ _ (Expr.BinOp _ _ _ _) _ _ _); (with_reducible refine ge_bin ?_))
  | ((guard_target = GE _ _ (Expr.Constant (Const.str _) _ _) _ _ _); (with_reducible refine ge_str ?_))
  | ((guard_target = GE _ _ (Expr.Call (Expr.Name _ _) _ _ _) _ _ _); tm_at "gECall")
  | ((guard_target = GE _ _ (Expr.List _ _) _ _ _); (with_reducible refine ge_lst ?_))
  | ((guard_target = GE _ _ (Expr.Tuple _ _ _) _ _ _); (with_reducible refine ge_tup ?_))
  | ((guard_target = GE _ _ (Expr.Constant Const.none _ _) _ _ _); (with_reducible refine ge_none ?_))
  | ((guard_target = GE _ _ (Expr.Constant (Const.bool _) _ _) _ _ _); (with_reducible refine ge_bl ?_))
  | ((guard_target = GE _ _ (Expr.Compare _ [_] [_] _) _ _ _); (with_reducible refine ge_cmp ?hm ?_); (case hm => first | exact nomark _ | rfl))
  | ((guard_target = GE _ _ (Expr.UnaryOp UnaryOp.Not _ _) _ _ _); (with_reducible refine ge_not ?_))
  | ((guard_target = GE _ _ (Expr.UnaryOp _ _ _) _ _ _); (with_reducible refine ge_un ?_))
  | ((guard_target = GE _ _ (Expr.IfExp _ _ _ _) _ _ _); (with_reducible refine ge_if ?_))
  | ((guard_target = GE _ _ (Expr.Compare _ [_, _] [_, _] _) _ _ _); (with_reducible refine ge_chain ?hm ?_); (case hm => with_unfolding_all rfl))
  | ((guard_target = GE _ _ (Expr.BoolOp _ [_] _) _ _ _); (with_reducible refine ge_one ?_))
  | ((guard_target = GE _ _ (Expr.BoolOp BoolOp.And _ _) _ _ _); (with_reducible refine ge_and ?_))
  | ((guard_target = GE _ _ (Expr.BoolOp BoolOp.Or _ _) _ _ _); (with_reducible refine ge_or ?_)))
local macro_rules | `(tactic| tm_at "gEMeth") => `(tactic| first
  | ((guard_target = GE _ _ (Expr.Call (Expr.Attribute _ "append" _) [_] [] _) _ _ _); (with_reducible refine ge_append ?h1 ?h2 ?h3 ?h4 ?h5 ?_); (case h1 => rfl); (case h2 => rfl); (case h3 => rfl); (case h4 => rfl); (case h5 => rfl))
  | ((guard_target = GE _ _ (Expr.Call (Expr.Attribute _ "extend" _) [_] [] _) _ _ _); (with_reducible refine ge_extend ?h1 ?h2 ?h3 ?h4 ?h5 ?_); (case h1 => rfl); (case h2 => rfl); (case h3 => rfl); (case h4 => rfl); (case h5 => rfl))
  | ((guard_target = GE _ _ (Expr.Call (Expr.Attribute _ "remove" _) [_] [] _) _ _ _); (with_reducible refine ge_remove ?h1 ?h2 ?h3 ?h4 ?h5 ?_); (case h1 => rfl); (case h2 => rfl); (case h3 => rfl); (case h4 => rfl); (case h5 => rfl))
  | ((guard_target = GE _ _ (Expr.Call (Expr.Attribute _ "pop" _) [_] [] _) _ _ _); (with_reducible refine ge_popAt ?h1 ?h2 ?h3 ?h4 ?h5 ?_); (case h1 => rfl); (case h2 => rfl); (case h3 => rfl); (case h4 => rfl); (case h5 => rfl)))
local macro_rules | `(tactic| tm_at "gT") => `(tactic| first
  | ((guard_target = GT _ _ (Expr.Compare _ [_] [_] _) _ _ _); (with_reducible refine gt_cmp ?hm ?_); (case hm => first | exact nomark _ | rfl))
  | ((guard_target = GT _ _ (Expr.UnaryOp UnaryOp.Not _ _) _ _ _); (with_reducible refine gt_not ?_))
  | ((guard_target = GT _ _ (Expr.BoolOp _ _ _) _ _ _); (with_reducible refine gt_bool ?_))
  | ((guard_target = GT _ _ (Expr.Compare _ [_, _] [_, _] _) _ _ _); (with_reducible refine gt_chain ?hm ?_); (case hm => with_unfolding_all rfl))
  | ((guard_target = GT _ _ (Expr.Call _ _ _ _) _ _ _); (with_reducible refine gt_val ?he ?_); (case he => intro _; rfl))
  | ((guard_target = GT _ _ (Expr.Subscript _ _ _) _ _ _); (with_reducible refine gt_val ?he ?_); (case he => intro _; rfl))
  | ((guard_target = GT _ _ (Expr.Name _ _) _ _ _); (with_reducible refine gt_val ?he ?_); (case he => intro _; rfl))
  | ((guard_target = GT _ _ (Expr.Attribute _ _ _) _ _ _); (with_reducible refine gt_val ?he ?_); (case he => intro _; rfl)))
local macro_rules | `(tactic| tm_at "gB") => `(tactic| first
  | ((guard_target = GB _ _ (Expr.BoolOp BoolOp.And [_] _) _ _ _); (with_reducible refine gb_and1 ?_))
  | ((guard_target = GB _ _ (Expr.BoolOp BoolOp.Or [_] _) _ _ _); (with_reducible refine gb_or1 ?_))
  | ((guard_target = GB _ _ (Expr.BoolOp BoolOp.And _ _) _ _ _); (with_reducible refine gb_and ?_))
  | ((guard_target = GB _ _ (Expr.BoolOp BoolOp.Or _ _) _ _ _); (with_reducible refine gb_or ?_)))
local macro_rules | `(tactic| tm_at "gA") => `(tactic| first
  | ((guard_target = GA _ _ ([]) _ _ _); (with_reducible refine ga_nil ?_))
  | ((guard_target = GA _ _ (_ :: _) _ _ _); (with_reducible refine ga_cons ?hst ?_); (case hst => rfl)))
local macro_rules | `(tactic| tm_at "gOp") => `(tactic| first
  | ((guard_target = GOp _ _ (binaryOp Operator.Add) (V.int _) (V.int _) _ _); (with_reducible refine go_add ?_))
  | ((guard_target = GOp _ _ (binaryOp Operator.Sub) (V.int _) (V.int _) _ _); (with_reducible refine go_sub ?_))
  | ((guard_target = GOp _ _ (compareOp CmpOp.Eq) (V.int _) (V.int _) _ _); (with_reducible refine go_eqI ?_))
  | ((guard_target = GOp _ _ (compareOp CmpOp.Lt) (V.int _) (V.int _) _ _); (with_reducible refine go_lt ?_))
  | ((guard_target = GOp _ _ (compareOp CmpOp.LtE) (V.int _) (V.int _) _ _); (with_reducible refine go_le ?_))
  | ((guard_target = GOp _ _ (compareOp CmpOp.Gt) (V.int _) (V.int _) _ _); (with_reducible refine go_gt ?_))
  | ((guard_target = GOp _ _ (compareOp CmpOp.GtE) (V.int _) (V.int _) _ _); (with_reducible refine go_ge ?_))
  | ((guard_target = GOp _ _ (compareOp CmpOp.NotEq) (V.int _) (V.int _) _ _); (with_reducible refine go_neI ?_))
  | ((guard_target = GOp _ _ (binaryOp Operator.Mult) (V.int _) (V.int _) _ _); (with_reducible refine go_mul ?c ?_); (case c => first | (left; constructor <;> omega) | (right; constructor <;> omega)))
  | ((guard_target = GOp _ _ (binaryOp Operator.FloorDiv) (V.int _) (V.int _) _ _); (with_reducible refine go_div ?c ?_); (case c => constructor <;> omega))
  | ((guard_target = GOp _ _ (binaryOp Operator.Mod) (V.int _) (V.int _) _ _); (with_reducible refine go_mod ?c ?_); (case c => omega))
  | ((guard_target = GOp _ _ (compareOp CmpOp.Eq) (V.str _) (V.str _) _ _); (with_reducible refine go_eqT ?_))
  | ((guard_target = GOp _ _ (compareOp CmpOp.NotEq) (V.str _) (V.str _) _ _); (with_reducible refine go_neT ?_))
  | ((guard_target = GOp _ _ (compareOp CmpOp.Eq) (V.bl _) (V.bl _) _ _); (with_reducible refine go_eqB ?_))
  | ((guard_target = GOp _ _ (compareOp CmpOp.NotEq) (V.bl _) (V.bl _) _ _); (with_reducible refine go_neB ?_))
  | ((guard_target = GOp _ _ (compareOp CmpOp.In) (V.int _) (V.ref _) _ _); (with_reducible refine go_inI (by tm_at "sSel") ?_))
  | ((guard_target = GOp _ _ (compareOp CmpOp.NotIn) (V.int _) (V.ref _) _ _); (with_reducible refine go_ninI (by tm_at "sSel") ?_))
  | ((guard_target = GOp _ _ (compareOp CmpOp.In) (V.str _) (V.ref _) _ _); (with_reducible refine go_inT (by tm_at "sSel") ?_))
  | ((guard_target = GOp _ _ (compareOp CmpOp.NotIn) (V.str _) (V.ref _) _ _); (with_reducible refine go_ninT (by tm_at "sSel") ?_))
  | ((guard_target = GOp _ _ (compareOp CmpOp.Eq) (_) (V.non) _ _); (with_reducible refine go_eqS rfl ?_))
  | ((guard_target = GOp _ _ (compareOp CmpOp.NotEq) (_) (V.non) _ _); (with_reducible refine go_neS rfl ?_))
  | ((guard_target = GOp _ _ (compareOp CmpOp.Is) (_) (V.non) _ _); (with_reducible refine go_isN ?_))
  | ((guard_target = GOp _ _ (compareOp CmpOp.IsNot) (_) (V.non) _ _); (with_reducible refine go_notN ?_)))
local macro_rules | `(tactic| tm_at "gC") => `(tactic| first
  | ((guard_target = GC _ _ (Value.type "int") [V.int _] _ _); (with_reducible refine gc_intI ?_))
  | ((guard_target = GC _ _ (Value.type "int") [V.bl _] _ _); (with_reducible refine gc_intB ?_))
  | ((guard_target = GC _ _ (Value.builtin "abs") [V.int _] _ _); (with_reducible refine gc_abs ?_))
  | ((guard_target = GC _ _ (Value.builtin "max") [V.int _, V.int _] _ _); (with_reducible refine gc_max2 ?hc ?_); (case hc => rfl))
  | ((guard_target = GC _ _ (Value.builtin "min") [V.int _, V.int _] _ _); (with_reducible refine gc_min2 ?hc ?_); (case hc => rfl))
  | ((guard_target = GC _ _ (Value.type "range") [V.int _] _ _); (with_reducible refine gc_rng1 ?_))
  | ((guard_target = GC _ _ (Value.type "range") [V.int _, V.int _] _ _); (with_reducible refine gc_rng2 ?_))
  | ((guard_target = GC _ _ (Value.builtin "len") [V.ref _] _ _); (with_reducible refine gc_lenR (by tm_at "sSel") ?_))
  | ((guard_target = GC _ _ (Value.builtin "len") [V.ref _] _ _); (with_reducible refine gc_len (by tm_at "sSel") ?_))
  | ((guard_target = GC _ _ (Value.builtin "len") [V.ref _] _ _); (with_reducible refine gc_lenT (by tm_at "sSel") ?_)))
local macro_rules | `(tactic| tm_at "gF") => `(tactic| first
  | ((guard_target = GF _ _ _ _ _ _); (with_reducible refine gf (by tm_at "sSel") (by tm_at "sLkF") ?hc ?hn ?_); (case hc => assumption); (case hn => assumption))
  | ((guard_target = GFS _ _ _ _ _ _); (with_reducible refine gfs (by tm_at "sRpl") (by tm_at "sPutF") ?hc ?hn ?hz ?_); (case hc => assumption); (case hn => assumption); (case hz => exact Nat.le_of_ble_eq_true rfl))
  | ((guard_target = GFA _ _ _ _ _ _ _ _ _); (with_reducible refine gfa (by tm_at "sSel") (by tm_at "sLkF") ?hc ?hn ?_); (case hc => assumption); (case hn => assumption))
  | ((guard_target = Exists fun _ => Exists fun _ => Exists fun _ => (Rpl _ _ _ _ ∧ _ ∧ _)); (with_reducible refine gfaE (by tm_at "sRpl") (by tm_at "sPutF") ?hz ?_); (case hz => exact Nat.le_of_ble_eq_true rfl))
  | ((guard_target = GAS _ _ _ _ _ _ _ _ _); (with_reducible refine gas (by tm_at "sSel") (by tm_at "sIx") ?_))
  | ((guard_target = (HasL _ _ _ ∧ _)); (with_reducible refine And.intro ?hh ?_); (case hh => tm_at "sHasL"))
  | ((guard_target = (IsIns _ _ _ _ _ ∧ _)); (with_reducible refine And.intro ?hh ?_); (case hh => exact isIns (by tm_at "sSel") (by tm_at "sNoF") (by rfl)))
  | ((guard_target = GApp _ _ _ _ _); (with_reducible refine gapp_pt (by tm_at "sRpl") ?hz ?_); (case hz => tm_at "sZ"))
  | ((guard_target = (List.length _ ≤ PySem.sizeLine ∧ _)); (with_reducible refine And.intro ?hz ?_); (case hz => tm_at "sZ"); intro _)
  | ((guard_target = GIp _ _ Operator.Add (V.int _) (V.int _) _ _); (with_reducible refine gip_add ?_))
  | ((guard_target = GIp _ _ Operator.Sub (V.int _) (V.int _) _ _); (with_reducible refine gip_sub ?_))
  | ((guard_target = GRem _ _ _ _ _); (with_reducible refine grem (by tm_at "sRpl") ?hm ?_); (case hm => assumption))
  | ((guard_target = GO _ _ none _ _ _); (with_reducible refine goN ?_))
  | ((guard_target = GO _ _ (some _) _ _ _); (with_reducible refine goS ?_)))
local macro_rules | `(tactic| tm_at "gIx") => `(tactic| first
  | (with_reducible refine gi_lst (by tm_at "sSel") (by tm_at "sIx") ?_)
  | (with_reducible refine gi_tup (by tm_at "sSel") (by tm_at "sIx") ?_))
local macro_rules | `(tactic| tm_at "gS") => `(tactic| first
  | ((guard_target = GS _ _ (Stmt.Assign [Expr.Name _ _] _ _) _ _ _); (with_reducible refine gs_name (by assumption) (by tm_at "sSlot") (by tm_at "sKd") (by tm_at "sLk") (by tm_at "sLf") ?hsw ?_); (case hsw => rfl))
  | ((guard_target = GS _ _ (Stmt.If _ _ _ _) _ _ _); (with_reducible refine gs_if ?_))
  | ((guard_target = GS _ _ (Stmt.AugAssign (Expr.Name _ _) _ _ _) _ _ _); (with_reducible refine gs_aug (by assumption) (by tm_at "sAt") (by tm_at "sSlot") (by tm_at "sKd") (by tm_at "sLk") (by tm_at "sLf") ?_))
  | ((guard_target = GS _ _ (Stmt.AugAssign (Expr.Attribute _ _ _) _ _ _) _ _ _); (with_reducible refine gs_fldaug ?_))
  | ((guard_target = GS _ _ (Stmt.AugAssign (Expr.Subscript _ _ _) _ _ _) _ _ _); (with_reducible refine gs_augS ?ha ?_); (case ha => intros; rfl))
  | ((guard_target = GS _ _ (Stmt.Return (some _) _) _ _ _); (with_reducible refine gs_ret ?_))
  | ((guard_target = GS _ _ (Stmt.Expr (Expr.Constant _ _ _) _) _ _ _); (with_reducible refine gs_doc ?_))
  | ((guard_target = GS _ _ (Stmt.Expr _ _) _ _ _); (with_reducible refine gs_expr ?hsw ?_); (case hsw => rfl))
  | ((guard_target = GS _ _ (Stmt.Assign [Expr.Attribute _ _ _] _ _) _ _ _); (with_reducible refine gs_fld ?hsw ?_); (case hsw => rfl))
  | ((guard_target = GS _ _ (Stmt.Assign [Expr.Subscript _ _ _] _ _) _ _ _); (with_reducible refine gs_asg ?hsw ?hw ?h1 ?_); (case hsw => rfl); (case hw => rfl); (case h1 => rfl))
  | ((guard_target = GS _ _ (Stmt.Assign [Expr.Tuple _ _ _] _ _) _ _ _); (with_reducible refine gs_asg ?hsw ?hw ?h1 ?_); (case hsw => rfl); (case hw => rfl); (case h1 => rfl))
  | ((guard_target = GS _ _ (Stmt.Return none _) _ _ _); (with_reducible refine gs_retN ?_))
  | ((guard_target = GS _ _ (Stmt.Pass _) _ _ _); (with_reducible refine gs_pass ?_))
  | ((guard_target = GS _ _ (Stmt.Break _) _ _ _); (with_reducible refine gs_break ?_))
  | ((guard_target = GS _ _ (Stmt.Continue _) _ _ _); (with_reducible refine gs_continue ?_)))
local macro_rules | `(tactic| tm_at "gG") => `(tactic| first
  | ((guard_target = GG _ _ (Expr.Name _ _) _ _ _ _); (with_reducible refine gg_name (by assumption) (by tm_at "sSlot") (by tm_at "sKd") (by tm_at "sLk") (by tm_at "sLf") ?_))
  | ((guard_target = GG _ _ (Expr.Subscript _ _ _) _ _ _ _); (with_reducible refine gg_sub ?ha ?_); (case ha => intro _; rfl))
  | ((guard_target = GG _ _ (Expr.Tuple _ _ _) _ _ _ _); (with_reducible refine gg_tup ?hc (by tm_at "sSel") ?hn ?hst ?_); (case hc => rfl); (case hn => rfl); (case hst => rfl)))
local macro_rules | `(tactic| tm_at "g") => `(tactic| first
  | ((guard_target = GE _ _ _ _ _ _); tm_at "gE")
  | ((guard_target = GOp _ _ _ _ _ _ _); tm_at "gOp")
  | ((guard_target = GIx _ _ _ _ _ _); tm_at "gIx")
  | tm_at "gF"
  | ((guard_target = (wipe _ _ = wipe _ _ ∧ _)); refine And.intro rfl ?_)
  | ((guard_target = GGs _ _ [] _ _ _ _); (with_reducible refine ggs_nil ?_))
  | ((guard_target = GGs _ _ (_ :: _) _ _ _ _); (with_reducible refine ggs_cons ?hst ?_); (case hst => rfl))
  | ((guard_target = GTs _ _ [] _ _ _); (with_reducible refine gts_nil ?_))
  | ((guard_target = GTs _ _ [_] _ _ _); (with_reducible refine gts_one ?_))
  | ((guard_target = KB _ _ _); (with_reducible refine KB.mk ?_))
  | ((guard_target = GA _ _ _ _ _ _); tm_at "gA")
  | ((guard_target = GS _ _ _ _ _ _); tm_at "gS")
  | ((guard_target = GSs _ _ (_ :: _) _ _ _); (with_reducible refine gss_cons ?_))
  | ((guard_target = GSs _ _ ([]) _ _ _); (with_reducible refine gss_nil ?_))
  | ((guard_target = GT _ _ _ _ _ _); tm_at "gT")
  | ((guard_target = GB _ _ _ _ _ _); tm_at "gB")
  | ((guard_target = GC _ _ _ _ _ _); tm_at "gC")
  | ((guard_target = GG _ _ _ _ _ _ _); tm_at "gG")
  | ((guard_target = GPutL _ _ _ _ _); (with_reducible refine gput (by tm_at "sRpl") (by tm_at "sPut") ?_))
  | ((guard_target = if true = true then _ else _); (with_reducible refine iteT ?_))
  | ((guard_target = if (!true) = true then _ else _); (with_reducible refine iteNT ?_))
  | ((guard_target = if (!false) = true then _ else _); (with_reducible refine iteNF ?_))
  | ((guard_target = if false = true then _ else _); (with_reducible refine iteF ?_))
  | ((guard_target = Exists _); (with_reducible refine Exists.intro _ (And.intro rfl ?_)))
  | (first | with_reducible refine ite_nI ?_ | with_reducible refine ite_nN ?_ | with_reducible refine ite_nnI ?_ | with_reducible refine ite_nnN ?_ | with_reducible refine ite_nR ?_ | with_reducible refine ite_nnR ?_))
local macro_rules | `(tactic| tm_at "sSetN") => `(tactic| (first | exact SetN.here | (apply SetN.there; tm_at "sSetN")))
local macro_rules | `(tactic| tm_at "sWp") => `(tactic| (first | exact Wp.nil | (apply Wp.cons; (tm_at "sWp"); (tm_at "sSetN"))))
local macro_rules | `(tactic| tm_at "fits") => `(tactic| (first | apply Fits.mk | apply FitL.mk))
local macro_rules | `(tactic| tm_at "ent") => `(tactic| (apply Fit.ent; tm_at "fit"))
local macro_rules | `(tactic| tm_at "go") => `(tactic| repeat (tm_at "g"))
local macro_rules | `(tactic| tm_at "gs") => `(tactic| repeat ((fail_if_success (guard_target = GSs _ _ (_ :: _) _ _ _)); tm_at "g"))
local macro_rules | `(tactic| tm_at "if") => `(tactic| first
  | (with_reducible refine ite_ndec (fun _ => ?_) (fun _ => ?_))
  | (with_reducible refine ite_dec (fun _ => ?_) (fun _ => ?_))
  | (with_reducible refine ite_nb (fun _ => ?_) (fun _ => ?_))
  | (with_reducible refine ite_b (fun _ => ?_) (fun _ => ?_)))
local macro_rules | `(tactic| tm_at "gECall") => `(tactic| (guard_target = GE _ _ (Expr.Call (Expr.Name "folded" _) (_ :: _) [] _) _ _ _; (refine ge_call (FnAt.e (x := "folded") (by assumption)) (by tm_at "sRoom") (by tm_at "sXok") (Nm.gl (by assumption) (by tm_at "sKd")) ?hdb ?he ?hpl ?_); (case hdb => rfl); (case he => rfl); (case hpl => rfl)))
local macro_rules | `(tactic| tm_at "gECall") => `(tactic| (guard_target = GE _ _ (Expr.Call (Expr.Name "unfolded" _) (_ :: _) [] _) _ _ _; (refine ge_call (FnAt.e (x := "unfolded") (by assumption)) (by tm_at "sRoom") (by tm_at "sXok") (Nm.gl (by assumption) (by tm_at "sKd")) ?hdb ?he ?hpl ?_); (case hdb => rfl); (case he => rfl); (case hpl => rfl)))
local macro_rules | `(tactic| tm_at "gECall") => `(tactic| (guard_target = GE _ _ (Expr.Call (Expr.Name "number_octets" _) (_ :: _) [] _) _ _ _; (refine ge_call (FnAt.e (x := "number_octets") (by assumption)) (by tm_at "sRoom") (by tm_at "sXok") (Nm.gl (by assumption) (by tm_at "sKd")) ?hdb ?he ?hpl ?_); (case hdb => rfl); (case he => rfl); (case hpl => rfl)))
local macro_rules | `(tactic| tm_at "gECall") => `(tactic| (guard_target = GE _ _ (Expr.Call (Expr.Name "text_octets" _) (_ :: _) [] _) _ _ _; (refine ge_call (FnAt.e (x := "text_octets") (by assumption)) (by tm_at "sRoom") (by tm_at "sXok") (Nm.gl (by assumption) (by tm_at "sKd")) ?hdb ?he ?hpl ?_); (case hdb => rfl); (case he => rfl); (case hpl => rfl)))
local macro_rules | `(tactic| tm_at "gECall") => `(tactic| (guard_target = GE _ _ (Expr.Call (Expr.Name "sum_of" _) (_ :: _) [] _) _ _ _; (refine ge_call (FnAt.e (x := "sum_of") (by assumption)) (by tm_at "sRoom") (by tm_at "sXok") (Nm.gl (by assumption) (by tm_at "sKd")) ?hdb ?he ?hpl ?_); (case hdb => rfl); (case he => rfl); (case hpl => rfl)))
local macro_rules | `(tactic| tm_at "gECall") => `(tactic| (guard_target = GE _ _ (Expr.Call (Expr.Name "record_octets" _) (_ :: _) [] _) _ _ _; (refine ge_call (FnAt.e (x := "record_octets") (by assumption)) (by tm_at "sRoom") (by tm_at "sXok") (Nm.gl (by assumption) (by tm_at "sKd")) ?hdb ?he ?hpl ?_); (case hdb => rfl); (case he => rfl); (case hpl => rfl)))
local macro_rules | `(tactic| tm_at "gECall") => `(tactic| (guard_target = GE _ _ (Expr.Call (Expr.Name "batch" _) (_ :: _) [] _) _ _ _; (refine ge_call (FnAt.e (x := "batch") (by assumption)) (by tm_at "sRoom") (by tm_at "sXok") (Nm.gl (by assumption) (by tm_at "sKd")) ?hdb ?he ?hpl ?_); (case hdb => rfl); (case he => rfl); (case hpl => rfl)))
local macro_rules | `(tactic| tm_at "gECall") => `(tactic| (guard_target = GE _ _ (Expr.Call (Expr.Name "read_batch" _) (_ :: _) [] _) _ _ _; (refine ge_call (FnAt.e (x := "read_batch") (by assumption)) (by tm_at "sRoom") (by tm_at "sXok") (Nm.gl (by assumption) (by tm_at "sKd")) ?hdb ?he ?hpl ?_); (case hdb => rfl); (case he => rfl); (case hpl => rfl)))
local macro_rules | `(tactic| tm_at "gECall") => `(tactic| (guard_target = GE _ _ (Expr.Call (Expr.Name "read_all" _) (_ :: _) [] _) _ _ _; (refine ge_call (FnAt.e (x := "read_all") (by assumption)) (by tm_at "sRoom") (by tm_at "sXok") (Nm.gl (by assumption) (by tm_at "sKd")) ?hdb ?he ?hpl ?_); (case hdb => rfl); (case he => rfl); (case hpl => rfl)))
local macro_rules | `(tactic| tm_at "gEMeth") => `(tactic| (guard_target = GE _ _ (Expr.Call (Expr.Attribute _ "octet" _) [] _ _) _ _ _; (refine ge_meth0 (MeAt.e (C := "Reader") (m := "octet") (by assumption)) (by tm_at "sRoom") (by tm_at "sXok") ?ht ?_); (case ht => exact ⟨_, rfl⟩)))
local macro_rules | `(tactic| tm_at "gEMeth") => `(tactic| (guard_target = GE _ _ (Expr.Call (Expr.Attribute _ "whole" _) [] _ _) _ _ _; (refine ge_meth0 (MeAt.e (C := "Reader") (m := "whole") (by assumption)) (by tm_at "sRoom") (by tm_at "sXok") ?ht ?_); (case ht => exact ⟨_, rfl⟩)))
local macro_rules | `(tactic| tm_at "gEMeth") => `(tactic| (guard_target = GE _ _ (Expr.Call (Expr.Attribute _ "text" _) [] _ _) _ _ _; (refine ge_meth0 (MeAt.e (C := "Reader") (m := "text") (by assumption)) (by tm_at "sRoom") (by tm_at "sXok") ?ht ?_); (case ht => exact ⟨_, rfl⟩)))
local macro_rules | `(tactic| tm_at "gECall") => `(tactic| (guard_target = GE _ _ (Expr.Call (Expr.Name "Reader" _) (_ :: _) [] _) _ _ _; (refine ge_make (MkAt.e (x := "Reader") (by assumption)) (by tm_at "sRoom") (by tm_at "sXok") (Nm.gl (by assumption) (by tm_at "sKd")) ?hdb ?he ?hpl ?_); (case hdb => rfl); (case he => rfl); (case hpl => rfl); skip))
local macro_rules | `(tactic| tm_at "gC") => `(tactic| ((guard_target = GC _ _ (Value.builtin "len") [_] _ _); (with_reducible refine gc_lenTl (rv_val (by tm_at "sSel")) ?_)))
local macro_rules | `(tactic| tm_at "gIx") => `(tactic| (with_reducible refine gi_tl (rv_val (by tm_at "sSel")) (by assumption) (fun _ => ?_)))
local macro_rules | `(tactic| tm_at "gF") => `(tactic| first
  | ((guard_target = GIp _ _ Operator.Mult (V.int _) (V.int _) _ _); (with_reducible refine gip_mul ?c ?_); (case c => first | (left; constructor <;> omega) | (right; constructor <;> omega)))
  | ((guard_target = GIp _ _ Operator.FloorDiv (V.int _) (V.int _) _ _); (with_reducible refine gip_div ?c ?_); (case c => constructor <;> omega))
  | ((guard_target = GIp _ _ Operator.Mod (V.int _) (V.int _) _ _); (with_reducible refine gip_mod ?c ?_); (case c => omega)))
local macro_rules | `(tactic| tm_at "g") => `(tactic| ((guard_target = GU _ _ (unaryOp UnaryOp.USub) (V.int _) _ _); (with_reducible refine gu_neg ?_)))
local macro_rules | `(tactic| tm_at "gS") => `(tactic| ((guard_target = GS _ _ (Stmt.Assign [Expr.Tuple [Expr.Name _ _, Expr.Name _ _] _ _] (Expr.Tuple [_, _] _ _) _) _ _ _); (refine gs_par2 (by assumption) (by tm_at "sSlot") (fun _ => by tm_at "sSlot") (by tm_at "sKd") (by tm_at "sKd") ?hne ?hc ?hw ?hs ?_); (case hne => with_unfolding_all rfl); (case hc => rfl); (case hw => rfl); (case hs => rfl)))
local macro_rules | `(tactic| tm_at "gOp") => `(tactic| ((guard_target = GOp _ _ (binaryOp Operator.Pow) (V.int _) (V.int _) _ _); (with_reducible refine go_pow ?c ?_); (case c => refine ⟨?_, ?_, ?_⟩ <;> decide)))
local macro_rules | `(tactic| tm_at "g") => `(tactic| ((guard_target = K2 _ [_, _] _); (with_reducible refine K2.mk ?_)))
local macro_rules | `(tactic| tm_at "gE") => `(tactic| ((guard_target = GE _ _ (Expr.Name "SIGNS" _) _ _ _); (refine ge_glob (v := V.str SIG) (Nm.gl (by assumption) (by tm_at "sKd")) (by assumption) ⟨_, rfl⟩ ?_ ?hd); (case hd => rfl)))
local macro_rules | `(tactic| tm_at "gOp") => `(tactic| ((guard_target = GOp _ _ (compareOp CmpOp.NotIn) (V.str ⟨#[_]⟩) (V.str _) _ _); (with_reducible refine go_ninSign ?_)))
local macro_rules | `(tactic| tm_at "gEMeth") => `(tactic| ((guard_target = GE _ _ (Expr.Call (Expr.Attribute _ "index" _) [_] [] _) _ _ _); (with_reducible refine ge_index ?h1 ?h2 ?h3 ?_); (case h1 => rfl); (case h2 => rfl); (case h3 => rfl)))
local macro_rules | `(tactic| tm_at "gEMeth") => `(tactic| ((guard_target = GE _ _ (Expr.Call (Expr.Attribute _ "join" _) [_] [] _) _ _ _); (with_reducible refine ge_join ?h1 ?h2 ?h3 ?_); (case h1 => rfl); (case h2 => rfl); (case h3 => rfl)))
local macro_rules | `(tactic| tm_at "g") => `(tactic| (first | with_reducible refine ite_nT ?_ | with_reducible refine ite_nnT ?_))
local macro_rules | `(tactic| tm_at "gC") => `(tactic| ((guard_target = GC _ _ (Value.builtin "len") [V.str _] _ _); (refine gc_lenS ?hz ?_); (case hz => rw [sizeLine_eq]; omega)))
local macro_rules | `(tactic| tm_at "gIx") => `(tactic| (with_reducible refine gi_tlS cInt (rv_val (by tm_at "sSel")) (by assumption) ?_))
local macro_rules | `(tactic| tm_at "gF") => `(tactic| ((guard_target = (IsIns _ _ _ _ _ ∧ _)); (with_reducible refine And.intro ?hh ?_); (case hh => exact isIns (by tm_at "sSel") (by tm_at "sNoF") (by rfl))))
/-! ### what the functions compute -/
def SIG : Str := "abcdefghijklmnopqrstuvwxyzABCDEFGHIJKLMNOPQRSTUVWXYZ0123456789 .,:;<>()-+_=/"
def foldI (n : Int) : Int := if 0 ≤ n then 2 * n else -2 * n - 1
def unfI (n : Int) : Int := if n % 2 = 0 then n / 2 else -(n + 1) / 2
def octN (m : Nat) : List Int := if h : m ≤ 127 then [(m : Int)] else ((m % 128 + 128 : Nat) : Int) :: octN (m / 128)
termination_by m
decreasing_by omega
def octI (n : Int) : List Int := octN (foldI n).toNat
def sgI (c : Nat) : Int := (SIG.cps.toList.idxOf c : Nat)
def txtO : Option Str → List Int
  | none => octI (-1)
  | some s => octI (s.length : Nat) ++ s.cps.toList.map sgI
def goodT : Option Str → Prop
  | none => True
  | some s => s.length < 1000 ∧ ∀ c ∈ s.cps.toList, c ∈ SIG.cps.toList
def sumP (ds : List Int) : Int × Int := ds.foldl (fun p o => ((p.1 + o) % 65521, (p.2 + (p.1 + o) % 65521) % 65521)) (1, 0)
def sumL (ds : List Int) : Int := (sumP ds).2 * 65536 + (sumP ds).1
abbrev Rec := Int × Int × Option Str × Option Str
abbrev rRec : PRep Rec := rQuad rInt rInt rOpt rOpt
def recO (r : Rec) (base time : Int) : List Int := octI (r.1 - base) ++ octI (r.2.1 - time) ++ txtO r.2.2.1 ++ txtO r.2.2.2
/-- facts of the program's head -/
structure Fx (K : PySem.W.Frag) (mg : Str → Option Value) : Prop where
  int : mg "int" = none
  len : mg "len" = none
  range : mg "range" = none
  tuple : mg "tuple" = none
  abs : mg "abs" = none
  SG : ∃ t, mg "SIGNS" = some (.str SIG t)
  cR : Cls K (He.ga K "Reader")
  n1 : NoAttr K (He.ga K "Reader") "row"
  n2 : NoAttr K (He.ga K "Reader") "place"
abbrev BR (K : PySem.W.Frag) : Value := .ref (He.ga K "BadRecord")
theorem octN_1 {m : Nat} (h : m ≤ 127) : octN m = [(m : Int)] := by rw [octN, dif_pos h]
theorem octN_2 {m : Nat} (h : ¬ m ≤ 127) : octN m = ((m % 128 + 128 : Nat) : Int) :: octN (m / 128) := by rw [octN, dif_neg h]
theorem octN_len : ∀ (k m : Nat), m < 128 ^ k → 0 < k → (octN m).length ≤ k
  | 0, m, _, h => absurd h (by decide)
  | k + 1, m, hm, _ => by
    by_cases h : m ≤ 127
    · rw [octN_1 h]; simp
    · rw [octN_2 h, List.length_cons]
      have hk : 0 < k := by
        cases k with
        | zero => simp at hm; omega
        | succ k => omega
      have := octN_len k (m / 128) (by rw [Nat.pow_succ] at hm; omega) hk
      omega
theorem octI_len {n : Int} (h : foldI n < 2 ^ 91) : (octI n).length ≤ 13 := octN_len 13 _ (by have : (128 : Nat) ^ 13 = 2 ^ 91 := by decide
                                                                                              omega) (by decide)
section
variable {T : List (Addr × Str)} {P : Program} {w : World} {Kf : PySem.W.Frag} {mg : Str → Option Value} {base : Heap} {f : Addr} {fd : FuncData}
def spFold : SpL := fun vs L K kx => ∃ n : Int, vs = [.int n] ∧ K (.int (foldI n)) L
theorem ok_folded (F : FunD Kf "folded" "folded" (defArgs s_folded) (defBody s_folded) (defScope s_folded) [] [] f fd) : FnOk P w Kf mg base (L2.CX P w) 1 f fd ["number"] (spOf T spFold) := by
  refine def_in F sc_folded (fun vs L K kx h => ?_) (fun A outer s H E hr n vs L KK kx h hx σ hσ => ?_)
  · obtain ⟨m, rfl, _⟩ := h; rfl
  · obtain ⟨m, rfl, k⟩ := h
    obtain rfl : σ = [some (.int m)] := hσ
    refine gss_cons ?_
    tm_at "go"
    tm_at "if"
    · rename_i hc
      tm_at "go"
      refine Clo.id ?_
      rwa [foldI, if_pos hc] at k
    · rename_i hc
      tm_at "go"
      refine Clo.id ?_
      rwa [foldI, if_neg hc] at k
def spUnf : SpL := fun vs L K kx => ∃ n : Int, vs = [.int n] ∧ K (.int (unfI n)) L
theorem ok_unfolded (F : FunD Kf "unfolded" "unfolded" (defArgs s_unfolded) (defBody s_unfolded) (defScope s_unfolded) [] [] f fd) : FnOk P w Kf mg base (L2.CX P w) 1 f fd ["number"] (spOf T spUnf) := by
  refine def_in F sc_unfolded (fun vs L K kx h => ?_) (fun A outer s H E hr n vs L KK kx h hx σ hσ => ?_)
  · obtain ⟨m, rfl, _⟩ := h; rfl
  · obtain ⟨m, rfl, k⟩ := h
    obtain rfl : σ = [some (.int m)] := hσ
    refine gss_cons ?_
    tm_at "go"
    tm_at "if"
    · rename_i hc
      tm_at "go"
      refine Clo.id ?_
      rwa [unfI, if_pos hc] at k
    · rename_i hc
      tm_at "go"
      refine Clo.id ?_
      rwa [unfI, if_neg hc] at k
/-! ### number_octets -/
def spNO (Kf : PySem.W.Frag) : SpL := fun vs L K kx => ∃ n : Int, vs = [.int n] ∧ (foldI n < 2 ^ 91 → ∀ r, K (.ref r) (pt r (.lst ((octI n).map V.int)) :: L)) ∧ (2 ^ 91 ≤ foldI n → ∀ d, kx (BR Kf) (some d) L)
theorem foldI_nn (n : Int) : 0 ≤ foldI n := by unfold foldI; split <;> omega
theorem ok_no (fx : Fx Kf mg) (br : ExiAt P w Kf mg base 1 "BadRecord" ["place"]) (hf : FnAt T P w Kf mg base 1 "folded" spFold) (F : FunD Kf "number_octets" "number_octets" (defArgs s_number_octets) (defBody s_number_octets) (defScope s_number_octets) [] [] f fd) :
    FnOk P w Kf mg base (L2.CX P w) 3 f fd ["number"] (spOf T (spNO Kf)) := by
  refine def_in F sc_number_octets (fun vs L K kx h => ?_) (fun A outer s H E hr n vs L KK kx h hx σ hσ => ?_)
  · obtain ⟨m, rfl, _⟩ := h; rfl
  · obtain ⟨m, rfl, k1, k2⟩ := h
    obtain rfl : σ = [some (.int m), none] := hσ
    cases fx
    refine gss_cons ?_
    tm_at "go"
    refine CallS.mk ⟨m, rfl, ?_⟩ Ent.refl
    have h0 := foldI_nn m
    tm_at "go"
    refine go_mul (.inr ⟨by decide, by decide⟩) ?_
    rw [show ((2 : Int) ^ Int.toNat 64 * (2 : Int) ^ Int.toNat 27) = 2 ^ 91 from by decide]
    tm_at "go"
    tm_at "if"
    · rename_i hc
      tm_at "go"
      refine gs_raiseI n (by tm_at "sKd") rfl br (by tm_at "sRoom") hx rfl rfl rfl ?_
      tm_at "go"
      refine ⟨rfl, Nat.le_of_ble_eq_true rfl, fun d => ?_⟩
      apply Clo.mk (k2 hc d)
      tm_at "ent"
    · rename_i hc
      have k1 := k1 (by omega)
      tm_at "go"
      rename_i p
      obtain ⟨z, hz⟩ : ∃ z : Nat, foldI m = (z : Int) := ⟨_, (Int.toNat_of_nonneg h0).symm⟩
      rw [hz] at hc
      refine gs_while (fun z' σ' L' => ∃ pre : List Int, σ' = [some (.int (z' : Nat)), some (.ref p)] ∧ L' = pt p (.lst (pre.map V.int)) :: L ∧ pre ++ octN z' = octI m ∧ z' * 128 ^ pre.length < 2 ^ 91) (passes_of rfl) z ⟨[], by rw [hz], rfl, by rw [octI, hz]; rfl, by simpa using (by omega : z < 2 ^ 91)⟩ ?_
      rintro z' σ' L' ⟨pre, rfl, rfl, e1, e2⟩
      tm_at "go"
      tm_at "if"
      · rename_i hz'
        have hz' : ¬ z' ≤ 127 := by omega
        rw [octN_2 hz'] at e1
        have hp : pre.length < 13 := by
          by_cases c : pre.length < 13
          · exact c
          · exfalso
            have : 128 ^ 13 ≤ 128 ^ pre.length := Nat.pow_le_pow_right (by decide) (by omega)
            have h2 : 1 * 128 ^ 13 ≤ z' * 128 ^ pre.length := Nat.mul_le_mul (by omega) this
            have : (128 : Nat) ^ 13 = 2 ^ 91 := by decide
            omega
        tm_at "go"
        refine gapp_pt (by tm_at "sRpl") (by rw [List.length_map, sizeLine_eq]; omega) ?_
        tm_at "go"
        refine ⟨z' / 128, by omega, ?_⟩
        tm_at "fits"
        · refine ⟨pre ++ [((z' % 128 + 128 : Nat) : Int)], by push_cast; rfl, by rw [List.map_append], by rw [← e1]; simp, ?_⟩
          rw [List.length_append, List.length_singleton, Nat.pow_succ]
          have := Nat.div_mul_le_self z' 128
          calc z' / 128 * (128 ^ pre.length * 128) = (z' / 128 * 128) * 128 ^ pre.length := by rw [Nat.mul_comm (128 ^ pre.length), Nat.mul_assoc]
            _ ≤ z' * 128 ^ pre.length := Nat.mul_le_mul_right _ this
            _ < 2 ^ 91 := e2
        · tm_at "ent"
      · rename_i hz'
        have hz' : z' ≤ 127 := by omega
        rw [octN_1 hz'] at e1
        tm_at "go"
        have hl : (octI m).length ≤ 13 := octI_len (by omega)
        refine go_catL (xs := pre.map V.int) (ys := [V.int (z' : Int)]) (by tm_at "sSel") (by tm_at "sSel") ?_ fun r => ?_
        · rw [← e1, List.length_append] at hl
          rw [List.length_map, sizeLine_eq]
          simp only [List.length_singleton] at hl ⊢
          omega
        · apply Clo.mk (k1 r)
          rw [← e1, List.map_append]
          tm_at "ent"
/-! ### sum_of -/
theorem sumP_succ {ds : List Int} {i : Nat} {d : Int} (h : ds[i]? = some d) : sumP (ds.take (i + 1)) = (((sumP (ds.take i)).1 + d) % 65521, ((sumP (ds.take i)).2 + ((sumP (ds.take i)).1 + d) % 65521) % 65521) := by
  rw [List.take_add_one, h]; simp [sumP, List.foldl_append]
def spSum : SpL := fun vs L K kx => ∃ (v : V) (ds : List Int) (R : List SA), vs = [v] ∧ ((∃ p, v = .ref p ∧ L = pt p (.lst (ds.map V.int)) :: R) ∨ L = Val (rTl rInt) v ds :: R) ∧ K (.int (sumL ds)) L
theorem ok_sum (F : FunD Kf "sum_of" "sum_of" (defArgs s_sum_of) (defBody s_sum_of) (defScope s_sum_of) [] [] f fd) : FnOk P w Kf mg base (L2.CX P w) 1 f fd ["row"] (spOf T spSum) := by
  refine def_in F sc_sum_of (fun vs L K kx h => ?_) (fun A outer s H E hr n vs L KK kx h hx σ hσ => ?_)
  · obtain ⟨v, ds, R, rfl, _⟩ := h; rfl
  · obtain ⟨v, ds, R, rfl, hv, k⟩ := h
    obtain rfl : σ = [some v, none, none, none] := hσ
    refine gss_cons ?_
    rcases hv with ⟨p, rfl, rfl⟩ | rfl
    · tm_at "go"
      refine GS.ent (L' := pt p (.lst (ds.map V.int)) :: R) (by tm_at "ent") ?_
      refine gs_forL (fun i σ' L' => ∃ o, σ' = [some (.ref p), some (.int (sumP (ds.take i)).1), some (.int (sumP (ds.take i)).2), o] ∧ L' = pt p (.lst (ds.map V.int)) :: R) p (ds.map V.int) (passes_of rfl) rfl (fun _ => rfl) ?_ ?_ ?_ ?_
      · tm_at "go"
        exact ⟨rfl, none, rfl, rfl⟩
      · rintro i σ' L' ⟨o, rfl, rfl⟩
        exact ⟨_, by tm_at "sSel"⟩
      · rintro i x σ' L' hd ⟨o, rfl, rfl⟩
        obtain ⟨d, hd', rfl⟩ : ∃ d, ds[i]? = some d ∧ x = V.int d := by
          rw [List.getElem?_map] at hd
          cases hq : ds[i]? with
          | none => rw [hq] at hd; cases hd
          | some y => rw [hq] at hd; cases hd; exact ⟨y, rfl, rfl⟩
        tm_at "go"
        tm_at "fits"
        · exact ⟨_, by rw [sumP_succ hd'], rfl⟩
        · tm_at "ent"
      · rintro σ' L' ⟨o, rfl, rfl⟩
        rw [List.length_map, List.take_length]
        tm_at "go"
        exact Clo.id k
    · tm_at "go"
      refine GS.ent (L' := Val (rTl rInt) v ds :: R) (by tm_at "ent") ?_
      refine gs_forT (fun i σ' L' => ∃ o, σ' = [some v, some (.int (sumP (ds.take i)).1), some (.int (sumP (ds.take i)).2), o] ∧ L' = Val (rTl rInt) v ds :: R) v rInt ds (passes_of rfl) rfl (fun _ => rfl) ?_ ?_ ?_ ?_
      · tm_at "go"
        exact ⟨rfl, none, rfl, rfl⟩
      · rintro i σ' L' ⟨o, rfl, rfl⟩
        exact rv_val (by tm_at "sSel")
      · rintro i d x σ' L' hd ⟨o, rfl, rfl⟩
        refine gg_val cInt (rv_val .here) fun _ => ?_
        tm_at "go"
        tm_at "fits"
        · exact ⟨_, by rw [sumP_succ hd], rfl⟩
        · tm_at "ent"
      · rintro σ' L' ⟨o, rfl, rfl⟩
        rw [List.take_length]
        tm_at "go"
        exact Clo.id k
end
end K01
set_option Elab.async false
set_option linter.all false
set_option maxRecDepth 100000
set_option maxHeartbeats 1600000
set_option pp.deepTerms false
set_option pp.deepTerms.threshold 10
set_option pp.maxSteps 500
namespace K01
open PySem PySem.Spec L2 SW
open PyProof.Rows hiding St
local macro_rules | `(tactic| tm_at "sAt") => `(tactic| with_reducible (first | exact At.here | (apply At.there; tm_at "sAt")))
local macro_rules | `(tactic| tm_at "sSlot") => `(tactic| with_reducible (first | exact Slot.here | (apply Slot.there; tm_at "sSlot")))
local macro_rules | `(tactic| tm_at "sKd") => `(tactic| with_reducible (first | exact Kd.here | (apply Kd.there; tm_at "sKd")))
local macro_rules | `(tactic| tm_at "sSel") => `(tactic| with_reducible (first | exact Sel.here | (apply Sel.there; tm_at "sSel")))
local macro_rules | `(tactic| tm_at "sRpl") => `(tactic| with_reducible (first | exact Rpl.here | (apply Rpl.there; tm_at "sRpl")))
local macro_rules | `(tactic| tm_at "sTk") => `(tactic| (first | exact Tk.nil | (apply Tk.cons; (tm_at "sSel"); (tm_at "sTk"))))
local macro_rules | `(tactic| tm_at "sVk") => `(tactic| first
  | exact Vk.l
  | exact Vk.c
  | exact Vk.f)
local macro_rules | `(tactic| tm_at "sLk") => `(tactic| first
  | exact Lk.l
  | exact Lk.c)
local macro_rules | `(tactic| tm_at "sLf") => `(tactic| first
  | exact Or.inl rfl
  | exact Or.inr rfl)
local macro_rules | `(tactic| tm_at "sRoom") => `(tactic| first
  | assumption
  | exact L2.Room.mono (by assumption) (by decide))
local macro_rules | `(tactic| tm_at "sXok") => `(tactic| first
  | assumption
  | exact xok0)
local macro_rules | `(tactic| tm_at "sCv") => `(tactic| (first | with_reducible exact Cv.id | with_reducible exact Cv.lst0 | ((with_reducible refine Cv.pt ?_); tm_at "sEq") | ((with_reducible refine Cv.lst ?_); tm_at "sEq") | ((with_reducible refine Cv.val ?_); tm_at "sEq")))
local macro_rules | `(tactic| tm_at "sEq") => `(tactic| (first | rfl | assumption | (simp; done)))
local macro_rules | `(tactic| tm_at "sSelC") => `(tactic| (first | ((with_reducible apply SelC.here); tm_at "sCv") | ((with_reducible apply SelC.there); tm_at "sSelC")))
local macro_rules | `(tactic| tm_at "fit") => `(tactic| (first | with_reducible exact Fit.refl | with_reducible exact Fit.nil | ((with_reducible apply Fit.find); (case s => tm_at "sSelC"); (case t => tm_at "fit")) | ((with_reducible apply Fit.drop); tm_at "fit")))
local macro_rules | `(tactic| tm_at "sLkF") => `(tactic| with_reducible (first | exact LkF.here | (apply LkF.there (by with_unfolding_all rfl); tm_at "sLkF")))
local macro_rules | `(tactic| tm_at "sNoF") => `(tactic| with_reducible (first | exact NoF.nil | (apply NoF.cons (by with_unfolding_all rfl); tm_at "sNoF")))
local macro_rules | `(tactic| tm_at "sPutF") => `(tactic| with_reducible (first | exact PutF.here | exact PutF.nil | (apply PutF.there (by with_unfolding_all rfl); tm_at "sPutF")))
local macro_rules | `(tactic| tm_at "sHasL") => `(tactic| (first | exact hasL_pt (by tm_at "sSel") | exact hasL_R (by tm_at "sSel")))
local macro_rules | `(tactic| tm_at "sZ") => `(tactic| (first | assumption | (simp only [List.length_cons, List.length_nil, List.length_append, PySem.sizeLine_eq]; omega) | (rw [PySem.sizeLine_eq]; simp; done)))
local macro_rules | `(tactic| tm_at "sIx") => `(tactic| with_unfolding_all rfl)
local macro_rules | `(tactic| tm_at "sSet") => `(tactic| (first | exact SetR.here | (apply SetR.there; tm_at "sSet")))
local macro_rules | `(tactic| tm_at "sPut") => `(tactic| first
  | exact PutAt.c 0 (by with_unfolding_all rfl) (by tm_at "sSet")
  | exact PutAt.c 1 (by with_unfolding_all rfl) (by tm_at "sSet")
  | exact PutAt.c 2 (by with_unfolding_all rfl) (by tm_at "sSet")
  | exact PutAt.c 3 (by with_unfolding_all rfl) (by tm_at "sSet")
  | exact PutAt.c 4 (by with_unfolding_all rfl) (by tm_at "sSet")
  | exact PutAt.c 5 (by with_unfolding_all rfl) (by tm_at "sSet"))
local macro_rules | `(tactic| tm_at "gECall") => `(tactic| first
  | ((guard_target = GE _ _ (Expr.Call (Expr.Name "len" _) _ _ _) _ _ _); (with_reducible refine gb_len (by assumption) (by tm_at "sKd") ?hm ?he ?hpl ?_); (case hm => assumption); (case he => rfl); (case hpl => rfl))
  | ((guard_target = GE _ _ (Expr.Call (Expr.Name "int" _) _ _ _) _ _ _); (with_reducible refine gb_int (by assumption) (by tm_at "sKd") ?hm ?he ?hpl ?_); (case hm => assumption); (case he => rfl); (case hpl => rfl))
  | ((guard_target = GE _ _ (Expr.Call (Expr.Name "str" _) _ _ _) _ _ _); (with_reducible refine gb_str (by assumption) (by tm_at "sKd") ?hm ?he ?hpl ?_); (case hm => assumption); (case he => rfl); (case hpl => rfl))
  | ((guard_target = GE _ _ (Expr.Call (Expr.Name "list" _) _ _ _) _ _ _); (with_reducible refine gb_list (by assumption) (by tm_at "sKd") ?hm ?he ?hpl ?_); (case hm => assumption); (case he => rfl); (case hpl => rfl))
  | ((guard_target = GE _ _ (Expr.Call (Expr.Name "tuple" _) _ _ _) _ _ _); (with_reducible refine gb_tuple (by assumption) (by tm_at "sKd") ?hm ?he ?hpl ?_); (case hm => assumption); (case he => rfl); (case hpl => rfl))
  | ((guard_target = GE _ _ (Expr.Call (Expr.Name "min" _) _ _ _) _ _ _); (with_reducible refine gb_min (by assumption) (by tm_at "sKd") ?hm ?he ?hpl ?_); (case hm => assumption); (case he => rfl); (case hpl => rfl))
  | ((guard_target = GE _ _ (Expr.Call (Expr.Name "max" _) _ _ _) _ _ _); (with_reducible refine gb_max (by assumption) (by tm_at "sKd") ?hm ?he ?hpl ?_); (case hm => assumption); (case he => rfl); (case hpl => rfl))
  | ((guard_target = GE _ _ (Expr.Call (Expr.Name "sum" _) _ _ _) _ _ _); (with_reducible refine gb_sum (by assumption) (by tm_at "sKd") ?hm ?he ?hpl ?_); (case hm => assumption); (case he => rfl); (case hpl => rfl))
  | ((guard_target = GE _ _ (Expr.Call (Expr.Name "sorted" _) _ _ _) _ _ _); (with_reducible refine gb_sorted (by assumption) (by tm_at "sKd") ?hm ?he ?hpl ?_); (case hm => assumption); (case he => rfl); (case hpl => rfl))
  | ((guard_target = GE _ _ (Expr.Call (Expr.Name "abs" _) _ _ _) _ _ _); (with_reducible refine gb_abs (by assumption) (by tm_at "sKd") ?hm ?he ?hpl ?_); (case hm => assumption); (case he => rfl); (case hpl => rfl))
  | ((guard_target = GE _ _ (Expr.Call (Expr.Name "range" _) _ _ _) _ _ _); (with_reducible refine gb_range (by assumption) (by tm_at "sKd") ?hm ?he ?hpl ?_); (case hm => assumption); (case he => rfl); (case hpl => rfl))
  | ((guard_target = GE _ _ (Expr.Call (Expr.Name "any" _) _ _ _) _ _ _); (with_reducible refine gb_any (by assumption) (by tm_at "sKd") ?hm ?he ?hpl ?_); (case hm => assumption); (case he => rfl); (case hpl => rfl))
  | ((guard_target = GE _ _ (Expr.Call (Expr.Name "all" _) _ _ _) _ _ _); (with_reducible refine gb_all (by assumption) (by tm_at "sKd") ?hm ?he ?hpl ?_); (case hm => assumption); (case he => rfl); (case hpl => rfl))
  | ((guard_target = GE _ _ (Expr.Call (Expr.Name "dict" _) _ _ _) _ _ _); (with_reducible refine gb_dict (by assumption) (by tm_at "sKd") ?hm ?he ?hpl ?_); (case hm => assumption); (case he => rfl); (case hpl => rfl))
  | ((guard_target = GE _ _ (Expr.Call (Expr.Name "set" _) _ _ _) _ _ _); (with_reducible refine gb_set (by assumption) (by tm_at "sKd") ?hm ?he ?hpl ?_); (case hm => assumption); (case he => rfl); (case hpl => rfl)))
local macro_rules | `(tactic| tm_at "gECall") => `(tactic| (guard_target = GE _ _ (Expr.Call (Expr.Name "_law_roll" _) (_ :: _) [] _) _ _ _; (refine ge_call (FnAt.e (x := "_law_roll") (by assumption)) (by tm_at "sRoom") (by tm_at "sXok") (Nm.gl (by assumption) (by tm_at "sKd")) ?hdb ?he ?hpl ?_); (case hdb => rfl); (case he => rfl); (case hpl => rfl)))
local macro_rules | `(tactic| tm_at "gECall") => `(tactic| (guard_target = GE _ _ (Expr.Call (Expr.Name "_law_dice" _) (_ :: _) [] _) _ _ _; (refine ge_call (FnAt.e (x := "_law_dice") (by assumption)) (by tm_at "sRoom") (by tm_at "sXok") (Nm.gl (by assumption) (by tm_at "sKd")) ?hdb ?he ?hpl ?_); (case hdb => rfl); (case he => rfl); (case hpl => rfl)))
local macro_rules | `(tactic| tm_at "gECall") => `(tactic| (guard_target = GE _ _ (Expr.Call (Expr.Name "_law_rounds" _) (_ :: _) [] _) _ _ _; (refine ge_call (FnAt.e (x := "_law_rounds") (by assumption)) (by tm_at "sRoom") (by tm_at "sXok") (Nm.gl (by assumption) (by tm_at "sKd")) ?hdb ?he ?hpl ?_); (case hdb => rfl); (case he => rfl); (case hpl => rfl)))
local macro_rules | `(tactic| tm_at "gECall") => `(tactic| (guard_target = GE _ _ (Expr.Call (Expr.Name "_law_deed" _) (_ :: _) [] _) _ _ _; (refine ge_call (FnAt.e (x := "_law_deed") (by assumption)) (by tm_at "sRoom") (by tm_at "sXok") (Nm.gl (by assumption) (by tm_at "sKd")) ?hdb ?he ?hpl ?_); (case hdb => rfl); (case he => rfl); (case hpl => rfl)))
local macro_rules | `(tactic| tm_at "gE") => `(tactic| first
  | ((guard_target = GE _ _ (Expr.Name _ _) _ _ _); (with_reducible refine ge_name (by assumption) (by tm_at "sAt") (by tm_at "sKd") (by tm_at "sVk") rfl ?_))
  | ((guard_target = GE _ _ (Expr.Constant (Const.int _) _ _) _ _ _); (with_reducible refine ge_int ?_))
  | ((guard_target = GE _ _ (Expr.Attribute _ _ _) _ _ _); (with_reducible refine ge_fld ?hb ?_); (case hb => rfl))
  | ((guard_target = GE _ _ (Expr.Subscript _ (Expr.Slice _ _ none _) _) _ _ _); (with_reducible refine ge_slice ?_))
  | ((guard_target = GE _ _ (Expr.Call (Expr.Attribute _ _ _) _ _ _) _ _ _); tm_at "gEMeth")
  | ((guard_target = GE _ _ (Expr.Subscript _ _ _) _ _ _); (with_reducible refine ge_sub ?hs ?_); (case hs => exact fun _ _ => rfl))
  | ((guard_target = GE _ _ (Expr.BinOp _ _ _ _) _ _ _); (with_reducible refine ge_bin ?_))
  | ((guard_target = GE _ _ (Expr.Constant (Const.str _) _ _) _ _ _); (with_reducible refine ge_str ?_))
  | ((guard_target = GE _ _ (Expr.Call (Expr.Name _ _) _ _ _) _ _ _); tm_at "gECall")
  | ((guard_target = GE _ _ (Expr.List _ _) _ _ _); (with_reducible refine ge_lst ?_))
  | ((guard_target = GE _ _ (Expr.Tuple _ _ _) _ _ _); (with_reducible refine ge_tup ?_))
  | ((guard_target = GE _ _ (Expr.Constant Const.none _ _) _ _ _); (with_reducible refine ge_none ?_))
  | ((guard_target = GE _ _ (Expr.Constant (Const.bool _) _ _) _ _ _); (with_reducible refine ge_bl ?_))
  | ((guard_target = GE _ _ (Expr.Compare _ [_] [_] _) _ _ _); (with_reducible refine ge_cmp ?hm ?_); (case hm => first | exact nomark _ | rfl))
  | ((guard_target = GE _ _ (Expr.UnaryOp UnaryOp.Not _ _) _ _ _); (with_reducible refine ge_not ?_))
  | ((guard_target = GE _ _ (Expr.UnaryOp _ _ _) _ _ _); (with_reducible refine ge_un ?_))
  | ((guard_target = GE _ _ (Expr.IfExp _ _ _ _) _ _ _); (with_reducible refine ge_if ?_))
  | ((guard_target = GE _ _ (Expr.Compare _ [_, _] [_, _] _) _ _ _); (with_reducible refine ge_chain ?hm ?_); (case hm => with_unfolding_all rfl))
  | ((guard_target = GE _ _ (Expr.BoolOp _ [_] _) _ _ _); (with_reducible refine ge_one ?_))
  | ((guard_target = GE _ _ (Expr.BoolOp BoolOp.And _ _) _ _ _); (with_reducible refine ge_and ?_))
  | ((guard_target = GE _ _ (Expr.BoolOp BoolOp.Or _ _) _ _ _); (with_reducible refine ge_or ?_)))
local macro_rules | `(tactic| tm_at "gEMeth") => `(tactic| first
  | ((guard_target = GE _ _ (Expr.Call (Expr.Attribute _ "append" _) [_] [] _) _ _ _); (with_reducible refine ge_append ?h1 ?h2 ?h3 ?h4 ?h5 ?_); (case h1 => rfl); (case h2 => rfl); (case h3 => rfl); (case h4 => rfl); (case h5 => rfl))
  | ((guard_target = GE _ _ (Expr.Call (Expr.Attribute _ "extend" _) [_] [] _) _ _ _); (with_reducible refine ge_extend ?h1 ?h2 ?h3 ?h4 ?h5 ?_); (case h1 => rfl); (case h2 => rfl); (case h3 => rfl); (case h4 => rfl); (case h5 => rfl))
  | ((guard_target = GE _ _ (Expr.Call (Expr.Attribute _ "remove" _) [_] [] _) _ _ _); (with_reducible refine ge_remove ?h1 ?h2 ?h3 ?h4 ?h5 ?_); (case h1 => rfl); (case h2 => rfl); (case h3 => rfl); (case h4 => rfl); (case h5 => rfl))
  | ((guard_target = GE _ _ (Expr.Call (Expr.Attribute _ "pop" _) [_] [] _) _ _ _); (with_reducible refine ge_popAt ?h1 ?h2 ?h3 ?h4 ?h5 ?_); (case h1 => rfl); (case h2 => rfl); (case h3 => rfl); (case h4 => rfl); (case h5 => rfl)))
local macro_rules | `(tactic| tm_at "gT") => `(tactic| first
  | ((guard_target = GT _ _ (Expr.Compare _ [_] [_] _) _ _ _); (with_reducible refine gt_cmp ?hm ?_); (case hm => first | exact nomark _ | rfl))
  | ((guard_target = GT _ _ (Expr.UnaryOp UnaryOp.Not _ _) _ _ _); (with_reducible refine gt_not ?_))
  | ((guard_target = GT _ _ (Expr.BoolOp _ _ _) _ _ _); (with_reducible refine gt_bool ?_))
  | ((guard_target = GT _ _ (Expr.Compare _ [_, _] [_, _] _) _ _ _); (with_reducible refine gt_chain ?hm ?_); (case hm => with_unfolding_all rfl))
  | ((guard_target = GT _ _ (Expr.Call _ _ _ _) _ _ _); (with_reducible refine gt_val ?he ?_); (case he => intro _; rfl))
  | ((guard_target = GT _ _ (Expr.Subscript _ _ _) _ _ _); (with_reducible refine gt_val ?he ?_); (case he => intro _; rfl))
  | ((guard_target = GT _ _ (Expr.Name _ _) _ _ _); (with_reducible refine gt_val ?he ?_); (case he => intro _; rfl))
  | ((guard_target = GT _ _ (Expr.Attribute _ _ _) _ _ _); (with_reducible refine gt_val ?he ?_); (case he => intro _; rfl)))
local macro_rules | `(tactic| tm_at "gB") => `(tactic| first
  | ((guard_target = GB _ _ (Expr.BoolOp BoolOp.And [_] _) _ _ _); (with_reducible refine gb_and1 ?_))
  | ((guard_target = GB _ _ (Expr.BoolOp BoolOp.Or [_] _) _ _ _); (with_reducible refine gb_or1 ?_))
  | ((guard_target = GB _ _ (Expr.BoolOp BoolOp.And _ _) _ _ _); (with_reducible refine gb_and ?_))
  | ((guard_target = GB _ _ (Expr.BoolOp BoolOp.Or _ _) _ _ _); (with_reducible refine gb_or ?_)))
local macro_rules | `(tactic| tm_at "gA") => `(tactic| first
  | ((guard_target = GA _ _ ([]) _ _ _); (with_reducible refine ga_nil ?_))
  | ((guard_target = GA _ _ (_ :: _) _ _ _); (with_reducible refine ga_cons ?hst ?_); (case hst => rfl)))
local macro_rules | `(tactic| tm_at "gOp") => `(tactic| first
  | ((guard_target = GOp _ _ (binaryOp Operator.Add) (V.int _) (V.int _) _ _); (with_reducible refine go_add ?_))
  | ((guard_target = GOp _ _ (binaryOp Operator.Sub) (V.int _) (V.int _) _ _); (with_reducible refine go_sub ?_))
  | ((guard_target = GOp _ _ (compareOp CmpOp.Eq) (V.int _) (V.int _) _ _); (with_reducible refine go_eqI ?_))
  | ((guard_target = GOp _ _ (compareOp CmpOp.Lt) (V.int _) (V.int _) _ _); (with_reducible refine go_lt ?_))
  | ((guard_target = GOp _ _ (compareOp CmpOp.LtE) (V.int _) (V.int _) _ _); (with_reducible refine go_le ?_))
  | ((guard_target = GOp _ _ (compareOp CmpOp.Gt) (V.int _) (V.int _) _ _); (with_reducible refine go_gt ?_))
  | ((guard_target = GOp _ _ (compareOp CmpOp.GtE) (V.int _) (V.int _) _ _); (with_reducible refine go_ge ?_))
  | ((guard_target = GOp _ _ (compareOp CmpOp.NotEq) (V.int _) (V.int _) _ _); (with_reducible refine go_neI ?_))
  | ((guard_target = GOp _ _ (binaryOp Operator.Mult) (V.int _) (V.int _) _ _); (with_reducible refine go_mul ?c ?_); (case c => first | (left; constructor <;> omega) | (right; constructor <;> omega)))
  | ((guard_target = GOp _ _ (binaryOp Operator.FloorDiv) (V.int _) (V.int _) _ _); (with_reducible refine go_div ?c ?_); (case c => constructor <;> omega))
  | ((guard_target = GOp _ _ (binaryOp Operator.Mod) (V.int _) (V.int _) _ _); (with_reducible refine go_mod ?c ?_); (case c => omega))
  | ((guard_target = GOp _ _ (compareOp CmpOp.Eq) (V.str _) (V.str _) _ _); (with_reducible refine go_eqT ?_))
  | ((guard_target = GOp _ _ (compareOp CmpOp.NotEq) (V.str _) (V.str _) _ _); (with_reducible refine go_neT ?_))
  | ((guard_target = GOp _ _ (compareOp CmpOp.Eq) (V.bl _) (V.bl _) _ _); (with_reducible refine go_eqB ?_))
  | ((guard_target = GOp _ _ (compareOp CmpOp.NotEq) (V.bl _) (V.bl _) _ _); (with_reducible refine go_neB ?_))
  | ((guard_target = GOp _ _ (compareOp CmpOp.In) (V.int _) (V.ref _) _ _); (with_reducible refine go_inI (by tm_at "sSel") ?_))
  | ((guard_target = GOp _ _ (compareOp CmpOp.NotIn) (V.int _) (V.ref _) _ _); (with_reducible refine go_ninI (by tm_at "sSel") ?_))
  | ((guard_target = GOp _ _ (compareOp CmpOp.In) (V.str _) (V.ref _) _ _); (with_reducible refine go_inT (by tm_at "sSel") ?_))
  | ((guard_target = GOp _ _ (compareOp CmpOp.NotIn) (V.str _) (V.ref _) _ _); (with_reducible refine go_ninT (by tm_at "sSel") ?_))
  | ((guard_target = GOp _ _ (compareOp CmpOp.Eq) (_) (V.non) _ _); (with_reducible refine go_eqS rfl ?_))
  | ((guard_target = GOp _ _ (compareOp CmpOp.NotEq) (_) (V.non) _ _); (with_reducible refine go_neS rfl ?_))
  | ((guard_target = GOp _ _ (compareOp CmpOp.Is) (_) (V.non) _ _); (with_reducible refine go_isN ?_))
  | ((guard_target = GOp _ _ (compareOp CmpOp.IsNot) (_) (V.non) _ _); (with_reducible refine go_notN ?_)))
local macro_rules | `(tactic| tm_at "gC") => `(tactic| first
  | ((guard_target = GC _ _ (Value.type "int") [V.int _] _ _); (with_reducible refine gc_intI ?_))
  | ((guard_target = GC _ _ (Value.type "int") [V.bl _] _ _); (with_reducible refine gc_intB ?_))
  | ((guard_target = GC _ _ (Value.builtin "abs") [V.int _] _ _); (with_reducible refine gc_abs ?_))
  | ((guard_target = GC _ _ (Value.builtin "max") [V.int _, V.int _] _ _); (with_reducible refine gc_max2 ?hc ?_); (case hc => rfl))
  | ((guard_target = GC _ _ (Value.builtin "min") [V.int _, V.int _] _ _); (with_reducible refine gc_min2 ?hc ?_); (case hc => rfl))
  | ((guard_target = GC _ _ (Value.type "range") [V.int _] _ _); (with_reducible refine gc_rng1 ?_))
  | ((guard_target = GC _ _ (Value.type "range") [V.int _, V.int _] _ _); (with_reducible refine gc_rng2 ?_))
  | ((guard_target = GC _ _ (Value.builtin "len") [V.ref _] _ _); (with_reducible refine gc_lenR (by tm_at "sSel") ?_))
  | ((guard_target = GC _ _ (Value.builtin "len") [V.ref _] _ _); (with_reducible refine gc_len (by tm_at "sSel") ?_))
  | ((guard_target = GC _ _ (Value.builtin "len") [V.ref _] _ _); (with_reducible refine gc_lenT (by tm_at "sSel") ?_)))
local macro_rules | `(tactic| tm_at "gF") => `(tactic| first
  | ((guard_target = GF _ _ _ _ _ _); (with_reducible refine gf (by tm_at "sSel") (by tm_at "sLkF") ?hc ?hn ?_); (case hc => assumption); (case hn => assumption))
  | ((guard_target = GFS _ _ _ _ _ _); (with_reducible refine gfs (by tm_at "sRpl") (by tm_at "sPutF") ?hc ?hn ?hz ?_); (case hc => assumption); (case hn => assumption); (case hz => exact Nat.le_of_ble_eq_true rfl))
  | ((guard_target = GFA _ _ _ _ _ _ _ _ _); (with_reducible refine gfa (by tm_at "sSel") (by tm_at "sLkF") ?hc ?hn ?_); (case hc => assumption); (case hn => assumption))
  | ((guard_target = Exists fun _ => Exists fun _ => Exists fun _ => (Rpl _ _ _ _ ∧ _ ∧ _)); (with_reducible refine gfaE (by tm_at "sRpl") (by tm_at "sPutF") ?hz ?_); (case hz => exact Nat.le_of_ble_eq_true rfl))
  | ((guard_target = GAS _ _ _ _ _ _ _ _ _); (with_reducible refine gas (by tm_at "sSel") (by tm_at "sIx") ?_))
  | ((guard_target = (HasL _ _ _ ∧ _)); (with_reducible refine And.intro ?hh ?_); (case hh => tm_at "sHasL"))
  | ((guard_target = (IsIns _ _ _ _ _ ∧ _)); (with_reducible refine And.intro ?hh ?_); (case hh => exact isIns (by tm_at "sSel") (by tm_at "sNoF") (by rfl)))
  | ((guard_target = GApp _ _ _ _ _); (with_reducible refine gapp_pt (by tm_at "sRpl") ?hz ?_); (case hz => tm_at "sZ"))
  | ((guard_target = (List.length _ ≤ PySem.sizeLine ∧ _)); (with_reducible refine And.intro ?hz ?_); (case hz => tm_at "sZ"); intro _)
  | ((guard_target = GIp _ _ Operator.Add (V.int _) (V.int _) _ _); (with_reducible refine gip_add ?_))
  | ((guard_target = GIp _ _ Operator.Sub (V.int _) (V.int _) _ _); (with_reducible refine gip_sub ?_))
  | ((guard_target = GRem _ _ _ _ _); (with_reducible refine grem (by tm_at "sRpl") ?hm ?_); (case hm => assumption))
  | ((guard_target = GO _ _ none _ _ _); (with_reducible refine goN ?_))
  | ((guard_target = GO _ _ (some _) _ _ _); (with_reducible refine goS ?_)))
local macro_rules | `(tactic| tm_at "gIx") => `(tactic| first
  | (with_reducible refine gi_lst (by tm_at "sSel") (by tm_at "sIx") ?_)
  | (with_reducible refine gi_tup (by tm_at "sSel") (by tm_at "sIx") ?_))
local macro_rules | `(tactic| tm_at "gS") => `(tactic| first
  | ((guard_target = GS _ _ (Stmt.Assign [Expr.Name _ _] _ _) _ _ _); (with_reducible refine gs_name (by assumption) (by tm_at "sSlot") (by tm_at "sKd") (by tm_at "sLk") (by tm_at "sLf") ?hsw ?_); (case hsw => rfl))
  | ((guard_target = GS _ _ (Stmt.If _ _ _ _) _ _ _); (with_reducible refine gs_if ?_))
  | ((guard_target = GS _ _ (Stmt.AugAssign (Expr.Name _ _) _ _ _) _ _ _); (with_reducible refine gs_aug (by assumption) (by tm_at "sAt") (by tm_at "sSlot") (by tm_at "sKd") (by tm_at "sLk") (by tm_at "sLf") ?_))
  | ((guard_target = GS _ _ (Stmt.AugAssign (Expr.Attribute _ _ _) _ _ _) _ _ _); (with_reducible refine gs_fldaug ?_))
  | ((guard_target = GS _ _ (Stmt.AugAssign (Expr.Subscript _ _ _) _ _ _) _ _ _); (with_reducible refine gs_augS ?ha ?_); (case ha => intros; rfl))
  | ((guard_target = GS _ _ (Stmt.Return (some _) _) _ _ _); (with_reducible refine gs_ret ?_))
  | ((guard_target = GS _ _ (Stmt.Expr (Expr.Constant _ _ _) _) _ _ _); (with_reducible refine gs_doc ?_))
  | ((guard_target = GS _ _ (Stmt.Expr _ _) _ _ _); (with_reducible refine gs_expr ?hsw ?_); (case hsw => rfl))
  | ((guard_target = GS _ _ (Stmt.Assign [Expr.Attribute _ _ _] _ _) _ _ _); (with_reducible refine gs_fld ?hsw ?_); (case hsw => rfl))
  | ((guard_target = GS _ _ (Stmt.Assign [Expr.Subscript _ _ _] _ _) _ _ _); (with_reducible refine gs_asg ?hsw ?hw ?h1 ?_); (case hsw => rfl); (case hw => rfl); (case h1 => rfl))
  | ((guard_target = GS _ _ (Stmt.Assign [Expr.Tuple _ _ _] _ _) _ _ _); (with_reducible refine gs_asg ?hsw ?hw ?h1 ?_); (case hsw => rfl); (case hw => rfl); (case h1 => rfl))
  | ((guard_target = GS _ _ (Stmt.Return none _) _ _ _); (with_reducible refine gs_retN ?_))
  | ((guard_target = GS _ _ (Stmt.Pass _) _ _ _); (with_reducible refine gs_pass ?_))
  | ((guard_target = GS _ _ (Stmt.Break _) _ _ _); (with_reducible refine gs_break ?_))
  | ((guard_target = GS _ _ (Stmt.Continue _) _ _ _); (with_reducible refine gs_continue ?_)))
local macro_rules | `(tactic| tm_at "gG") => `(tactic| first
  | ((guard_target = GG _ _ (Expr.Name _ _) _ _ _ _); (with_reducible refine gg_name (by assumption) (by tm_at "sSlot") (by tm_at "sKd") (by tm_at "sLk") (by tm_at "sLf") ?_))
  | ((guard_target = GG _ _ (Expr.Subscript _ _ _) _ _ _ _); (with_reducible refine gg_sub ?ha ?_); (case ha => intro _; rfl))
  | ((guard_target = GG _ _ (Expr.Tuple _ _ _) _ _ _ _); (with_reducible refine gg_tup ?hc (by tm_at "sSel") ?hn ?hst ?_); (case hc => rfl); (case hn => rfl); (case hst => rfl)))
local macro_rules | `(tactic| tm_at "g") => `(tactic| first
  | ((guard_target = GE _ _ _ _ _ _); tm_at "gE")
  | ((guard_target = GOp _ _ _ _ _ _ _); tm_at "gOp")
  | ((guard_target = GIx _ _ _ _ _ _); tm_at "gIx")
  | tm_at "gF"
  | ((guard_target = (wipe _ _ = wipe _ _ ∧ _)); refine And.intro rfl ?_)
  | ((guard_target = GGs _ _ [] _ _ _ _); (with_reducible refine ggs_nil ?_))
  | ((guard_target = GGs _ _ (_ :: _) _ _ _ _); (with_reducible refine ggs_cons ?hst ?_); (case hst => rfl))
  | ((guard_target = GTs _ _ [] _ _ _); (with_reducible refine gts_nil ?_))
  | ((guard_target = GTs _ _ [_] _ _ _); (with_reducible refine gts_one ?_))
  | ((guard_target = KB _ _ _); (with_reducible refine KB.mk ?_))
  | ((guard_target = GA _ _ _ _ _ _); tm_at "gA")
  | ((guard_target = GS _ _ _ _ _ _); tm_at "gS")
  | ((guard_target = GSs _ _ (_ :: _) _ _ _); (with_reducible refine gss_cons ?_))
  | ((guard_target = GSs _ _ ([]) _ _ _); (with_reducible refine gss_nil ?_))
  | ((guard_target = GT _ _ _ _ _ _); tm_at "gT")
  | ((guard_target = GB _ _ _ _ _ _); tm_at "gB")
  | ((guard_target = GC _ _ _ _ _ _); tm_at "gC")
  | ((guard_target = GG _ _ _ _ _ _ _); tm_at "gG")
  | ((guard_target = GPutL _ _ _ _ _); (with_reducible refine gput (by tm_at "sRpl") (by tm_at "sPut") ?_))
  | ((guard_target = if true = true then _ else _); (with_reducible refine iteT ?_))
  | ((guard_target = if (!true) = true then _ else _); (with_reducible refine iteNT ?_))
  | ((guard_target = if (!false) = true then _ else _); (with_reducible refine iteNF ?_))
  | ((guard_target = if false = true then _ else _); (with_reducible refine iteF ?_))
  | ((guard_target = Exists _); (with_reducible refine Exists.intro _ (And.intro rfl ?_)))
  | (first | with_reducible refine ite_nI ?_ | with_reducible refine ite_nN ?_ | with_reducible refine ite_nnI ?_ | with_reducible refine ite_nnN ?_ | with_reducible refine ite_nR ?_ | with_reducible refine ite_nnR ?_))
local macro_rules | `(tactic| tm_at "sSetN") => `(tactic| (first | exact SetN.here | (apply SetN.there; tm_at "sSetN")))
local macro_rules | `(tactic| tm_at "sWp") => `(tactic| (first | exact Wp.nil | (apply Wp.cons; (tm_at "sWp"); (tm_at "sSetN"))))
local macro_rules | `(tactic| tm_at "fits") => `(tactic| (first | apply Fits.mk | apply FitL.mk))
local macro_rules | `(tactic| tm_at "ent") => `(tactic| (apply Fit.ent; tm_at "fit"))
local macro_rules | `(tactic| tm_at "go") => `(tactic| repeat (tm_at "g"))
local macro_rules | `(tactic| tm_at "gs") => `(tactic| repeat ((fail_if_success (guard_target = GSs _ _ (_ :: _) _ _ _)); tm_at "g"))
local macro_rules | `(tactic| tm_at "if") => `(tactic| first
  | (with_reducible refine ite_ndec (fun _ => ?_) (fun _ => ?_))
  | (with_reducible refine ite_dec (fun _ => ?_) (fun _ => ?_))
  | (with_reducible refine ite_nb (fun _ => ?_) (fun _ => ?_))
  | (with_reducible refine ite_b (fun _ => ?_) (fun _ => ?_)))
local macro_rules | `(tactic| tm_at "gECall") => `(tactic| (guard_target = GE _ _ (Expr.Call (Expr.Name "folded" _) (_ :: _) [] _) _ _ _; (refine ge_call (FnAt.e (x := "folded") (by assumption)) (by tm_at "sRoom") (by tm_at "sXok") (Nm.gl (by assumption) (by tm_at "sKd")) ?hdb ?he ?hpl ?_); (case hdb => rfl); (case he => rfl); (case hpl => rfl)))
local macro_rules | `(tactic| tm_at "gECall") => `(tactic| (guard_target = GE _ _ (Expr.Call (Expr.Name "unfolded" _) (_ :: _) [] _) _ _ _; (refine ge_call (FnAt.e (x := "unfolded") (by assumption)) (by tm_at "sRoom") (by tm_at "sXok") (Nm.gl (by assumption) (by tm_at "sKd")) ?hdb ?he ?hpl ?_); (case hdb => rfl); (case he => rfl); (case hpl => rfl)))
local macro_rules | `(tactic| tm_at "gECall") => `(tactic| (guard_target = GE _ _ (Expr.Call (Expr.Name "number_octets" _) (_ :: _) [] _) _ _ _; (refine ge_call (FnAt.e (x := "number_octets") (by assumption)) (by tm_at "sRoom") (by tm_at "sXok") (Nm.gl (by assumption) (by tm_at "sKd")) ?hdb ?he ?hpl ?_); (case hdb => rfl); (case he => rfl); (case hpl => rfl)))
local macro_rules | `(tactic| tm_at "gECall") => `(tactic| (guard_target = GE _ _ (Expr.Call (Expr.Name "text_octets" _) (_ :: _) [] _) _ _ _; (refine ge_call (FnAt.e (x := "text_octets") (by assumption)) (by tm_at "sRoom") (by tm_at "sXok") (Nm.gl (by assumption) (by tm_at "sKd")) ?hdb ?he ?hpl ?_); (case hdb => rfl); (case he => rfl); (case hpl => rfl)))
local macro_rules | `(tactic| tm_at "gECall") => `(tactic| (guard_target = GE _ _ (Expr.Call (Expr.Name "sum_of" _) (_ :: _) [] _) _ _ _; (refine ge_call (FnAt.e (x := "sum_of") (by assumption)) (by tm_at "sRoom") (by tm_at "sXok") (Nm.gl (by assumption) (by tm_at "sKd")) ?hdb ?he ?hpl ?_); (case hdb => rfl); (case he => rfl); (case hpl => rfl)))
local macro_rules | `(tactic| tm_at "gECall") => `(tactic| (guard_target = GE _ _ (Expr.Call (Expr.Name "record_octets" _) (_ :: _) [] _) _ _ _; (refine ge_call (FnAt.e (x := "record_octets") (by assumption)) (by tm_at "sRoom") (by tm_at "sXok") (Nm.gl (by assumption) (by tm_at "sKd")) ?hdb ?he ?hpl ?_); (case hdb => rfl); (case he => rfl); (case hpl => rfl)))
local macro_rules | `(tactic| tm_at "gECall") => `(tactic| (guard_target = GE _ _ (Expr.Call (Expr.Name "batch" _) (_ :: _) [] _) _ _ _; (refine ge_call (FnAt.e (x := "batch") (by assumption)) (by tm_at "sRoom") (by tm_at "sXok") (Nm.gl (by assumption) (by tm_at "sKd")) ?hdb ?he ?hpl ?_); (case hdb => rfl); (case he => rfl); (case hpl => rfl)))
local macro_rules | `(tactic| tm_at "gECall") => `(tactic| (guard_target = GE _ _ (Expr.Call (Expr.Name "read_batch" _) (_ :: _) [] _) _ _ _; (refine ge_call (FnAt.e (x := "read_batch") (by assumption)) (by tm_at "sRoom") (by tm_at "sXok") (Nm.gl (by assumption) (by tm_at "sKd")) ?hdb ?he ?hpl ?_); (case hdb => rfl); (case he => rfl); (case hpl => rfl)))
local macro_rules | `(tactic| tm_at "gECall") => `(tactic| (guard_target = GE _ _ (Expr.Call (Expr.Name "read_all" _) (_ :: _) [] _) _ _ _; (refine ge_call (FnAt.e (x := "read_all") (by assumption)) (by tm_at "sRoom") (by tm_at "sXok") (Nm.gl (by assumption) (by tm_at "sKd")) ?hdb ?he ?hpl ?_); (case hdb => rfl); (case he => rfl); (case hpl => rfl)))
local macro_rules | `(tactic| tm_at "gEMeth") => `(tactic| (guard_target = GE _ _ (Expr.Call (Expr.Attribute _ "octet" _) [] _ _) _ _ _; (refine ge_meth0 (MeAt.e (C := "Reader") (m := "octet") (by assumption)) (by tm_at "sRoom") (by tm_at "sXok") ?ht ?_); (case ht => exact ⟨_, rfl⟩)))
local macro_rules | `(tactic| tm_at "gEMeth") => `(tactic| (guard_target = GE _ _ (Expr.Call (Expr.Attribute _ "whole" _) [] _ _) _ _ _; (refine ge_meth0 (MeAt.e (C := "Reader") (m := "whole") (by assumption)) (by tm_at "sRoom") (by tm_at "sXok") ?ht ?_); (case ht => exact ⟨_, rfl⟩)))
local macro_rules | `(tactic| tm_at "gEMeth") => `(tactic| (guard_target = GE _ _ (Expr.Call (Expr.Attribute _ "text" _) [] _ _) _ _ _; (refine ge_meth0 (MeAt.e (C := "Reader") (m := "text") (by assumption)) (by tm_at "sRoom") (by tm_at "sXok") ?ht ?_); (case ht => exact ⟨_, rfl⟩)))
local macro_rules | `(tactic| tm_at "gECall") => `(tactic| (guard_target = GE _ _ (Expr.Call (Expr.Name "Reader" _) (_ :: _) [] _) _ _ _; (refine ge_make (MkAt.e (C := "Reader") (by assumption)) (by tm_at "sRoom") (by tm_at "sXok") (Nm.gl (by assumption) (by tm_at "sKd")) ?hdb ?he ?hpl ?_); (case hdb => rfl); (case he => rfl); (case hpl => rfl); skip))
local macro_rules | `(tactic| tm_at "gC") => `(tactic| ((guard_target = GC _ _ (Value.builtin "len") [_] _ _); (with_reducible refine gc_lenTl (rv_val (by tm_at "sSel")) ?_)))
local macro_rules | `(tactic| tm_at "gIx") => `(tactic| (with_reducible refine gi_tl (rv_val (by tm_at "sSel")) (by assumption) (fun _ => ?_)))
local macro_rules | `(tactic| tm_at "gF") => `(tactic| first
  | ((guard_target = GIp _ _ Operator.Mult (V.int _) (V.int _) _ _); (with_reducible refine gip_mul ?c ?_); (case c => first | (left; constructor <;> omega) | (right; constructor <;> omega)))
  | ((guard_target = GIp _ _ Operator.FloorDiv (V.int _) (V.int _) _ _); (with_reducible refine gip_div ?c ?_); (case c => constructor <;> omega))
  | ((guard_target = GIp _ _ Operator.Mod (V.int _) (V.int _) _ _); (with_reducible refine gip_mod ?c ?_); (case c => omega)))
local macro_rules | `(tactic| tm_at "g") => `(tactic| ((guard_target = GU _ _ (unaryOp UnaryOp.USub) (V.int _) _ _); (with_reducible refine gu_neg ?_)))
local macro_rules | `(tactic| tm_at "gS") => `(tactic| ((guard_target = GS _ _ (Stmt.Assign [Expr.Tuple [Expr.Name _ _, Expr.Name _ _] _ _] (Expr.Tuple [_, _] _ _) _) _ _ _); (refine gs_par2 (by assumption) (by tm_at "sSlot") (fun _ => by tm_at "sSlot") (by tm_at "sKd") (by tm_at "sKd") ?hne ?hc ?hw ?hs ?_); (case hne => with_unfolding_all rfl); (case hc => rfl); (case hw => rfl); (case hs => rfl)))
local macro_rules | `(tactic| tm_at "gOp") => `(tactic| ((guard_target = GOp _ _ (binaryOp Operator.Pow) (V.int _) (V.int _) _ _); (with_reducible refine go_pow ?c ?_); (case c => refine ⟨?_, ?_, ?_⟩ <;> decide)))
local macro_rules | `(tactic| tm_at "g") => `(tactic| ((guard_target = K2 _ [_, _] _); (with_reducible refine K2.mk ?_)))
local macro_rules | `(tactic| tm_at "gE") => `(tactic| ((guard_target = GE _ _ (Expr.Name "SIGNS" _) _ _ _); (refine ge_glob (v := V.str SIG) (Nm.gl (by assumption) (by tm_at "sKd")) (by assumption) ⟨_, rfl⟩ ?_ ?hd); (case hd => rfl)))
local macro_rules | `(tactic| tm_at "gOp") => `(tactic| ((guard_target = GOp _ _ (compareOp CmpOp.NotIn) (V.str ⟨#[_]⟩) (V.str _) _ _); (with_reducible refine go_ninSign ?_)))
local macro_rules | `(tactic| tm_at "gEMeth") => `(tactic| ((guard_target = GE _ _ (Expr.Call (Expr.Attribute _ "index" _) [_] [] _) _ _ _); (with_reducible refine ge_index ?h1 ?h2 ?h3 ?_); (case h1 => rfl); (case h2 => rfl); (case h3 => rfl)))
local macro_rules | `(tactic| tm_at "gEMeth") => `(tactic| ((guard_target = GE _ _ (Expr.Call (Expr.Attribute _ "join" _) [_] [] _) _ _ _); (with_reducible refine ge_join ?h1 ?h2 ?h3 ?_); (case h1 => rfl); (case h2 => rfl); (case h3 => rfl)))
local macro_rules | `(tactic| tm_at "g") => `(tactic| (first | with_reducible refine ite_nT ?_ | with_reducible refine ite_nnT ?_))
local macro_rules | `(tactic| tm_at "gC") => `(tactic| ((guard_target = GC _ _ (Value.builtin "len") [V.str _] _ _); (refine gc_lenS ?hz ?_); (case hz => rw [sizeLine_eq]; omega)))
local macro_rules | `(tactic| tm_at "gIx") => `(tactic| (with_reducible refine gi_tlS cInt (rv_val (by tm_at "sSel")) (by assumption) ?_))
local macro_rules | `(tactic| tm_at "gF") => `(tactic| ((guard_target = (IsIns _ _ _ _ _ ∧ _)); (with_reducible refine And.intro ?hh ?_); (case hh => exact isIns (by tm_at "sSel") (by tm_at "sNoF") (by rfl))))
theorem sig_occ : ∀ c ∈ SIG.cps.toList, (Builtin.Str.occurrences SIG ⟨#[c]⟩ 0 SIG.length 1).head? = some (SIG.cps.toList.idxOf c) := by decide +kernel
theorem call_no {T : List (Addr × Str)} {Kf : PySem.W.Frag} {n : Int} {L L' : List SA} {K : GK} {kx : KX} (h : foldI n < 2 ^ 91) (e : Ent T L L') (k : ∀ r, K (.ref r) (pt r (.lst ((octI n).map V.int)) :: L')) : spE T (spNO Kf) [.int n] L K kx := CallS.mk ⟨n, rfl, fun _ => k, fun h2 => by omega⟩ e
theorem foldI_lt {n : Int} (h1 : -(2 ^ 60) < n) (h2 : n < 2 ^ 60) : foldI n < 2 ^ 91 := by unfold foldI; split <;> omega
section
variable {T : List (Addr × Str)} {P : Program} {w : World} {Kf : PySem.W.Frag} {mg : Str → Option Value} {base : Heap} {f : Addr} {fd : FuncData}
def spTO : SpL := fun vs L K kx => ∃ t : Option Str, vs = [vOpt t] ∧ goodT t ∧ ∀ r, K (.ref r) (pt r (.lst ((txtO t).map V.int)) :: L)
theorem ok_to (fx : Fx Kf mg) (br : ExiAt P w Kf mg base 1 "BadRecord" ["place"]) (hno : FnAt T P w Kf mg base 3 "number_octets" (spNO Kf)) (F : FunD Kf "text_octets" "text_octets" (defArgs s_text_octets) (defBody s_text_octets) (defScope s_text_octets) [] [] f fd) :
    FnOk P w Kf mg base (L2.CX P w) 4 f fd ["text"] (spOf T spTO) := by
  refine def_in F sc_text_octets (fun vs L K kx h => ?_) (fun A outer s H E hr n vs L KK kx h hx σ hσ => ?_)
  · obtain ⟨m, rfl, _⟩ := h; rfl
  · obtain ⟨t, rfl, gt, k⟩ := h
    obtain rfl : σ = [some (vOpt t), none, none] := hσ
    obtain ⟨h_int, h_len, h_range, h_tuple, h_abs, ⟨_, h_SG⟩, cR, n1, n2⟩ := fx
    refine gss_cons ?_
    cases t with
    | none =>
      show GS T _ _ _ [some V.non, none, none] L
      tm_at "go"
      refine call_no (by decide) Ent.refl fun r => ?_
      tm_at "go"
      exact Clo.id (k r)
    | some z =>
      show GS T _ _ _ [some (V.str z), none, none] L
      obtain ⟨hz, hg⟩ := gt
      tm_at "go"
      refine call_no (foldI_lt (by omega) (by omega)) Ent.refl fun p => ?_
      tm_at "go"
      refine gs_forSx (passes_of rfl) rfl (fun _ => rfl) ?_
      tm_at "go"
      refine ⟨z, fun i σ' L' => ∃ o, σ' = [some (.str z), some (.ref p), o] ∧ L' = pt p (.lst ((octI (z.length : Nat) ++ (z.cps.toList.take i).map sgI).map V.int)) :: L, rfl, ?_, ?_, ?_⟩
      · tm_at "fits"
        · exact ⟨_, rfl, rfl⟩
        · rw [List.take_zero, List.map_nil, List.append_nil]; tm_at "ent"
      · rintro i c σ' L' hc ⟨o, rfl, rfl⟩
        have hc' : z.cps.toList[i]? = some c := by rw [Array.getElem?_toList]; exact hc
        have hm := hg c (List.mem_of_getElem? hc')
        tm_at "go"
        rw [decide_eq_true hm]
        tm_at "go"
        have ho := sig_occ c hm
        obtain ⟨rest, ho⟩ : ∃ rest, Builtin.Str.occurrences SIG ⟨#[c]⟩ 0 SIG.length 1 = SIG.cps.toList.idxOf c :: rest := by
          cases hh : Builtin.Str.occurrences SIG ⟨#[c]⟩ 0 SIG.length 1 with
          | nil => rw [hh] at ho; cases ho
          | cons a l => rw [hh] at ho; cases ho; exact ⟨l, rfl⟩
        refine ⟨_, _, rest, rfl, ho, ?_⟩
        refine gapp_pt (by tm_at "sRpl") ?_ ?_
        · have := octI_len (n := (z.length : Nat)) (foldI_lt (by omega) (by omega))
          rw [List.length_map, List.length_append, List.length_map, List.length_take, sizeLine_eq]
          have : z.cps.toList.length = z.length := Array.length_toList
          omega
        tm_at "go"
        tm_at "fits"
        · exact ⟨_, rfl, rfl⟩
        · rw [List.take_add_one, hc']
          simp only [List.map_append, ← List.append_assoc, Option.toList, List.map_cons, List.map_nil]
          tm_at "ent"
      · rintro σ' L' ⟨o, rfl, rfl⟩
        tm_at "go"
        refine Clo.id ?_
        have : z.cps.toList.take z.cps.size = z.cps.toList := List.take_of_length_le (by simp)
        rw [this]
        exact k p
/-! ### record_octets -/
/-- numbers and texts of the law's size -/
structure GoodR (r : Rec) : Prop where
  m : -(2 ^ 58) < r.1 ∧ r.1 < 2 ^ 58
  t : -(2 ^ 58) < r.2.1 ∧ r.2.1 < 2 ^ 58
  k : goodT r.2.2.1
  v : goodT r.2.2.2
theorem txtO_len {t : Option Str} (h : goodT t) : (txtO t).length ≤ 1013 := by
  cases t with
  | none => exact Nat.le_trans (octI_len (n := -1) (by decide)) (by decide)
  | some z =>
    obtain ⟨h, _⟩ := h
    have := octI_len (n := (z.length : Nat)) (foldI_lt (by omega) (by omega))
    have h2 : z.cps.toList.length = z.length := Array.length_toList
    simp only [txtO, List.length_append, List.length_map]
    omega
theorem recO_len {r : Rec} {b t : Int} (g : GoodR r) (hb : -(2 ^ 58) < b ∧ b < 2 ^ 58) (ht : -(2 ^ 58) < t ∧ t < 2 ^ 58) : (recO r b t).length ≤ 2052 := by
  have h1 := octI_len (n := r.1 - b) (foldI_lt (by have := g.m; omega) (by have := g.m; omega))
  have h2 := octI_len (n := r.2.1 - t) (foldI_lt (by have := g.t; omega) (by have := g.t; omega))
  have h3 := txtO_len g.k
  have h4 := txtO_len g.v
  simp only [recO, List.length_append]
  omega
def spRO : SpL := fun vs L K kx => ∃ (x : V) (r : Rec) (b t : Int) (R : List SA), vs = [x, .int b, .int t] ∧ L = Val rRec x r :: R ∧ GoodR r ∧ (-(2 ^ 58) < b ∧ b < 2 ^ 58) ∧ (-(2 ^ 58) < t ∧ t < 2 ^ 58) ∧ ∀ p, K (.ref p) (pt p (.lst ((recO r b t).map V.int)) :: R)
theorem call_to {T : List (Addr × Str)} {t : Option Str} {L L' : List SA} {K : GK} {kx : KX} (h : goodT t) (e : Ent T L L') (k : ∀ r, K (.ref r) (pt r (.lst ((txtO t).map V.int)) :: L')) : spE T spTO [vOpt t] L K kx := CallS.mk ⟨t, rfl, h, k⟩ e
theorem ok_ro (hno : FnAt T P w Kf mg base 3 "number_octets" (spNO Kf)) (hto : FnAt T P w Kf mg base 4 "text_octets" spTO) (F : FunD Kf "record_octets" "record_octets" (defArgs s_record_octets) (defBody s_record_octets) (defScope s_record_octets) [] [] f fd) :
    FnOk P w Kf mg base (L2.CX P w) 5 f fd ["record", "base", "time"] (spOf T spRO) := by
  refine def_in F sc_record_octets (fun vs L K kx h => ?_) (fun A outer s H E hr n vs L KK kx h hx σ hσ => ?_)
  · obtain ⟨x, r, b, t, R, rfl, _⟩ := h; rfl
  · obtain ⟨x, ⟨m, a, ke, va⟩, b, t, R, rfl, rfl, g, hb, ht, k⟩ := h
    obtain rfl : σ = [some x, some (.int b), some (.int t), none, none, none, none] := hσ
    refine gss_cons ?_
    tm_at "go"
    refine gg_quad cInt cInt cOpt cOpt (rv_val .here) rfl rfl rfl fun _ _ _ _ => ?_
    tm_at "go"
    obtain ⟨gm, gt, gk, gv⟩ := g
    simp only at gm gt gk gv
    have hl1 := octI_len (n := m - b) (foldI_lt (by omega) (by omega))
    have hl2 := octI_len (n := a - t) (foldI_lt (by omega) (by omega))
    have hl3 := txtO_len gk
    have hl4 := txtO_len gv
    refine call_no (foldI_lt (by omega) (by omega)) Ent.refl fun p1 => ?_
    tm_at "go"
    refine call_no (n := a - t) (foldI_lt (by omega) (by omega)) Ent.refl fun p2 => ?_
    tm_at "go"
    refine go_catL (xs := (octI (m - b)).map V.int) (ys := (octI (a - t)).map V.int) (by tm_at "sSel") (by tm_at "sSel") (by simp only [List.length_map, sizeLine_eq]; omega) fun p3 => ?_
    tm_at "go"
    refine call_to gk Ent.refl fun p4 => ?_
    tm_at "go"
    refine go_catL (xs := (octI (m - b)).map V.int ++ (octI (a - t)).map V.int) (ys := (txtO ke).map V.int) (by tm_at "sSel") (by tm_at "sSel") (by simp only [List.length_append, List.length_map, sizeLine_eq]; omega) fun p5 => ?_
    tm_at "go"
    refine call_to gv Ent.refl fun p6 => ?_
    tm_at "go"
    refine go_catL (xs := (octI (m - b)).map V.int ++ (octI (a - t)).map V.int ++ (txtO ke).map V.int) (ys := (txtO va).map V.int) (by tm_at "sSel") (by tm_at "sSel") (by simp only [List.length_append, List.length_map, sizeLine_eq]; omega) fun p7 => ?_
    apply Clo.mk (k p7)
    rw [recO]
    simp only [List.map_append]
    tm_at "ent"
/-! ### batch -/
def bodyO (b t : Int) (rs all : List Rec) : List Int := octI b ++ octI t ++ octI (all.length : Nat) ++ rs.flatMap fun r => recO r b t
def headB : List Rec → Int × Int
  | [] => (0, 0)
  | r :: _ => (r.1, r.2.1)
def batB (rs : List Rec) : List Int := bodyO (headB rs).1 (headB rs).2 rs rs
def batO (rs : List Rec) : List Int := octI ((octI (sumL (batB rs))).length + (batB rs).length : Nat) ++ octI (sumL (batB rs)) ++ batB rs
def spBat (Kf : PySem.W.Frag) : SpL := fun vs L K kx => ∃ (v : V) (rs : List Rec) (R : List SA), vs = [v] ∧ L = Val (rTl rRec) v rs :: R ∧ (rs = [] → ∀ d, kx (BR Kf) (some d) R) ∧ (rs ≠ [] → rs.length ≤ 100 ∧ (∀ r ∈ rs, GoodR r) ∧ ∀ p, K p (Val (rTl rInt) p (batO rs) :: Val (rTl rRec) v rs :: R))
theorem sumP_lt (ds : List Int) : 0 ≤ (sumP ds).1 ∧ (sumP ds).1 < 65521 ∧ 0 ≤ (sumP ds).2 ∧ (sumP ds).2 < 65521 := by
  have key : ∀ n, 0 ≤ (sumP (ds.take n)).1 ∧ (sumP (ds.take n)).1 < 65521 ∧ 0 ≤ (sumP (ds.take n)).2 ∧ (sumP (ds.take n)).2 < 65521 := by
    intro n
    induction n with
    | zero => rw [List.take_zero]; decide
    | succ n ih =>
      cases h : ds[n]? with
      | none => rw [List.take_add_one, h]; simpa using ih
      | some d => rw [sumP_succ h]; refine ⟨Int.emod_nonneg _ (by decide), Int.emod_lt_of_pos _ (by decide), Int.emod_nonneg _ (by decide), Int.emod_lt_of_pos _ (by decide)⟩
  have := key ds.length
  rwa [List.take_length] at this
theorem sumL_lt (ds : List Int) : 0 ≤ sumL ds ∧ sumL ds < 2 ^ 33 := by
  obtain ⟨h1, h2, h3, h4⟩ := sumP_lt ds
  unfold sumL
  omega
theorem call_ro {T : List (Addr × Str)} {x : V} {r : Rec} {b t : Int} {L R : List SA} {K : GK} {kx : KX} (g : GoodR r) (hb : -(2 ^ 58) < b ∧ b < 2 ^ 58) (ht : -(2 ^ 58) < t ∧ t < 2 ^ 58) (e : Ent T L (Val rRec x r :: R)) (k : ∀ p, K (.ref p) (pt p (.lst ((recO r b t).map V.int)) :: R)) : spE T spRO [x, .int b, .int t] L K kx :=
  CallS.mk ⟨x, r, b, t, R, rfl, rfl, g, hb, ht, k⟩ e
theorem ok_bat (fx : Fx Kf mg) (br : ExiAt P w Kf mg base 1 "BadRecord" ["place"]) (hno : FnAt T P w Kf mg base 3 "number_octets" (spNO Kf)) (hro : FnAt T P w Kf mg base 5 "record_octets" spRO) (hsu : FnAt T P w Kf mg base 1 "sum_of" spSum) (F : FunD Kf "batch" "batch" (defArgs s_batch) (defBody s_batch) (defScope s_batch) [] [] f fd) :
    FnOk P w Kf mg base (L2.CX P w) 6 f fd ["records"] (spOf T (spBat Kf)) := by
  refine def_in F sc_batch (fun vs L K kx h => ?_) (fun A outer s H E hr n vs L KK kx h hx σ hσ => ?_)
  · obtain ⟨v, rs, R, rfl, _⟩ := h; rfl
  · obtain ⟨v, rs, R, rfl, rfl, k1, k2⟩ := h
    obtain rfl : σ = [some v, none, none, none, none, none] := hσ
    obtain ⟨h_int, h_len, h_range, h_tuple, h_abs, ⟨_, h_SG⟩, cR, n1, n2⟩ := fx
    refine gss_cons ?_
    tm_at "go"
    refine go_eqE hr (sees_rv (rv_val (by tm_at "sSel")) (by decide)) (sees_nilT (by tm_at "sSel")) (eqv_nilT rs) ?_
    tm_at "go"
    tm_at "if"
    · rename_i he
      tm_at "go"
      refine gs_raiseI n (by tm_at "sKd") rfl br (by tm_at "sRoom") hx rfl rfl rfl ?_
      tm_at "go"
      refine ⟨rfl, Nat.le_of_ble_eq_true rfl, fun d => ?_⟩
      apply Clo.mk (k1 he d)
      tm_at "ent"
    · rename_i he
      obtain ⟨hlen, hg, k⟩ := k2 he
      obtain ⟨⟨b, t, ke, va⟩, rs', rfl⟩ : ∃ r rs', rs = r :: rs' := by
        cases rs with
        | nil => exact absurd rfl he
        | cons r rs' => exact ⟨r, rs', rfl⟩
      have g0 := hg (b, t, ke, va) (List.mem_cons_self)
      tm_at "go"
      refine gi_tl (n := 0) (rv_val (by tm_at "sSel")) rfl fun x => ?_
      tm_at "go"
      refine gi_quad (u := .int b) cInt cInt cOpt cOpt (rv_val .here) rfl ?_
      tm_at "go"
      refine gi_tl (n := 0) (rv_val (by tm_at "sSel")) rfl fun x => ?_
      tm_at "go"
      refine gi_quad (u := .int t) cInt cInt cOpt cOpt (rv_val .here) rfl ?_
      tm_at "go"
      obtain ⟨gm, gt, gk, gv⟩ := g0
      simp only at gm gt gk gv
      generalize hrs : (b, t, ke, va) :: rs' = rs at *
      have hl1 := octI_len (n := b) (foldI_lt (by omega) (by omega))
      have hl2 := octI_len (n := t) (foldI_lt (by omega) (by omega))
      have hl3 := octI_len (n := (rs.length : Nat)) (foldI_lt (by omega) (by omega))
      refine call_no (foldI_lt (by omega) (by omega)) Ent.refl fun p1 => ?_
      tm_at "go"
      refine call_no (n := t) (foldI_lt (by omega) (by omega)) Ent.refl fun p2 => ?_
      tm_at "go"
      refine go_catL (xs := (octI b).map V.int) (ys := (octI t).map V.int) (by tm_at "sSel") (by tm_at "sSel") (by simp only [List.length_map, sizeLine_eq]; omega) fun p3 => ?_
      tm_at "go"
      refine call_no (n := (rs.length : Nat)) (foldI_lt (by omega) (by omega)) Ent.refl fun p4 => ?_
      tm_at "go"
      refine go_catL (xs := (octI b).map V.int ++ (octI t).map V.int) (ys := (octI (rs.length : Nat)).map V.int) (by tm_at "sSel") (by tm_at "sSel") (by simp only [List.length_append, List.length_map, sizeLine_eq]; omega) fun p5 => ?_
      tm_at "go"
      have bl : ∀ i, i ≤ rs.length → (bodyO b t (rs.take i) rs).length ≤ 39 + 2052 * i := by
        intro i hi
        have h1 : ∀ l : List Rec, (∀ r ∈ l, GoodR r) → (l.flatMap fun r => recO r b t).length ≤ 2052 * l.length := by
          intro l hl
          induction l with
          | nil => exact Nat.zero_le _
          | cons r l ih =>
            have := ih fun r hr => hl r (List.mem_cons_of_mem _ hr)
            have := recO_len (b := b) (t := t) (hl r List.mem_cons_self) gm gt
            simp only [List.flatMap_cons, List.length_append, List.length_cons]
            omega
        have h2 := h1 (rs.take i) fun r hr => hg r (List.mem_of_mem_take hr)
        rw [List.length_take, Nat.min_eq_left hi] at h2
        simp only [bodyO, List.length_append]
        omega
      have e0 : (octI b).map V.int ++ (octI t).map V.int ++ (octI (rs.length : Nat)).map V.int = (bodyO b t (rs.take 0) rs).map V.int := by simp [bodyO]
      rw [e0]
      refine GS.ent (L' := pt p5 (.lst ((bodyO b t (rs.take 0) rs).map V.int)) :: Val (rTl rRec) v rs :: R) (by tm_at "ent") ?_
      refine gs_forT (fun i σ' L' => ∃ o, σ' = [some v, some (.int b), some (.int t), some (.ref p5), o, none] ∧ L' = pt p5 (.lst ((bodyO b t (rs.take i) rs).map V.int)) :: Val (rTl rRec) v rs :: R) v rRec rs (passes_of rfl) rfl (fun _ => rfl) ?_ ?_ ?_ ?_
      · tm_at "go"
        exact ⟨rfl, _, rfl, rfl⟩
      · rintro i σ' L' ⟨o, rfl, rfl⟩
        exact rv_val (by tm_at "sSel")
      · rintro i d x σ' L' hd ⟨o, rfl, rfl⟩
        have hi : i < rs.length := by
          by_cases c : i < rs.length
          · exact c
          · rw [List.getElem?_eq_none (by omega)] at hd; cases hd
        have gd := hg d (List.mem_of_getElem? hd)
        tm_at "go"
        refine call_ro gd gm gt (by tm_at "ent") fun q => ?_
        tm_at "go"
        refine gext_pt (by tm_at "sSel") (by tm_at "sRpl") ?_ ?_
        · have := bl i (by omega)
          have := recO_len (b := b) (t := t) gd gm gt
          simp only [List.length_map, sizeLine_eq]
          omega
        tm_at "go"
        tm_at "fits"
        · exact ⟨_, rfl, rfl⟩
        · have e : bodyO b t (rs.take (i + 1)) rs = bodyO b t (rs.take i) rs ++ recO d b t := by
            rw [List.take_add_one, hd]; simp [bodyO, List.flatMap_append]
          rw [e, List.map_append]
          tm_at "ent"
      · rintro σ' L' ⟨o, rfl, rfl⟩
        have hb := bl rs.length (Nat.le_refl _)
        rw [List.take_length] at hb
        rw [List.take_length]
        have ebt : bodyO b t rs rs = batB rs := by rw [batB, ← hrs]; rfl
        rw [ebt] at hb
        rw [ebt]
        tm_at "go"
        refine CallS.mk ⟨.ref p5, batB rs, Val (rTl rRec) v rs :: R, rfl, .inl ⟨p5, rfl, rfl⟩, ?_⟩ Ent.refl
        have hs := sumL_lt (batB rs)
        have hsl := octI_len (n := sumL (batB rs)) (foldI_lt (by omega) (by omega))
        have hll := octI_len (n := (((octI (sumL (batB rs))).length : Nat) : Int) + (((batB rs).length : Nat) : Int)) (foldI_lt (by omega) (by omega))
        tm_at "go"
        refine call_no (n := sumL (batB rs)) (foldI_lt (by omega) (by omega)) Ent.refl fun p6 => ?_
        tm_at "go"
        rw [List.length_map, List.length_map]
        refine call_no (n := (((octI (sumL (batB rs))).length : Nat) : Int) + (((batB rs).length : Nat) : Int)) (foldI_lt (by omega) (by omega)) Ent.refl fun p7 => ?_
        tm_at "go"
        refine go_catL (ys := (octI (sumL (batB rs))).map V.int) (by tm_at "sSel") (by tm_at "sSel") (by simp only [List.length_map, sizeLine_eq]; omega) fun p8 => ?_
        tm_at "go"
        refine go_catL (ys := (batB rs).map V.int) (by tm_at "sSel") (by tm_at "sSel") (by simp only [List.length_append, List.length_map, sizeLine_eq]; omega) fun p9 => ?_
        tm_at "go"
        have e9 : (octI (((octI (sumL (batB rs))).length : Nat) + ((batB rs).length : Nat) : Int)).map V.int ++ (octI (sumL (batB rs))).map V.int ++ (batB rs).map V.int = (batO rs).map V.int := by
          rw [batO, List.map_append, List.map_append]; push_cast; rfl
        rw [e9]
        refine GC.ent (L' := LstR rInt p9 (batO rs) :: Val (rTl rRec) v rs :: R) ?_ (gc_tupleR (by tm_at "sSel") fun q => ?_)
        · apply Fit.ent
          exact Fit.cons .here (Cv.scal cInt fun _ _ => True.intro) (by tm_at "fit")
        · apply Clo.mk (k q)
          tm_at "ent"
end
end K01
set_option Elab.async false
set_option linter.all false
set_option maxRecDepth 100000
set_option maxHeartbeats 1600000
set_option pp.deepTerms false
set_option pp.deepTerms.threshold 10
set_option pp.maxSteps 500
namespace K01
open PySem PySem.Spec L2 SW
open PyProof.Rows hiding St
local macro_rules | `(tactic| tm_at "sAt") => `(tactic| with_reducible (first | exact At.here | (apply At.there; tm_at "sAt")))
local macro_rules | `(tactic| tm_at "sSlot") => `(tactic| with_reducible (first | exact Slot.here | (apply Slot.there; tm_at "sSlot")))
local macro_rules | `(tactic| tm_at "sKd") => `(tactic| with_reducible (first | exact Kd.here | (apply Kd.there; tm_at "sKd")))
local macro_rules | `(tactic| tm_at "sSel") => `(tactic| with_reducible (first | exact Sel.here | (apply Sel.there; tm_at "sSel")))
local macro_rules | `(tactic| tm_at "sRpl") => `(tactic| with_reducible (first | exact Rpl.here | (apply Rpl.there; tm_at "sRpl")))
local macro_rules | `(tactic| tm_at "sTk") => `(tactic| (first | exact Tk.nil | (apply Tk.cons; (tm_at "sSel"); (tm_at "sTk"))))
local macro_rules | `(tactic| tm_at "sVk") => `(tactic| first
  | exact Vk.l
  | exact Vk.c
  | exact Vk.f)
local macro_rules | `(tactic| tm_at "sLk") => `(tactic| first
  | exact Lk.l
  | exact Lk.c)
local macro_rules | `(tactic| tm_at "sLf") => `(tactic| first
  | exact Or.inl rfl
  | exact Or.inr rfl)
local macro_rules | `(tactic| tm_at "sRoom") => `(tactic| first
  | assumption
  | exact L2.Room.mono (by assumption) (by decide))
local macro_rules | `(tactic| tm_at "sXok") => `(tactic| first
  | assumption
  | exact xok0)
local macro_rules | `(tactic| tm_at "sCv") => `(tactic| (first | with_reducible exact Cv.id | with_reducible exact Cv.lst0 | ((with_reducible refine Cv.pt ?_); tm_at "sEq") | ((with_reducible refine Cv.lst ?_); tm_at "sEq") | ((with_reducible refine Cv.val ?_); tm_at "sEq")))
local macro_rules | `(tactic| tm_at "sEq") => `(tactic| (first | rfl | assumption | (simp; done)))
local macro_rules | `(tactic| tm_at "sSelC") => `(tactic| (first | ((with_reducible apply SelC.here); tm_at "sCv") | ((with_reducible apply SelC.there); tm_at "sSelC")))
local macro_rules | `(tactic| tm_at "fit") => `(tactic| (first | with_reducible exact Fit.refl | with_reducible exact Fit.nil | ((with_reducible apply Fit.find); (case s => tm_at "sSelC"); (case t => tm_at "fit")) | ((with_reducible apply Fit.drop); tm_at "fit")))
local macro_rules | `(tactic| tm_at "sLkF") => `(tactic| with_reducible (first | exact LkF.here | (apply LkF.there (by with_unfolding_all rfl); tm_at "sLkF")))
local macro_rules | `(tactic| tm_at "sNoF") => `(tactic| with_reducible (first | exact NoF.nil | (apply NoF.cons (by with_unfolding_all rfl); tm_at "sNoF")))
local macro_rules | `(tactic| tm_at "sPutF") => `(tactic| with_reducible (first | exact PutF.here | exact PutF.nil | (apply PutF.there (by with_unfolding_all rfl); tm_at "sPutF")))
local macro_rules | `(tactic| tm_at "sHasL") => `(tactic| (first | exact hasL_pt (by tm_at "sSel") | exact hasL_R (by tm_at "sSel")))
local macro_rules | `(tactic| tm_at "sZ") => `(tactic| (first | assumption | (simp only [List.length_cons, List.length_nil, List.length_append, PySem.sizeLine_eq]; omega) | (rw [PySem.sizeLine_eq]; simp; done)))
local macro_rules | `(tactic| tm_at "sIx") => `(tactic| with_unfolding_all rfl)
local macro_rules | `(tactic| tm_at "sSet") => `(tactic| (first | exact SetR.here | (apply SetR.there; tm_at "sSet")))
local macro_rules | `(tactic| tm_at "sPut") => `(tactic| first
  | exact PutAt.c 0 (by with_unfolding_all rfl) (by tm_at "sSet")
  | exact PutAt.c 1 (by with_unfolding_all rfl) (by tm_at "sSet")
  | exact PutAt.c 2 (by with_unfolding_all rfl) (by tm_at "sSet")
  | exact PutAt.c 3 (by with_unfolding_all rfl) (by tm_at "sSet")
  | exact PutAt.c 4 (by with_unfolding_all rfl) (by tm_at "sSet")
  | exact PutAt.c 5 (by with_unfolding_all rfl) (by tm_at "sSet"))
local macro_rules | `(tactic| tm_at "gECall") => `(tactic| first
  | ((guard_target = GE _ _ (Expr.Call (Expr.Name "len" _) _ _ _) _ _ _); (with_reducible refine gb_len (by assumption) (by tm_at "sKd") ?hm ?he ?hpl ?_); (case hm => assumption); (case he => rfl); (case hpl => rfl))
  | ((guard_target = GE _ _ (Expr.Call (Expr.Name "int" _) _ _ _) _ _ _); (with_reducible refine gb_int (by assumption) (by tm_at "sKd") ?hm ?he ?hpl ?_); (case hm => assumption); (case he => rfl); (case hpl => rfl))
  | ((guard_target = GE _ _ (Expr.Call (Expr.Name "str" _) _ _ _) _ _ _); (with_reducible refine gb_str (by assumption) (by tm_at "sKd") ?hm ?he ?hpl ?_); (case hm => assumption); (case he => rfl); (case hpl => rfl))
  | ((guard_target = GE _ _ (Expr.Call (Expr.Name "list" _) _ _ _) _ _ _); (with_reducible refine gb_list (by assumption) (by tm_at "sKd") ?hm ?he ?hpl ?_); (case hm => assumption); (case he => rfl); (case hpl => rfl))
  | ((guard_target = GE _ _ (Expr.Call (Expr.Name "tuple" _) _ _ _) _ _ _); (with_reducible refine gb_tuple (by assumption) (by tm_at "sKd") ?hm ?he ?hpl ?_); (case hm => assumption); (case he => rfl); (case hpl => rfl))
  | ((guard_target = GE _ _ (Expr.Call (Expr.Name "min" _) _ _ _) _ _ _); (with_reducible refine gb_min (by assumption) (by tm_at "sKd") ?hm ?he ?hpl ?_); (case hm => assumption); (case he => rfl); (case hpl => rfl))
  | ((guard_target = GE _ _ (Expr.Call (Expr.Name "max" _) _ _ _) _ _ _); (with_reducible refine gb_max (by assumption) (by tm_at "sKd") ?hm ?he ?hpl ?_); (case hm => assumption); (case he => rfl); (case hpl => rfl))
  | ((guard_target = GE _ _ (Expr.Call (Expr.Name "sum" _) _ _ _) _ _ _); (with_reducible refine gb_sum (by assumption) (by tm_at "sKd") ?hm ?he ?hpl ?_); (case hm => assumption); (case he => rfl); (case hpl => rfl))
  | ((guard_target = GE _ _ (Expr.Call (Expr.Name "sorted" _) _ _ _) _ _ _); (with_reducible refine gb_sorted (by assumption) (by tm_at "sKd") ?hm ?he ?hpl ?_); (case hm => assumption); (case he => rfl); (case hpl => rfl))
  | ((guard_target = GE _ _ (Expr.Call (Expr.Name "abs" _) _ _ _) _ _ _); (with_reducible refine gb_abs (by assumption) (by tm_at "sKd") ?hm ?he ?hpl ?_); (case hm => assumption); (case he => rfl); (case hpl => rfl))
  | ((guard_target = GE _ _ (Expr.Call (Expr.Name "range" _) _ _ _) _ _ _); (with_reducible refine gb_range (by assumption) (by tm_at "sKd") ?hm ?he ?hpl ?_); (case hm => assumption); (case he => rfl); (case hpl => rfl))
  | ((guard_target = GE _ _ (Expr.Call (Expr.Name "any" _) _ _ _) _ _ _); (with_reducible refine gb_any (by assumption) (by tm_at "sKd") ?hm ?he ?hpl ?_); (case hm => assumption); (case he => rfl); (case hpl => rfl))
  | ((guard_target = GE _ _ (Expr.Call (Expr.Name "all" _) _ _ _) _ _ _); (with_reducible refine gb_all (by assumption) (by tm_at "sKd") ?hm ?he ?hpl ?_); (case hm => assumption); (case he => rfl); (case hpl => rfl))
  | ((guard_target = GE _ _ (Expr.Call (Expr.Name "dict" _) _ _ _) _ _ _); (with_reducible refine gb_dict (by assumption) (by tm_at "sKd") ?hm ?he ?hpl ?_); (case hm => assumption); (case he => rfl); (case hpl => rfl))
  | ((guard_target = GE _ _ (Expr.Call (Expr.Name "set" _) _ _ _) _ _ _); (with_reducible refine gb_set (by assumption) (by tm_at "sKd") ?hm ?he ?hpl ?_); (case hm => assumption); (case he => rfl); (case hpl => rfl)))
local macro_rules | `(tactic| tm_at "gECall") => `(tactic| (guard_target = GE _ _ (Expr.Call (Expr.Name "_law_roll" _) (_ :: _) [] _) _ _ _; (refine ge_call (FnAt.e (x := "_law_roll") (by assumption)) (by tm_at "sRoom") (by tm_at "sXok") (Nm.gl (by assumption) (by tm_at "sKd")) ?hdb ?he ?hpl ?_); (case hdb => rfl); (case he => rfl); (case hpl => rfl)))
local macro_rules | `(tactic| tm_at "gECall") => `(tactic| (guard_target = GE _ _ (Expr.Call (Expr.Name "_law_dice" _) (_ :: _) [] _) _ _ _; (refine ge_call (FnAt.e (x := "_law_dice") (by assumption)) (by tm_at "sRoom") (by tm_at "sXok") (Nm.gl (by assumption) (by tm_at "sKd")) ?hdb ?he ?hpl ?_); (case hdb => rfl); (case he => rfl); (case hpl => rfl)))
local macro_rules | `(tactic| tm_at "gECall") => `(tactic| (guard_target = GE _ _ (Expr.Call (Expr.Name "_law_rounds" _) (_ :: _) [] _) _ _ _; (refine ge_call (FnAt.e (x := "_law_rounds") (by assumption)) (by tm_at "sRoom") (by tm_at "sXok") (Nm.gl (by assumption) (by tm_at "sKd")) ?hdb ?he ?hpl ?_); (case hdb => rfl); (case he => rfl); (case hpl => rfl)))
local macro_rules | `(tactic| tm_at "gECall") => `(tactic| (guard_target = GE _ _ (Expr.Call (Expr.Name "_law_deed" _) (_ :: _) [] _) _ _ _; (refine ge_call (FnAt.e (x := "_law_deed") (by assumption)) (by tm_at "sRoom") (by tm_at "sXok") (Nm.gl (by assumption) (by tm_at "sKd")) ?hdb ?he ?hpl ?_); (case hdb => rfl); (case he => rfl); (case hpl => rfl)))
local macro_rules | `(tactic| tm_at "gE") => `(tactic| first
  | ((guard_target = GE _ _ (Expr.Name _ _) _ _ _); (with_reducible refine ge_name (by assumption) (by tm_at "sAt") (by tm_at "sKd") (by tm_at "sVk") rfl ?_))
  | ((guard_target = GE _ _ (Expr.Constant (Const.int _) _ _) _ _ _); (with_reducible refine ge_int ?_))
  | ((guard_target = GE _ _ (Expr.Attribute _ _ _) _ _ _); (with_reducible refine ge_fld ?hb ?_); (case hb => rfl))
  | ((guard_target = GE _ _ (Expr.Subscript _ (Expr.Slice _ _ none _) _) _ _ _); (with_reducible refine ge_slice ?_))
  | ((guard_target = GE _ _ (Expr.Call (Expr.Attribute _ _ _) _ _ _) _ _ _); tm_at "gEMeth")
  | ((guard_target = GE _ _ (Expr.Subscript _ _ _) _ _ _); (with_reducible refine ge_sub ?hs ?_); (case hs => exact fun _ _ => rfl))
  | ((guard_target = GE _ _ (Expr.BinOp _ _ _ _) _ _ _); (with_reducible refine ge_bin ?_))
  | ((guard_target = GE _ _ (Expr.Constant (Const.str _) _ _) _ _ _); (with_reducible refine ge_str ?_))
  | ((guard_target = GE _ _ (Expr.Call (Expr.Name _ _) _ _ _) _ _ _); tm_at "gECall")
  | ((guard_target = GE _ _ (Expr.List _ _) _ _ _); (with_reducible refine ge_lst ?_))
  | ((guard_target = GE _ _ (Expr.Tuple _ _ _) _ _ _); (with_reducible refine ge_tup ?_))
  | ((guard_target = GE _ _ (Expr.Constant Const.none _ _) _ _ _); (with_reducible refine ge_none ?_))
  | ((guard_target = GE _ _ (Expr.Constant (Const.bool _) _ _) _ _ _); (with_reducible refine ge_bl ?_))
  | ((guard_target = GE _ _ (Expr.Compare _ [_] [_] _) _ _ _); (with_reducible refine ge_cmp ?hm ?_); (case hm => first | exact nomark _ | rfl))
  | ((guard_target = GE _ _ (Expr.UnaryOp UnaryOp.Not _ _) _ _ _); (with_reducible refine ge_not ?_))
  | ((guard_target = GE _ _ (Expr.UnaryOp _ _ _) _ _ _); (with_reducible refine ge_un ?_))
  | ((guard_target = GE _ _ (Expr.IfExp _ _ _ _) _ _ _); (with_reducible refine ge_if ?_))
  | ((guard_target = GE _ _ (Expr.Compare _ [_, _] [_, _] _) _ _ _); (with_reducible refine ge_chain ?hm ?_); (case hm => with_unfolding_all rfl))
  | ((guard_target = GE _ _ (Expr.BoolOp _ [_] _) _ _ _); (with_reducible refine ge_one ?_))
  | ((guard_target = GE _ _ (Expr.BoolOp BoolOp.And _ _) _ _ _); (with_reducible refine ge_and ?_))
  | ((guard_target = GE _ _ (Expr.BoolOp BoolOp.Or _ _) _ _ _); (with_reducible refine ge_or ?_)))
local macro_rules | `(tactic| tm_at "gEMeth") => `(tactic| first
  | ((guard_target = GE _ _ (Expr.Call (Expr.Attribute _ "append" _) [_] [] _) _ _ _); (with_reducible refine ge_append ?h1 ?h2 ?h3 ?h4 ?h5 ?_); (case h1 => rfl); (case h2 => rfl); (case h3 => rfl); (case h4 => rfl); (case h5 => rfl))
  | ((guard_target = GE _ _ (Expr.Call (Expr.Attribute _ "extend" _) [_] [] _) _ _ _); (with_reducible refine ge_extend ?h1 ?h2 ?h3 ?h4 ?h5 ?_); (case h1 => rfl); (case h2 => rfl); (case h3 => rfl); (case h4 => rfl); (case h5 => rfl))
  | ((guard_target = GE _ _ (Expr.Call (Expr.Attribute _ "remove" _) [_] [] _) _ _ _); (with_reducible refine ge_remove ?h1 ?h2 ?h3 ?h4 ?h5 ?_); (case h1 => rfl); (case h2 => rfl); (case h3 => rfl); (case h4 => rfl); (case h5 => rfl))
  | ((guard_target = GE _ _ (Expr.Call (Expr.Attribute _ "pop" _) [_] [] _) _ _ _); (with_reducible refine ge_popAt ?h1 ?h2 ?h3 ?h4 ?h5 ?_); (case h1 => rfl); (case h2 => rfl); (case h3 => rfl); (case h4 => rfl); (case h5 => rfl)))
local macro_rules | `(tactic| tm_at "gT") => `(tactic| first
  | ((guard_target = GT _ _ (Expr.Compare _ [_] [_] _) _ _ _); (with_reducible refine gt_cmp ?hm ?_); (case hm => first | exact nomark _ | rfl))
  | ((guard_target = GT _ _ (Expr.UnaryOp UnaryOp.Not _ _) _ _ _); (with_reducible refine gt_not ?_))
  | ((guard_target = GT _ _ (Expr.BoolOp _ _ _) _ _ _); (with_reducible refine gt_bool ?_))
  | ((guard_target = GT _ _ (Expr.Compare _ [_, _] [_, _] _) _ _ _); (with_reducible refine gt_chain ?hm ?_); (case hm => with_unfolding_all rfl))
  | ((guard_target = GT _ _ (Expr.Call _ _ _ _) _ _ _); (with_reducible refine gt_val ?he ?_); (case he => intro _; rfl))
  | ((guard_target = GT _ _ (Expr.Subscript _ _ _) _ _ _); (with_reducible refine gt_val ?he ?_); (case he => intro _; rfl))
  | ((guard_target = GT _ _ (Expr.Name _ _) _ _ _); (with_reducible refine gt_val ?he ?_); (case he => intro _; rfl))
  | ((guard_target = GT _ _ (Expr.Attribute _ _ _) _ _ _); (with_reducible refine gt_val ?he ?_); (case he => intro _; rfl)))
local macro_rules | `(tactic| tm_at "gB") => `(tactic| first
  | ((guard_target = GB _ _ (Expr.BoolOp BoolOp.And [_] _) _ _ _); (with_reducible refine gb_and1 ?_))
  | ((guard_target = GB _ _ (Expr.BoolOp BoolOp.Or [_] _) _ _ _); (with_reducible refine gb_or1 ?_))
  | ((guard_target = GB _ _ (Expr.BoolOp BoolOp.And _ _) _ _ _); (with_reducible refine gb_and ?_))
  | ((guard_target = GB _ _ (Expr.BoolOp BoolOp.Or _ _) _ _ _); (with_reducible refine gb_or ?_)))
local macro_rules | `(tactic| tm_at "gA") => `(tactic| first
  | ((guard_target = GA _ _ ([]) _ _ _); (with_reducible refine ga_nil ?_))
  | ((guard_target = GA _ _ (_ :: _) _ _ _); (with_reducible refine ga_cons ?hst ?_); (case hst => rfl)))
local macro_rules | `(tactic| tm_at "gOp") => `(tactic| first
  | ((guard_target = GOp _ _ (binaryOp Operator.Add) (V.int _) (V.int _) _ _); (with_reducible refine go_add ?_))
  | ((guard_target = GOp _ _ (binaryOp Operator.Sub) (V.int _) (V.int _) _ _); (with_reducible refine go_sub ?_))
  | ((guard_target = GOp _ _ (compareOp CmpOp.Eq) (V.int _) (V.int _) _ _); (with_reducible refine go_eqI ?_))
  | ((guard_target = GOp _ _ (compareOp CmpOp.Lt) (V.int _) (V.int _) _ _); (with_reducible refine go_lt ?_))
  | ((guard_target = GOp _ _ (compareOp CmpOp.LtE) (V.int _) (V.int _) _ _); (with_reducible refine go_le ?_))
  | ((guard_target = GOp _ _ (compareOp CmpOp.Gt) (V.int _) (V.int _) _ _); (with_reducible refine go_gt ?_))
  | ((guard_target = GOp _ _ (compareOp CmpOp.GtE) (V.int _) (V.int _) _ _); (with_reducible refine go_ge ?_))
  | ((guard_target = GOp _ _ (compareOp CmpOp.NotEq) (V.int _) (V.int _) _ _); (with_reducible refine go_neI ?_))
  | ((guard_target = GOp _ _ (binaryOp Operator.Mult) (V.int _) (V.int _) _ _); (with_reducible refine go_mul ?c ?_); (case c => first | (left; constructor <;> omega) | (right; constructor <;> omega)))
  | ((guard_target = GOp _ _ (binaryOp Operator.FloorDiv) (V.int _) (V.int _) _ _); (with_reducible refine go_div ?c ?_); (case c => constructor <;> omega))
  | ((guard_target = GOp _ _ (binaryOp Operator.Mod) (V.int _) (V.int _) _ _); (with_reducible refine go_mod ?c ?_); (case c => omega))
  | ((guard_target = GOp _ _ (compareOp CmpOp.Eq) (V.str _) (V.str _) _ _); (with_reducible refine go_eqT ?_))
  | ((guard_target = GOp _ _ (compareOp CmpOp.NotEq) (V.str _) (V.str _) _ _); (with_reducible refine go_neT ?_))
  | ((guard_target = GOp _ _ (compareOp CmpOp.Eq) (V.bl _) (V.bl _) _ _); (with_reducible refine go_eqB ?_))
  | ((guard_target = GOp _ _ (compareOp CmpOp.NotEq) (V.bl _) (V.bl _) _ _); (with_reducible refine go_neB ?_))
  | ((guard_target = GOp _ _ (compareOp CmpOp.In) (V.int _) (V.ref _) _ _); (with_reducible refine go_inI (by tm_at "sSel") ?_))
  | ((guard_target = GOp _ _ (compareOp CmpOp.NotIn) (V.int _) (V.ref _) _ _); (with_reducible refine go_ninI (by tm_at "sSel") ?_))
  | ((guard_target = GOp _ _ (compareOp CmpOp.In) (V.str _) (V.ref _) _ _); (with_reducible refine go_inT (by tm_at "sSel") ?_))
  | ((guard_target = GOp _ _ (compareOp CmpOp.NotIn) (V.str _) (V.ref _) _ _); (with_reducible refine go_ninT (by tm_at "sSel") ?_))
  | ((guard_target = GOp _ _ (compareOp CmpOp.Eq) (_) (V.non) _ _); (with_reducible refine go_eqS rfl ?_))
  | ((guard_target = GOp _ _ (compareOp CmpOp.NotEq) (_) (V.non) _ _); (with_reducible refine go_neS rfl ?_))
  | ((guard_target = GOp _ _ (compareOp CmpOp.Is) (_) (V.non) _ _); (with_reducible refine go_isN ?_))
  | ((guard_target = GOp _ _ (compareOp CmpOp.IsNot) (_) (V.non) _ _); (with_reducible refine go_notN ?_)))
local macro_rules | `(tactic| tm_at "gC") => `(tactic| first
  | ((guard_target = GC _ _ (Value.type "int") [V.int _] _ _); (with_reducible refine gc_intI ?_))
  | ((guard_target = GC _ _ (Value.type "int") [V.bl _] _ _); (with_reducible refine gc_intB ?_))
  | ((guard_target = GC _ _ (Value.builtin "abs") [V.int _] _ _); (with_reducible refine gc_abs ?_))
  | ((guard_target = GC _ _ (Value.builtin "max") [V.int _, V.int _] _ _); (with_reducible refine gc_max2 ?hc ?_); (case hc => rfl))
  | ((guard_target = GC _ _ (Value.builtin "min") [V.int _, V.int _] _ _); (with_reducible refine gc_min2 ?hc ?_); (case hc => rfl))
  | ((guard_target = GC _ _ (Value.type "range") [V.int _] _ _); (with_reducible refine gc_rng1 ?_))
  | ((guard_target = GC _ _ (Value.type "range") [V.int _, V.int _] _ _); (with_reducible refine gc_rng2 ?_))
  | ((guard_target = GC _ _ (Value.builtin "len") [V.ref _] _ _); (with_reducible refine gc_lenR (by tm_at "sSel") ?_))
  | ((guard_target = GC _ _ (Value.builtin "len") [V.ref _] _ _); (with_reducible refine gc_len (by tm_at "sSel") ?_))
  | ((guard_target = GC _ _ (Value.builtin "len") [V.ref _] _ _); (with_reducible refine gc_lenT (by tm_at "sSel") ?_)))
local macro_rules | `(tactic| tm_at "gF") => `(tactic| first
  | ((guard_target = GF _ _ _ _ _ _); (with_reducible refine gf (by tm_at "sSel") (by tm_at "sLkF") ?hc ?hn ?_); (case hc => assumption); (case hn => assumption))
  | ((guard_target = GFS _ _ _ _ _ _); (with_reducible refine gfs (by tm_at "sRpl") (by tm_at "sPutF") ?hc ?hn ?hz ?_); (case hc => assumption); (case hn => assumption); (case hz => exact Nat.le_of_ble_eq_true rfl))
  | ((guard_target = GFA _ _ _ _ _ _ _ _ _); (with_reducible refine gfa (by tm_at "sSel") (by tm_at "sLkF") ?hc ?hn ?_); (case hc => assumption); (case hn => assumption))
  | ((guard_target = Exists fun _ => Exists fun _ => Exists fun _ => (Rpl _ _ _ _ ∧ _ ∧ _)); (with_reducible refine gfaE (by tm_at "sRpl") (by tm_at "sPutF") ?hz ?_); (case hz => exact Nat.le_of_ble_eq_true rfl))
  | ((guard_target = GAS _ _ _ _ _ _ _ _ _); (with_reducible refine gas (by tm_at "sSel") (by tm_at "sIx") ?_))
  | ((guard_target = (HasL _ _ _ ∧ _)); (with_reducible refine And.intro ?hh ?_); (case hh => tm_at "sHasL"))
  | ((guard_target = (IsIns _ _ _ _ _ ∧ _)); (with_reducible refine And.intro ?hh ?_); (case hh => exact isIns (by tm_at "sSel") (by tm_at "sNoF") (by rfl)))
  | ((guard_target = GApp _ _ _ _ _); (with_reducible refine gapp_pt (by tm_at "sRpl") ?hz ?_); (case hz => tm_at "sZ"))
  | ((guard_target = (List.length _ ≤ PySem.sizeLine ∧ _)); (with_reducible refine And.intro ?hz ?_); (case hz => tm_at "sZ"); intro _)
  | ((guard_target = GIp _ _ Operator.Add (V.int _) (V.int _) _ _); (with_reducible refine gip_add ?_))
  | ((guard_target = GIp _ _ Operator.Sub (V.int _) (V.int _) _ _); (with_reducible refine gip_sub ?_))
  | ((guard_target = GRem _ _ _ _ _); (with_reducible refine grem (by tm_at "sRpl") ?hm ?_); (case hm => assumption))
  | ((guard_target = GO _ _ none _ _ _); (with_reducible refine goN ?_))
  | ((guard_target = GO _ _ (some _) _ _ _); (with_reducible refine goS ?_)))
local macro_rules | `(tactic| tm_at "gIx") => `(tactic| first
  | (with_reducible refine gi_lst (by tm_at "sSel") (by tm_at "sIx") ?_)
  | (with_reducible refine gi_tup (by tm_at "sSel") (by tm_at "sIx") ?_))
local macro_rules | `(tactic| tm_at "gS") => `(tactic| first
  | ((guard_target = GS _ _ (Stmt.Assign [Expr.Name _ _] _ _) _ _ _); (with_reducible refine gs_name (by assumption) (by tm_at "sSlot") (by tm_at "sKd") (by tm_at "sLk") (by tm_at "sLf") ?hsw ?_); (case hsw => rfl))
  | ((guard_target = GS _ _ (Stmt.If _ _ _ _) _ _ _); (with_reducible refine gs_if ?_))
  | ((guard_target = GS _ _ (Stmt.AugAssign (Expr.Name _ _) _ _ _) _ _ _); (with_reducible refine gs_aug (by assumption) (by tm_at "sAt") (by tm_at "sSlot") (by tm_at "sKd") (by tm_at "sLk") (by tm_at "sLf") ?_))
  | ((guard_target = GS _ _ (Stmt.AugAssign (Expr.Attribute _ _ _) _ _ _) _ _ _); (with_reducible refine gs_fldaug ?_))
  | ((guard_target = GS _ _ (Stmt.AugAssign (Expr.Subscript _ _ _) _ _ _) _ _ _); (with_reducible refine gs_augS ?ha ?_); (case ha => intros; rfl))
  | ((guard_target = GS _ _ (Stmt.Return (some _) _) _ _ _); (with_reducible refine gs_ret ?_))
  | ((guard_target = GS _ _ (Stmt.Expr (Expr.Constant _ _ _) _) _ _ _); (with_reducible refine gs_doc ?_))
  | ((guard_target = GS _ _ (Stmt.Expr _ _) _ _ _); (with_reducible refine gs_expr ?hsw ?_); (case hsw => rfl))
  | ((guard_target = GS _ _ (Stmt.Assign [Expr.Attribute _ _ _] _ _) _ _ _); (with_reducible refine gs_fld ?hsw ?_); (case hsw => rfl))
  | ((guard_target = GS _ _ (Stmt.Assign [Expr.Subscript _ _ _] _ _) _ _ _); (with_reducible refine gs_asg ?hsw ?hw ?h1 ?_); (case hsw => rfl); (case hw => rfl); (case h1 => rfl))
  | ((guard_target = GS _ _ (Stmt.Assign [Expr.Tuple _ _ _] _ _) _ _ _); (with_reducible refine gs_asg ?hsw ?hw ?h1 ?_); (case hsw => rfl); (case hw => rfl); (case h1 => rfl))
  | ((guard_target = GS _ _ (Stmt.Return none _) _ _ _); (with_reducible refine gs_retN ?_))
  | ((guard_target = GS _ _ (Stmt.Pass _) _ _ _); (with_reducible refine gs_pass ?_))
  | ((guard_target = GS _ _ (Stmt.Break _) _ _ _); (with_reducible refine gs_break ?_))
  | ((guard_target = GS _ _ (Stmt.Continue _) _ _ _); (with_reducible refine gs_continue ?_)))
local macro_rules | `(tactic| tm_at "gG") => `(tactic| first
  | ((guard_target = GG _ _ (Expr.Name _ _) _ _ _ _); (with_reducible refine gg_name (by assumption) (by tm_at "sSlot") (by tm_at "sKd") (by tm_at "sLk") (by tm_at "sLf") ?_))
  | ((guard_target = GG _ _ (Expr.Subscript _ _ _) _ _ _ _); (with_reducible refine gg_sub ?ha ?_); (case ha => intro _; rfl))
  | ((guard_target = GG _ _ (Expr.Tuple _ _ _) _ _ _ _); (with_reducible refine gg_tup ?hc (by tm_at "sSel") ?hn ?hst ?_); (case hc => rfl); (case hn => rfl); (case hst => rfl)))
local macro_rules | `(tactic| tm_at "g") => `(tactic| first
  | ((guard_target = GE _ _ _ _ _ _); tm_at "gE")
  | ((guard_target = GOp _ _ _ _ _ _ _); tm_at "gOp")
  | ((guard_target = GIx _ _ _ _ _ _); tm_at "gIx")
  | tm_at "gF"
  | ((guard_target = (wipe _ _ = wipe _ _ ∧ _)); refine And.intro rfl ?_)
  | ((guard_target = GGs _ _ [] _ _ _ _); (with_reducible refine ggs_nil ?_))
  | ((guard_target = GGs _ _ (_ :: _) _ _ _ _); (with_reducible refine ggs_cons ?hst ?_); (case hst => rfl))
  | ((guard_target = GTs _ _ [] _ _ _); (with_reducible refine gts_nil ?_))
  | ((guard_target = GTs _ _ [_] _ _ _); (with_reducible refine gts_one ?_))
  | ((guard_target = KB _ _ _); (with_reducible refine KB.mk ?_))
  | ((guard_target = GA _ _ _ _ _ _); tm_at "gA")
  | ((guard_target = GS _ _ _ _ _ _); tm_at "gS")
  | ((guard_target = GSs _ _ (_ :: _) _ _ _); (with_reducible refine gss_cons ?_))
  | ((guard_target = GSs _ _ ([]) _ _ _); (with_reducible refine gss_nil ?_))
  | ((guard_target = GT _ _ _ _ _ _); tm_at "gT")
  | ((guard_target = GB _ _ _ _ _ _); tm_at "gB")
  | ((guard_target = GC _ _ _ _ _ _); tm_at "gC")
  | ((guard_target = GG _ _ _ _ _ _ _); tm_at "gG")
  | ((guard_target = GPutL _ _ _ _ _); (with_reducible refine gput (by tm_at "sRpl") (by tm_at "sPut") ?_))
  | ((guard_target = if true = true then _ else _); (with_reducible refine iteT ?_))
  | ((guard_target = if (!true) = true then _ else _); (with_reducible refine iteNT ?_))
  | ((guard_target = if (!false) = true then _ else _); (with_reducible refine iteNF ?_))
  | ((guard_target = if false = true then _ else _); (with_reducible refine iteF ?_))
  | ((guard_target = Exists _); (with_reducible refine Exists.intro _ (And.intro rfl ?_)))
  | (first | with_reducible refine ite_nI ?_ | with_reducible refine ite_nN ?_ | with_reducible refine ite_nnI ?_ | with_reducible refine ite_nnN ?_ | with_reducible refine ite_nR ?_ | with_reducible refine ite_nnR ?_))
local macro_rules | `(tactic| tm_at "sSetN") => `(tactic| (first | exact SetN.here | (apply SetN.there; tm_at "sSetN")))
local macro_rules | `(tactic| tm_at "sWp") => `(tactic| (first | exact Wp.nil | (apply Wp.cons; (tm_at "sWp"); (tm_at "sSetN"))))
local macro_rules | `(tactic| tm_at "fits") => `(tactic| (first | apply Fits.mk | apply FitL.mk))
local macro_rules | `(tactic| tm_at "ent") => `(tactic| (apply Fit.ent; tm_at "fit"))
local macro_rules | `(tactic| tm_at "go") => `(tactic| repeat (tm_at "g"))
local macro_rules | `(tactic| tm_at "gs") => `(tactic| repeat ((fail_if_success (guard_target = GSs _ _ (_ :: _) _ _ _)); tm_at "g"))
local macro_rules | `(tactic| tm_at "if") => `(tactic| first
  | (with_reducible refine ite_ndec (fun _ => ?_) (fun _ => ?_))
  | (with_reducible refine ite_dec (fun _ => ?_) (fun _ => ?_))
  | (with_reducible refine ite_nb (fun _ => ?_) (fun _ => ?_))
  | (with_reducible refine ite_b (fun _ => ?_) (fun _ => ?_)))
local macro_rules | `(tactic| tm_at "gECall") => `(tactic| (guard_target = GE _ _ (Expr.Call (Expr.Name "folded" _) (_ :: _) [] _) _ _ _; (refine ge_call (FnAt.e (x := "folded") (by assumption)) (by tm_at "sRoom") (by tm_at "sXok") (Nm.gl (by assumption) (by tm_at "sKd")) ?hdb ?he ?hpl ?_); (case hdb => rfl); (case he => rfl); (case hpl => rfl)))
local macro_rules | `(tactic| tm_at "gECall") => `(tactic| (guard_target = GE _ _ (Expr.Call (Expr.Name "unfolded" _) (_ :: _) [] _) _ _ _; (refine ge_call (FnAt.e (x := "unfolded") (by assumption)) (by tm_at "sRoom") (by tm_at "sXok") (Nm.gl (by assumption) (by tm_at "sKd")) ?hdb ?he ?hpl ?_); (case hdb => rfl); (case he => rfl); (case hpl => rfl)))
local macro_rules | `(tactic| tm_at "gECall") => `(tactic| (guard_target = GE _ _ (Expr.Call (Expr.Name "number_octets" _) (_ :: _) [] _) _ _ _; (refine ge_call (FnAt.e (x := "number_octets") (by assumption)) (by tm_at "sRoom") (by tm_at "sXok") (Nm.gl (by assumption) (by tm_at "sKd")) ?hdb ?he ?hpl ?_); (case hdb => rfl); (case he => rfl); (case hpl => rfl)))
local macro_rules | `(tactic| tm_at "gECall") => `(tactic| (guard_target = GE _ _ (Expr.Call (Expr.Name "text_octets" _) (_ :: _) [] _) _ _ _; (refine ge_call (FnAt.e (x := "text_octets") (by assumption)) (by tm_at "sRoom") (by tm_at "sXok") (Nm.gl (by assumption) (by tm_at "sKd")) ?hdb ?he ?hpl ?_); (case hdb => rfl); (case he => rfl); (case hpl => rfl)))
local macro_rules | `(tactic| tm_at "gECall") => `(tactic| (guard_target = GE _ _ (Expr.Call (Expr.Name "sum_of" _) (_ :: _) [] _) _ _ _; (refine ge_call (FnAt.e (x := "sum_of") (by assumption)) (by tm_at "sRoom") (by tm_at "sXok") (Nm.gl (by assumption) (by tm_at "sKd")) ?hdb ?he ?hpl ?_); (case hdb => rfl); (case he => rfl); (case hpl => rfl)))
local macro_rules | `(tactic| tm_at "gECall") => `(tactic| (guard_target = GE _ _ (Expr.Call (Expr.Name "record_octets" _) (_ :: _) [] _) _ _ _; (refine ge_call (FnAt.e (x := "record_octets") (by assumption)) (by tm_at "sRoom") (by tm_at "sXok") (Nm.gl (by assumption) (by tm_at "sKd")) ?hdb ?he ?hpl ?_); (case hdb => rfl); (case he => rfl); (case hpl => rfl)))
local macro_rules | `(tactic| tm_at "gECall") => `(tactic| (guard_target = GE _ _ (Expr.Call (Expr.Name "batch" _) (_ :: _) [] _) _ _ _; (refine ge_call (FnAt.e (x := "batch") (by assumption)) (by tm_at "sRoom") (by tm_at "sXok") (Nm.gl (by assumption) (by tm_at "sKd")) ?hdb ?he ?hpl ?_); (case hdb => rfl); (case he => rfl); (case hpl => rfl)))
local macro_rules | `(tactic| tm_at "gECall") => `(tactic| (guard_target = GE _ _ (Expr.Call (Expr.Name "read_batch" _) (_ :: _) [] _) _ _ _; (refine ge_call (FnAt.e (x := "read_batch") (by assumption)) (by tm_at "sRoom") (by tm_at "sXok") (Nm.gl (by assumption) (by tm_at "sKd")) ?hdb ?he ?hpl ?_); (case hdb => rfl); (case he => rfl); (case hpl => rfl)))
local macro_rules | `(tactic| tm_at "gECall") => `(tactic| (guard_target = GE _ _ (Expr.Call (Expr.Name "read_all" _) (_ :: _) [] _) _ _ _; (refine ge_call (FnAt.e (x := "read_all") (by assumption)) (by tm_at "sRoom") (by tm_at "sXok") (Nm.gl (by assumption) (by tm_at "sKd")) ?hdb ?he ?hpl ?_); (case hdb => rfl); (case he => rfl); (case hpl => rfl)))
local macro_rules | `(tactic| tm_at "gEMeth") => `(tactic| (guard_target = GE _ _ (Expr.Call (Expr.Attribute _ "octet" _) [] _ _) _ _ _; (refine ge_meth0 (MeAt.e (C := "Reader") (m := "octet") (by assumption)) (by tm_at "sRoom") (by tm_at "sXok") ?ht ?_); (case ht => exact ⟨_, rfl⟩)))
local macro_rules | `(tactic| tm_at "gEMeth") => `(tactic| (guard_target = GE _ _ (Expr.Call (Expr.Attribute _ "whole" _) [] _ _) _ _ _; (refine ge_meth0 (MeAt.e (C := "Reader") (m := "whole") (by assumption)) (by tm_at "sRoom") (by tm_at "sXok") ?ht ?_); (case ht => exact ⟨_, rfl⟩)))
local macro_rules | `(tactic| tm_at "gEMeth") => `(tactic| (guard_target = GE _ _ (Expr.Call (Expr.Attribute _ "text" _) [] _ _) _ _ _; (refine ge_meth0 (MeAt.e (C := "Reader") (m := "text") (by assumption)) (by tm_at "sRoom") (by tm_at "sXok") ?ht ?_); (case ht => exact ⟨_, rfl⟩)))
local macro_rules | `(tactic| tm_at "gECall") => `(tactic| (guard_target = GE _ _ (Expr.Call (Expr.Name "Reader" _) (_ :: _) [] _) _ _ _; (refine ge_make (MkAt.e (x := "Reader") (by assumption)) (by tm_at "sRoom") (by tm_at "sXok") (Nm.gl (by assumption) (by tm_at "sKd")) ?hdb ?he ?hpl ?_); (case hdb => rfl); (case he => rfl); (case hpl => rfl); skip))
local macro_rules | `(tactic| tm_at "gC") => `(tactic| ((guard_target = GC _ _ (Value.builtin "len") [_] _ _); (with_reducible refine gc_lenTl (rv_val (by tm_at "sSel")) ?_)))
local macro_rules | `(tactic| tm_at "gIx") => `(tactic| (with_reducible refine gi_tl (rv_val (by tm_at "sSel")) (by assumption) (fun _ => ?_)))
local macro_rules | `(tactic| tm_at "gF") => `(tactic| first
  | ((guard_target = GIp _ _ Operator.Mult (V.int _) (V.int _) _ _); (with_reducible refine gip_mul ?c ?_); (case c => first | (left; constructor <;> omega) | (right; constructor <;> omega)))
  | ((guard_target = GIp _ _ Operator.FloorDiv (V.int _) (V.int _) _ _); (with_reducible refine gip_div ?c ?_); (case c => constructor <;> omega))
  | ((guard_target = GIp _ _ Operator.Mod (V.int _) (V.int _) _ _); (with_reducible refine gip_mod ?c ?_); (case c => omega)))
local macro_rules | `(tactic| tm_at "g") => `(tactic| ((guard_target = GU _ _ (unaryOp UnaryOp.USub) (V.int _) _ _); (with_reducible refine gu_neg ?_)))
local macro_rules | `(tactic| tm_at "gS") => `(tactic| ((guard_target = GS _ _ (Stmt.Assign [Expr.Tuple [Expr.Name _ _, Expr.Name _ _] _ _] (Expr.Tuple [_, _] _ _) _) _ _ _); (refine gs_par2 (by assumption) (by tm_at "sSlot") (fun _ => by tm_at "sSlot") (by tm_at "sKd") (by tm_at "sKd") ?hne ?hc ?hw ?hs ?_); (case hne => with_unfolding_all rfl); (case hc => rfl); (case hw => rfl); (case hs => rfl)))
local macro_rules | `(tactic| tm_at "gOp") => `(tactic| ((guard_target = GOp _ _ (binaryOp Operator.Pow) (V.int _) (V.int _) _ _); (with_reducible refine go_pow ?c ?_); (case c => refine ⟨?_, ?_, ?_⟩ <;> decide)))
local macro_rules | `(tactic| tm_at "g") => `(tactic| ((guard_target = K2 _ [_, _] _); (with_reducible refine K2.mk ?_)))
local macro_rules | `(tactic| tm_at "gE") => `(tactic| ((guard_target = GE _ _ (Expr.Name "SIGNS" _) _ _ _); (refine ge_glob (v := V.str SIG) (Nm.gl (by assumption) (by tm_at "sKd")) (by assumption) ⟨_, rfl⟩ ?_ ?hd); (case hd => rfl)))
local macro_rules | `(tactic| tm_at "gOp") => `(tactic| ((guard_target = GOp _ _ (compareOp CmpOp.NotIn) (V.str ⟨#[_]⟩) (V.str _) _ _); (with_reducible refine go_ninSign ?_)))
local macro_rules | `(tactic| tm_at "gEMeth") => `(tactic| ((guard_target = GE _ _ (Expr.Call (Expr.Attribute _ "index" _) [_] [] _) _ _ _); (with_reducible refine ge_index ?h1 ?h2 ?h3 ?_); (case h1 => rfl); (case h2 => rfl); (case h3 => rfl)))
local macro_rules | `(tactic| tm_at "gEMeth") => `(tactic| ((guard_target = GE _ _ (Expr.Call (Expr.Attribute _ "join" _) [_] [] _) _ _ _); (with_reducible refine ge_join ?h1 ?h2 ?h3 ?_); (case h1 => rfl); (case h2 => rfl); (case h3 => rfl)))
local macro_rules | `(tactic| tm_at "g") => `(tactic| (first | with_reducible refine ite_nT ?_ | with_reducible refine ite_nnT ?_))
local macro_rules | `(tactic| tm_at "gC") => `(tactic| ((guard_target = GC _ _ (Value.builtin "len") [V.str _] _ _); (refine gc_lenS ?hz ?_); (case hz => rw [sizeLine_eq]; omega)))
local macro_rules | `(tactic| tm_at "gIx") => `(tactic| (with_reducible refine gi_tlS cInt (rv_val (by tm_at "sSel")) (by assumption) ?_))
local macro_rules | `(tactic| tm_at "gF") => `(tactic| ((guard_target = (IsIns _ _ _ _ _ ∧ _)); (with_reducible refine And.intro ?hh ?_); (case hh => exact isIns (by tm_at "sSel") (by tm_at "sNoF") (by rfl))))
/-! ### what the reader reads -/
def Oct (ds : List Int) : Prop := ds.length < 1000000 ∧ ∀ o ∈ ds, 0 ≤ o ∧ o < 256
def goW (ds : List Int) : Nat → Nat → Int → Int → Option (Int × Int × Nat)
  | 0, _, _, _ => none
  | f + 1, p, fo, mu => match ds[p]? with
    | none => none
    | some o => if f = 0 then none else if 127 < o then goW ds f (p + 1) (fo + o % 128 * mu) (mu * 128) else some (fo + o % 128 * mu, o, p + 1)
def wholeM (ds : List Int) (p : Nat) : Option (Int × Nat) := match goW ds 14 p 0 1 with
  | none => none
  | some (fo, o, q) => if o = 0 ∧ p + 1 < q then none else some (unfI fo, q)
def sgN (o : Int) : Nat := SIG.cps.toList.getD o.toNat 0
def textM (ds : List Int) (p : Nat) : Option (Option Str × Nat) := match wholeM ds p with
  | none => none
  | some (c, q) => if c = -1 then some (none, q) else if c < 0 ∨ (ds.length : Int) < q + c then none else
    if ((ds.drop q).take c.toNat).all (fun o => decide (o < 76)) = true then some (some ⟨(((ds.drop q).take c.toNat).map sgN).toArray⟩, q + c.toNat) else none
theorem join_signs (l : List Nat) : Txt.join "" (l.map fun c => (⟨#[c]⟩ : Str)) = ⟨l.toArray⟩ := by
  have h : ∀ l : List Nat, TL.joinL [] (l.map fun c => [c]) = l := by
    intro l
    induction l with
    | nil => rfl
    | cons c l ih => cases l with
      | nil => rfl
      | cons d l => exact congrArg (c :: ·) ih
  have h2 : TL.tl (Txt.join "" (l.map fun c => (⟨#[c]⟩ : Str))) = l := by
    rw [TL.join_eq, TL.tl_join, List.map_map]
    exact h l
  cases hx : Txt.join "" (l.map fun c => (⟨#[c]⟩ : Str)) with
  | mk cps =>
    rw [hx] at h2
    have h2 : cps.toList = l := h2
    rw [← h2]
theorem sgN_lt (o : Int) : sgN o < 0x110000 := by
  unfold sgN
  generalize o.toNat = n
  by_cases h : n < 76
  · have key : ∀ n : Nat, n < 76 → SIG.cps.toList.getD n 0 < 0x110000 := by decide +kernel
    exact key n h
  · rw [List.getD_eq_getElem?_getD, List.getElem?_eq_none]
    · decide
    · have : SIG.cps.toList.length = 76 := by decide +kernel
      omega
theorem text_good {ds : List Int} {p q : Nat} {t : Option Str} (h : textM ds p = some (t, q)) : optGood t := by
  unfold textM at h
  split at h
  · cases h
  · split at h
    · cases h; exact (rfl : PyData.canLay0 .none = true)
    · split at h
      · cases h
      · split at h
        · cases h
          show PyData.canLay0 (.str _) = true
          simp only [PyData.canLay0, PyData.strOk, List.all_toArray, List.all_map, List.all_eq_true, decide_eq_true_eq, Function.comp]
          intro o _
          exact sgN_lt _
        · cases h
section
variable {T : List (Addr × Str)} {P : Program} {w : World} {Kf : PySem.W.Frag} {mg : Str → Option Value} {base : Heap} {f : Addr} {fd : FuncData}
abbrev rdP (Kf : PySem.W.Frag) (a dx : Addr) (v : V) (p : Int) : SA := pt a (.ins (He.ga Kf "Reader") dx [("row", v), ("place", .int p)])
def spRI (Kf : PySem.W.Frag) : SpL := fun vs L K kx => ∃ (a dx : Addr) (v : V) (p : Nat) (R : List SA), vs = [.ref a, v, .int (p : Nat)] ∧ L = pt a (.ins (He.ga Kf "Reader") dx []) :: R ∧ K .non (rdP Kf a dx v p :: R)
theorem ok_ri (fx : Fx Kf mg) (F : FunD Kf "__init__" "Reader.__init__" (defArgs s_Reader__init) (defBody s_Reader__init) (defScope s_Reader__init) [] [] f fd) : FnOk P w Kf mg base (L2.CX P w) 1 f fd ["self", "row", "place"] (spOf T (spRI Kf)) := by
  refine def_in F sc_Reader__init (fun vs L K kx h => ?_) (fun A outer s H E hr n vs L KK kx h hx σ hσ => ?_)
  · obtain ⟨a, dx, v, p, R, rfl, _⟩ := h; rfl
  · obtain ⟨a, dx, v, p, R, rfl, rfl, k⟩ := h
    obtain rfl : σ = [some (.ref a), some v, some (.int (p : Nat))] := hσ
    obtain ⟨h_int, h_len, h_range, h_tuple, h_abs, ⟨_, h_SG⟩, cR, n1, n2⟩ := fx
    refine gss_cons ?_
    tm_at "go"
    exact Clo.id k
def spOct (Kf : PySem.W.Frag) : SpL := fun vs L K kx => ∃ (a dx : Addr) (v : V) (p : Nat) (ds : List Int) (R : List SA), vs = [.ref a] ∧ L = rdP Kf a dx v p :: Val (rTl rInt) v ds :: R ∧ Oct ds ∧
  (∀ o, ds[p]? = some o → K (.int o) (rdP Kf a dx v (p + 1) :: Val (rTl rInt) v ds :: R)) ∧ (ds[p]? = none → ∀ d, kx (BR Kf) (some d) (Val (rTl rInt) v ds :: R))
theorem ok_oct (fx : Fx Kf mg) (br : ExiAt P w Kf mg base 1 "BadRecord" ["place"]) (F : FunD Kf "octet" "Reader.octet" (defArgs s_Reader_octet) (defBody s_Reader_octet) (defScope s_Reader_octet) [] [] f fd) : FnOk P w Kf mg base (L2.CX P w) 3 f fd ["self"] (spOf T (spOct Kf)) := by
  refine def_in F sc_Reader_octet (fun vs L K kx h => ?_) (fun A outer s H E hr n vs L KK kx h hx σ hσ => ?_)
  · obtain ⟨a, dx, v, p, ds, R, rfl, _⟩ := h; rfl
  · obtain ⟨a, dx, v, p, ds, R, rfl, rfl, ho, k1, k2⟩ := h
    obtain rfl : σ = [some (.ref a)] := hσ
    obtain ⟨h_int, h_len, h_range, h_tuple, h_abs, ⟨_, h_SG⟩, cR, n1, n2⟩ := fx
    refine gss_cons ?_
    tm_at "go"
    cases hp : ds[p]? with
    | none =>
      have hle : ds.length ≤ p := List.getElem?_eq_none_iff.mp hp
      tm_at "if"
      · tm_at "go"
        refine gs_raiseI n (by tm_at "sKd") rfl br (by tm_at "sRoom") hx rfl rfl rfl ?_
        tm_at "go"
        refine ⟨rfl, Nat.le_of_ble_eq_true rfl, fun d => ?_⟩
        apply Clo.mk (k2 hp d)
        tm_at "ent"
      · omega
    | some o =>
      have hlt : p < ds.length := by
        by_cases c : p < ds.length
        · exact c
        · rw [List.getElem?_eq_none (by omega)] at hp; cases hp
      have hb := ho.2 o (List.mem_of_getElem? hp)
      tm_at "if"
      · omega
      · tm_at "go"
        tm_at "if"
        · tm_at "go"
          tm_at "if"
          · omega
          · tm_at "go"
            rw [show ((p : Int) + 1 - 1) = ((p : Nat) : Int) from by omega]
            tm_at "go"
            apply Clo.mk (k1 o hp)
            tm_at "ent"
        · omega
theorem call_oct {a dx : Addr} {v : V} {p : Nat} {ds : List Int} {L R : List SA} {K : GK} {kx : KX} (e : Ent T L (rdP Kf a dx v p :: Val (rTl rInt) v ds :: R)) (ho : Oct ds)
    (k1 : ∀ o, ds[p]? = some o → K (.int o) (rdP Kf a dx v (p + 1) :: Val (rTl rInt) v ds :: R)) (k2 : ds[p]? = none → ∀ d, kx (BR Kf) (some d) (Val (rTl rInt) v ds :: R)) : spE T (spOct Kf) [.ref a] L K kx := CallS.mk ⟨a, dx, v, p, ds, R, rfl, rfl, ho, k1, k2⟩ e
/-! ### whole -/
def spWh (Kf : PySem.W.Frag) : SpL := fun vs L K kx => ∃ (a dx : Addr) (v : V) (p : Nat) (ds : List Int) (R : List SA), vs = [.ref a] ∧ L = rdP Kf a dx v p :: Val (rTl rInt) v ds :: R ∧ Oct ds ∧
  (∀ n q, wholeM ds p = some (n, q) → K (.int n) (rdP Kf a dx v q :: Val (rTl rInt) v ds :: R)) ∧ (wholeM ds p = none → ∀ d, kx (BR Kf) (some d) (Val (rTl rInt) v ds :: R))
theorem goW_some {ds : List Int} : ∀ {f p fo mu x o q}, goW ds f p fo mu = some (x, o, q) → p < q ∧ q ≤ ds.length := by
  intro f
  induction f with
  | zero => intro p fo mu x o q h; cases h
  | succ f ih =>
    intro p fo mu x o q h
    rw [goW] at h
    split at h
    · cases h
    · rename_i o' hp
      have hlt : p < ds.length := by
        by_cases c : p < ds.length
        · exact c
        · rw [List.getElem?_eq_none (by omega)] at hp; cases hp
      split at h
      · cases h
      · split at h
        · have := ih h; omega
        · cases h; omega
theorem whole_some {ds : List Int} {p q : Nat} {n : Int} (h : wholeM ds p = some (n, q)) : p < q ∧ q ≤ ds.length := by
  unfold wholeM at h
  split at h
  · cases h
  · rename_i e
    split at h
    · cases h
    · cases h; exact goW_some e
theorem ok_wh (fx : Fx Kf mg) (br : ExiAt P w Kf mg base 1 "BadRecord" ["place"]) (hu : FnAt T P w Kf mg base 1 "unfolded" spUnf) (hoc : MeAt T P w Kf mg base 3 "Reader" "octet" (spOct Kf)) (F : FunD Kf "whole" "Reader.whole" (defArgs s_Reader_whole) (defBody s_Reader_whole) (defScope s_Reader_whole) [] [] f fd) : FnOk P w Kf mg base (L2.CX P w) 4 f fd ["self"] (spOf T (spWh Kf)) := by
  refine def_in F sc_Reader_whole (fun vs L K kx h => ?_) (fun A outer s H E hr n vs L KK kx h hx σ hσ => ?_)
  · obtain ⟨a, dx, v, p, ds, R, rfl, _⟩ := h; rfl
  · obtain ⟨a, dx, v, p, ds, R, rfl, rfl, ho, k1, k2⟩ := h
    obtain rfl : σ = [some (.ref a), none, none, none, none] := hσ
    obtain ⟨h_int, h_len, h_range, h_tuple, h_abs, ⟨_, h_SG⟩, cR, n1, n2⟩ := fx
    refine gss_cons ?_
    tm_at "go"
    refine GS.ent (L' := rdP Kf a dx v p :: Val (rTl rInt) v ds :: R) (by tm_at "ent") ?_
    refine gs_while (fun m σ' L' => ∃ (p' : Nat) (fo mu oc : Int), σ' = [some (.ref a), some (.int (p : Nat)), some (.int fo), some (.int mu), some (.int oc)] ∧ L' = rdP Kf a dx v p' :: Val (rTl rInt) v ds :: R ∧
      ((127 < oc ∧ goW ds m p' fo mu = goW ds 14 p 0 1 ∧ p' + m = p + 14 ∧ 1 ≤ m) ∨ (oc ≤ 127 ∧ goW ds 14 p 0 1 = some (fo, oc, p')))) (passes_of rfl) 14 ⟨p, 0, 1, 128, rfl, rfl, .inl ⟨by decide, rfl, rfl, by decide⟩⟩ ?_
    rintro m σ' L' ⟨p', fo, mu, oc, rfl, rfl, hI⟩
    tm_at "go"
    tm_at "if"
    · rename_i hoc'
      obtain ⟨_, e, hm, hm1⟩ : 127 < oc ∧ goW ds m p' fo mu = goW ds 14 p 0 1 ∧ p' + m = p + 14 ∧ 1 ≤ m := by
        rcases hI with h | ⟨h, _⟩
        · exact h
        · omega
      obtain ⟨m, rfl⟩ : ∃ m', m = m' + 1 := ⟨m - 1, by omega⟩
      rw [goW] at e
      tm_at "go"
      refine call_oct (by tm_at "ent") ho (fun o hp => ?_) (fun hp d => ?_)
      · have hb := ho.2 o (List.mem_of_getElem? hp)
        rw [hp] at e
        simp only at e
        tm_at "go"
        tm_at "if"
        · rename_i hc
          have hm0 : m = 0 := by omega
          rw [if_pos hm0] at e
          tm_at "go"
          refine gs_raiseI n (by tm_at "sKd") rfl br (by tm_at "sRoom") hx rfl rfl rfl ?_
          tm_at "go"
          refine ⟨rfl, Nat.le_of_ble_eq_true rfl, fun d => ?_⟩
          apply Clo.mk (k2 (by rw [wholeM, ← e]) d)
          tm_at "ent"
        · rename_i hc
          have hm0 : ¬ m = 0 := by omega
          rw [if_neg hm0] at e
          tm_at "go"
          by_cases h127 : 127 < o
          · rw [if_pos h127] at e
            refine ⟨m, by omega, ?_⟩
            tm_at "fits"
            · exact ⟨p' + 1, _, _, o, rfl, rfl, .inl ⟨h127, e, by omega, by omega⟩⟩
            · rw [show ((p' + 1 : Nat) : Int) = (p' : Int) + 1 from rfl]; tm_at "ent"
          · rw [if_neg h127] at e
            refine ⟨m, by omega, ?_⟩
            tm_at "fits"
            · exact ⟨p' + 1, _, _, o, rfl, rfl, .inr ⟨by omega, e.symm⟩⟩
            · rw [show ((p' + 1 : Nat) : Int) = (p' : Int) + 1 from rfl]; tm_at "ent"
      · rw [hp] at e
        apply Clo.mk (k2 (by rw [wholeM, ← e]) d)
        tm_at "ent"
    · rename_i hoc'
      obtain ⟨_, e⟩ : oc ≤ 127 ∧ goW ds 14 p 0 1 = some (fo, oc, p') := by
        rcases hI with ⟨h, _⟩ | h
        · omega
        · exact h
      have hgt := goW_some e
      have ew : wholeM ds p = if oc = 0 ∧ p + 1 < p' then none else some (unfI fo, p') := by rw [wholeM, e]
      tm_at "go"
      tm_at "if"
      · rename_i h0
        tm_at "go"
        tm_at "if"
        · rename_i h1
          rw [if_pos ⟨h0, by omega⟩] at ew
          tm_at "go"
          refine gs_raiseI n (by tm_at "sKd") rfl br (by tm_at "sRoom") hx rfl rfl rfl ?_
          tm_at "go"
          refine ⟨rfl, Nat.le_of_ble_eq_true rfl, fun d => ?_⟩
          apply Clo.mk (k2 ew d)
          tm_at "ent"
        · rename_i h1
          rw [if_neg (fun z => h1 (by omega))] at ew
          tm_at "go"
          refine CallS.mk ⟨fo, rfl, ?_⟩ Ent.refl
          exact Clo.id (k1 _ _ ew)
      · rename_i h0
        rw [if_neg (fun z => h0 z.1)] at ew
        tm_at "go"
        refine CallS.mk ⟨fo, rfl, ?_⟩ Ent.refl
        exact Clo.id (k1 _ _ ew)
theorem call_wh {a dx : Addr} {v : V} {p : Nat} {ds : List Int} {L R : List SA} {K : GK} {kx : KX} (e : Ent T L (rdP Kf a dx v p :: Val (rTl rInt) v ds :: R)) (ho : Oct ds)
    (k1 : ∀ n q, wholeM ds p = some (n, q) → K (.int n) (rdP Kf a dx v q :: Val (rTl rInt) v ds :: R)) (k2 : wholeM ds p = none → ∀ d, kx (BR Kf) (some d) (Val (rTl rInt) v ds :: R)) : spE T (spWh Kf) [.ref a] L K kx := CallS.mk ⟨a, dx, v, p, ds, R, rfl, rfl, ho, k1, k2⟩ e
/-! ### text -/
def spTx (Kf : PySem.W.Frag) : SpL := fun vs L K kx => ∃ (a dx : Addr) (v : V) (p : Nat) (ds : List Int) (R : List SA), vs = [.ref a] ∧ L = rdP Kf a dx v p :: Val (rTl rInt) v ds :: R ∧ Oct ds ∧
  (∀ t q, textM ds p = some (t, q) → K (vOpt t) (rdP Kf a dx v q :: Val (rTl rInt) v ds :: R)) ∧ (textM ds p = none → ∀ d, kx (BR Kf) (some d) (Val (rTl rInt) v ds :: R))
theorem ok_tx (fx : Fx Kf mg) (br : ExiAt P w Kf mg base 1 "BadRecord" ["place"]) (hoc : MeAt T P w Kf mg base 3 "Reader" "octet" (spOct Kf)) (hwh : MeAt T P w Kf mg base 4 "Reader" "whole" (spWh Kf)) (F : FunD Kf "text" "Reader.text" (defArgs s_Reader_text) (defBody s_Reader_text) (defScope s_Reader_text) [] [] f fd) : FnOk P w Kf mg base (L2.CX P w) 5 f fd ["self"] (spOf T (spTx Kf)) := by
  refine def_in F sc_Reader_text (fun vs L K kx h => ?_) (fun A outer s H E hr n vs L KK kx h hx σ hσ => ?_)
  · obtain ⟨a, dx, v, p, ds, R, rfl, _⟩ := h; rfl
  · obtain ⟨a, dx, v, p, ds, R, rfl, rfl, ho, k1, k2⟩ := h
    obtain rfl : σ = [some (.ref a), none, none, none, none, none] := hσ
    obtain ⟨h_int, h_len, h_range, h_tuple, h_abs, ⟨_, h_SG⟩, cR, n1, n2⟩ := fx
    refine gss_cons ?_
    tm_at "go"
    refine call_wh (by tm_at "ent") ho (fun c q hw => ?_) (fun hw d => ?_)
    rotate_left
    · exact Clo.id (k2 (by rw [textM, hw]) d)
    have et : textM ds p = if c = -1 then some (none, q) else if c < 0 ∨ (ds.length : Int) < q + c then none else
      if ((ds.drop q).take c.toNat).all (fun o => decide (o < 76)) = true then some (some ⟨(((ds.drop q).take c.toNat).map sgN).toArray⟩, q + c.toNat) else none := by rw [textM, hw]
    tm_at "go"
    tm_at "if"
    · rename_i hc
      rw [if_pos hc] at et
      tm_at "go"
      exact Clo.id (k1 _ _ et)
    · rename_i hc
      rw [if_neg hc] at et
      tm_at "go"
      tm_at "if"
      · rename_i hneg
        rw [if_pos (.inl hneg)] at et
        tm_at "go"
        refine gs_raiseI n (by tm_at "sKd") rfl br (by tm_at "sRoom") hx rfl rfl rfl ?_
        tm_at "go"
        refine ⟨rfl, Nat.le_of_ble_eq_true rfl, fun d => ?_⟩
        apply Clo.mk (k2 et d)
        tm_at "ent"
      rename_i hneg
      tm_at "go"
      tm_at "if"
      · rename_i hlen
        rw [if_pos (.inr hlen)] at et
        tm_at "go"
        refine gs_raiseI n (by tm_at "sKd") rfl br (by tm_at "sRoom") hx rfl rfl rfl ?_
        tm_at "go"
        refine ⟨rfl, Nat.le_of_ble_eq_true rfl, fun d => ?_⟩
        apply Clo.mk (k2 et d)
        tm_at "ent"
      rename_i hlen
      rw [if_neg (fun z => z.elim hneg hlen)] at et
      obtain ⟨m, rfl⟩ : ∃ m : Nat, c = (m : Int) := ⟨c.toNat, by omega⟩
      rw [Int.toNat_natCast] at et
      have hdl := ho.1
      tm_at "go"
      rename_i pf
      have hsg : SIG.length = 76 := by decide +kernel
      refine gs_forN (fun i σ' L' => ∃ o1 o2, σ' = [some (.ref a), some (.int p), some (.int (m : Nat)), some (.ref pf), o1, o2] ∧ L' = pt pf (.lst ((((ds.drop q).take i).map fun o => (⟨#[sgN o]⟩ : Str)).map V.str)) :: rdP Kf a dx v ((q + i : Nat) : Int) :: Val (rTl rInt) v ds :: R ∧ ((ds.drop q).take i).all (fun o => decide (o < 76)) = true) (m : Nat) (passes_of rfl) rfl (n.gl (by tm_at "sKd")) (by assumption) rfl (fun _ => rfl) ?_ ?_ ?_
      · tm_at "go"
        exact ⟨rfl, by omega, by omega, none, none, rfl, rfl, rfl⟩
      · rintro i σ' L' hi ⟨o1, o2, rfl, rfl, hall⟩
        have hi : i < m := by omega
        obtain ⟨o, hp⟩ : ∃ o, ds[q + i]? = some o := ⟨_, List.getElem?_eq_getElem (by omega)⟩
        have hb := ho.2 o (List.mem_of_getElem? hp)
        have htk : (ds.drop q).take (i + 1) = (ds.drop q).take i ++ [o] := by
          rw [List.take_add_one, List.getElem?_drop, hp]; rfl
        tm_at "go"
        refine call_oct (p := q + i) (by tm_at "ent") ho (fun o' hp' => ?_) (fun hp' => ?_)
        rotate_left
        · rw [hp] at hp'; cases hp'
        rw [hp] at hp'
        cases hp'
        tm_at "go"
        rw [hsg]
        tm_at "if"
        · rename_i h76
          rw [if_neg (fun z => by
            rw [List.all_eq_true] at z
            have hm : o ∈ (ds.drop q).take m := List.mem_of_getElem? (i := i) (by rw [List.getElem?_take, if_pos hi, List.getElem?_drop, hp])
            have := of_decide_eq_true (z o hm)
            omega)] at et
          tm_at "go"
          refine gs_raiseI n (by tm_at "sKd") rfl br (by tm_at "sRoom") hx rfl rfl rfl ?_
          tm_at "go"
          refine ⟨rfl, Nat.le_of_ble_eq_true rfl, fun d => ?_⟩
          apply Clo.mk (k2 et d)
          tm_at "ent"
        · rename_i h76
          tm_at "go"
          refine gi_str (c := sgN o) (by rw [hsg, sizeLine_eq]; decide) ?_ ?_
          · obtain ⟨z, rfl⟩ : ∃ z : Nat, o = (z : Int) := ⟨o.toNat, by omega⟩
            have key : ∀ n : Nat, n < 76 → atI SIG.cps.toList (n : Int) = some (SIG.cps.toList.getD n 0) := by decide +kernel
            exact key z (by omega)
          tm_at "go"
          refine gapp_pt (by tm_at "sRpl") (by rw [List.length_map, List.length_map, List.length_take, sizeLine_eq]; omega) ?_
          tm_at "go"
          tm_at "fits"
          · exact ⟨_, _, rfl, rfl, by rw [htk, List.all_append, hall]; simp; omega⟩
          · rw [htk, List.map_append, List.map_append, show ((q + (i + 1) : Nat) : Int) = ((q + i : Nat) : Int) + 1 from rfl]
            tm_at "ent"
      · rintro σ' L' ⟨o1, o2, rfl, rfl, hall⟩
        rw [Int.toNat_natCast] at hall
        rw [if_pos hall] at et
        rw [Int.toNat_natCast]
        tm_at "go"
        refine ⟨pf, ((ds.drop q).take m).map fun o => (⟨#[sgN o]⟩ : Str), _, rfl, by tm_at "sSel", ?_, ?_⟩
        · have h1 : ∀ l : List Int, ((l.map fun o => (⟨#[sgN o]⟩ : Str)).map (·.length)).sum = l.length := by
            intro l
            induction l with
            | nil => rfl
            | cons o l ih => rw [List.map_cons, List.map_cons, List.sum_cons, ih, List.length_cons]; show 1 + _ = _; omega
          rw [h1, List.length_map, List.length_take]
          show _ + _ * 0 ≤ _
          omega
        · rw [show (((ds.drop q).take m).map fun o => (⟨#[sgN o]⟩ : Str)) = (((ds.drop q).take m).map sgN).map fun c => (⟨#[c]⟩ : Str) from by rw [List.map_map]; rfl, join_signs]
          apply Clo.mk (k1 _ _ et)
          rw [show (((q + m : Nat) : Nat) : Int) = ((q + m : Nat) : Int) from rfl]
          tm_at "ent"
theorem call_tx {a dx : Addr} {v : V} {p : Nat} {ds : List Int} {L R : List SA} {K : GK} {kx : KX} (e : Ent T L (rdP Kf a dx v p :: Val (rTl rInt) v ds :: R)) (ho : Oct ds)
    (k1 : ∀ t q, textM ds p = some (t, q) → K (vOpt t) (rdP Kf a dx v q :: Val (rTl rInt) v ds :: R)) (k2 : textM ds p = none → ∀ d, kx (BR Kf) (some d) (Val (rTl rInt) v ds :: R)) : spE T (spTx Kf) [.ref a] L K kx := CallS.mk ⟨a, dx, v, p, ds, R, rfl, rfl, ho, k1, k2⟩ e
end
end K01
set_option Elab.async false
set_option linter.all false
set_option maxRecDepth 100000
set_option maxHeartbeats 1600000
set_option pp.deepTerms false
set_option pp.deepTerms.threshold 10
set_option pp.maxSteps 500
namespace K01
open PySem PySem.Spec L2 SW
open PyProof.Rows hiding St
local macro_rules | `(tactic| tm_at "sAt") => `(tactic| with_reducible (first | exact At.here | (apply At.there; tm_at "sAt")))
local macro_rules | `(tactic| tm_at "sSlot") => `(tactic| with_reducible (first | exact Slot.here | (apply Slot.there; tm_at "sSlot")))
local macro_rules | `(tactic| tm_at "sKd") => `(tactic| with_reducible (first | exact Kd.here | (apply Kd.there; tm_at "sKd")))
local macro_rules | `(tactic| tm_at "sSel") => `(tactic| with_reducible (first | exact Sel.here | (apply Sel.there; tm_at "sSel")))
local macro_rules | `(tactic| tm_at "sRpl") => `(tactic| with_reducible (first | exact Rpl.here | (apply Rpl.there; tm_at "sRpl")))
local macro_rules | `(tactic| tm_at "sTk") => `(tactic| (first | exact Tk.nil | (apply Tk.cons; (tm_at "sSel"); (tm_at "sTk"))))
local macro_rules | `(tactic| tm_at "sVk") => `(tactic| first
  | exact Vk.l
  | exact Vk.c
  | exact Vk.f)
local macro_rules | `(tactic| tm_at "sLk") => `(tactic| first
  | exact Lk.l
  | exact Lk.c)
local macro_rules | `(tactic| tm_at "sLf") => `(tactic| first
  | exact Or.inl rfl
  | exact Or.inr rfl)
local macro_rules | `(tactic| tm_at "sRoom") => `(tactic| first
  | assumption
  | exact L2.Room.mono (by assumption) (by decide))
local macro_rules | `(tactic| tm_at "sXok") => `(tactic| first
  | assumption
  | exact xok0)
local macro_rules | `(tactic| tm_at "sCv") => `(tactic| (first | with_reducible exact Cv.id | with_reducible exact Cv.lst0 | ((with_reducible refine Cv.pt ?_); tm_at "sEq") | ((with_reducible refine Cv.lst ?_); tm_at "sEq") | ((with_reducible refine Cv.val ?_); tm_at "sEq")))
local macro_rules | `(tactic| tm_at "sEq") => `(tactic| (first | rfl | assumption | (simp; done)))
local macro_rules | `(tactic| tm_at "sSelC") => `(tactic| (first | ((with_reducible apply SelC.here); tm_at "sCv") | ((with_reducible apply SelC.there); tm_at "sSelC")))
local macro_rules | `(tactic| tm_at "fit") => `(tactic| (first | with_reducible exact Fit.refl | with_reducible exact Fit.nil | ((with_reducible apply Fit.find); (case s => tm_at "sSelC"); (case t => tm_at "fit")) | ((with_reducible apply Fit.drop); tm_at "fit")))
local macro_rules | `(tactic| tm_at "sLkF") => `(tactic| with_reducible (first | exact LkF.here | (apply LkF.there (by with_unfolding_all rfl); tm_at "sLkF")))
local macro_rules | `(tactic| tm_at "sNoF") => `(tactic| with_reducible (first | exact NoF.nil | (apply NoF.cons (by with_unfolding_all rfl); tm_at "sNoF")))
local macro_rules | `(tactic| tm_at "sPutF") => `(tactic| with_reducible (first | exact PutF.here | exact PutF.nil | (apply PutF.there (by with_unfolding_all rfl); tm_at "sPutF")))
local macro_rules | `(tactic| tm_at "sHasL") => `(tactic| (first | exact hasL_pt (by tm_at "sSel") | exact hasL_R (by tm_at "sSel")))
local macro_rules | `(tactic| tm_at "sZ") => `(tactic| (first | assumption | (simp only [List.length_cons, List.length_nil, List.length_append, PySem.sizeLine_eq]; omega) | (rw [PySem.sizeLine_eq]; simp; done)))
local macro_rules | `(tactic| tm_at "sIx") => `(tactic| with_unfolding_all rfl)
local macro_rules | `(tactic| tm_at "sSet") => `(tactic| (first | exact SetR.here | (apply SetR.there; tm_at "sSet")))
local macro_rules | `(tactic| tm_at "sPut") => `(tactic| first
  | exact PutAt.c 0 (by with_unfolding_all rfl) (by tm_at "sSet")
  | exact PutAt.c 1 (by with_unfolding_all rfl) (by tm_at "sSet")
  | exact PutAt.c 2 (by with_unfolding_all rfl) (by tm_at "sSet")
  | exact PutAt.c 3 (by with_unfolding_all rfl) (by tm_at "sSet")
  | exact PutAt.c 4 (by with_unfolding_all rfl) (by tm_at "sSet")
  | exact PutAt.c 5 (by with_unfolding_all rfl) (by tm_at "sSet"))
local macro_rules | `(tactic| tm_at "gECall") => `(tactic| first
  | ((guard_target = GE _ _ (Expr.Call (Expr.Name "len" _) _ _ _) _ _ _); (with_reducible refine gb_len (by assumption) (by tm_at "sKd") ?hm ?he ?hpl ?_); (case hm => assumption); (case he => rfl); (case hpl => rfl))
  | ((guard_target = GE _ _ (Expr.Call (Expr.Name "int" _) _ _ _) _ _ _); (with_reducible refine gb_int (by assumption) (by tm_at "sKd") ?hm ?he ?hpl ?_); (case hm => assumption); (case he => rfl); (case hpl => rfl))
  | ((guard_target = GE _ _ (Expr.Call (Expr.Name "str" _) _ _ _) _ _ _); (with_reducible refine gb_str (by assumption) (by tm_at "sKd") ?hm ?he ?hpl ?_); (case hm => assumption); (case he => rfl); (case hpl => rfl))
  | ((guard_target = GE _ _ (Expr.Call (Expr.Name "list" _) _ _ _) _ _ _); (with_reducible refine gb_list (by assumption) (by tm_at "sKd") ?hm ?he ?hpl ?_); (case hm => assumption); (case he => rfl); (case hpl => rfl))
  | ((guard_target = GE _ _ (Expr.Call (Expr.Name "tuple" _) _ _ _) _ _ _); (with_reducible refine gb_tuple (by assumption) (by tm_at "sKd") ?hm ?he ?hpl ?_); (case hm => assumption); (case he => rfl); (case hpl => rfl))
  | ((guard_target = GE _ _ (Expr.Call (Expr.Name "min" _) _ _ _) _ _ _); (with_reducible refine gb_min (by assumption) (by tm_at "sKd") ?hm ?he ?hpl ?_); (case hm => assumption); (case he => rfl); (case hpl => rfl))
  | ((guard_target = GE _ _ (Expr.Call (Expr.Name "max" _) _ _ _) _ _ _); (with_reducible refine gb_max (by assumption) (by tm_at "sKd") ?hm ?he ?hpl ?_); (case hm => assumption); (case he => rfl); (case hpl => rfl))
  | ((guard_target = GE _ _ (Expr.Call (Expr.Name "sum" _) _ _ _) _ _ _); (with_reducible refine gb_sum (by assumption) (by tm_at "sKd") ?hm ?he ?hpl ?_); (case hm => assumption); (case he => rfl); (case hpl => rfl))
  | ((guard_target = GE _ _ (Expr.Call (Expr.Name "sorted" _) _ _ _) _ _ _); (with_reducible refine gb_sorted (by assumption) (by tm_at "sKd") ?hm ?he ?hpl ?_); (case hm => assumption); (case he => rfl); (case hpl => rfl))
  | ((guard_target = GE _ _ (Expr.Call (Expr.Name "abs" _) _ _ _) _ _ _); (with_reducible refine gb_abs (by assumption) (by tm_at "sKd") ?hm ?he ?hpl ?_); (case hm => assumption); (case he => rfl); (case hpl => rfl))
  | ((guard_target = GE _ _ (Expr.Call (Expr.Name "range" _) _ _ _) _ _ _); (with_reducible refine gb_range (by assumption) (by tm_at "sKd") ?hm ?he ?hpl ?_); (case hm => assumption); (case he => rfl); (case hpl => rfl))
  | ((guard_target = GE _ _ (Expr.Call (Expr.Name "any" _) _ _ _) _ _ _); (with_reducible refine gb_any (by assumption) (by tm_at "sKd") ?hm ?he ?hpl ?_); (case hm => assumption); (case he => rfl); (case hpl => rfl))
  | ((guard_target = GE _ _ (Expr.Call (Expr.Name "all" _) _ _ _) _ _ _); (with_reducible refine gb_all (by assumption) (by tm_at "sKd") ?hm ?he ?hpl ?_); (case hm => assumption); (case he => rfl); (case hpl => rfl))
  | ((guard_target = GE _ _ (Expr.Call (Expr.Name "dict" _) _ _ _) _ _ _); (with_reducible refine gb_dict (by assumption) (by tm_at "sKd") ?hm ?he ?hpl ?_); (case hm => assumption); (case he => rfl); (case hpl => rfl))
  | ((guard_target = GE _ _ (Expr.Call (Expr.Name "set" _) _ _ _) _ _ _); (with_reducible refine gb_set (by assumption) (by tm_at "sKd") ?hm ?he ?hpl ?_); (case hm => assumption); (case he => rfl); (case hpl => rfl)))
local macro_rules | `(tactic| tm_at "gECall") => `(tactic| (guard_target = GE _ _ (Expr.Call (Expr.Name "_law_roll" _) (_ :: _) [] _) _ _ _; (refine ge_call (FnAt.e (x := "_law_roll") (by assumption)) (by tm_at "sRoom") (by tm_at "sXok") (Nm.gl (by assumption) (by tm_at "sKd")) ?hdb ?he ?hpl ?_); (case hdb => rfl); (case he => rfl); (case hpl => rfl)))
local macro_rules | `(tactic| tm_at "gECall") => `(tactic| (guard_target = GE _ _ (Expr.Call (Expr.Name "_law_dice" _) (_ :: _) [] _) _ _ _; (refine ge_call (FnAt.e (x := "_law_dice") (by assumption)) (by tm_at "sRoom") (by tm_at "sXok") (Nm.gl (by assumption) (by tm_at "sKd")) ?hdb ?he ?hpl ?_); (case hdb => rfl); (case he => rfl); (case hpl => rfl)))
local macro_rules | `(tactic| tm_at "gECall") => `(tactic| (guard_target = GE _ _ (Expr.Call (Expr.Name "_law_rounds" _) (_ :: _) [] _) _ _ _; (refine ge_call (FnAt.e (x := "_law_rounds") (by assumption)) (by tm_at "sRoom") (by tm_at "sXok") (Nm.gl (by assumption) (by tm_at "sKd")) ?hdb ?he ?hpl ?_); (case hdb => rfl); (case he => rfl); (case hpl => rfl)))
local macro_rules | `(tactic| tm_at "gECall") => `(tactic| (guard_target = GE _ _ (Expr.Call (Expr.Name "_law_deed" _) (_ :: _) [] _) _ _ _; (refine ge_call (FnAt.e (x := "_law_deed") (by assumption)) (by tm_at "sRoom") (by tm_at "sXok") (Nm.gl (by assumption) (by tm_at "sKd")) ?hdb ?he ?hpl ?_); (case hdb => rfl); (case he => rfl); (case hpl => rfl)))
local macro_rules | `(tactic| tm_at "gE") => `(tactic| first
  | ((guard_target = GE _ _ (Expr.Name _ _) _ _ _); (with_reducible refine ge_name (by assumption) (by tm_at "sAt") (by tm_at "sKd") (by tm_at "sVk") rfl ?_))
  | ((guard_target = GE _ _ (Expr.Constant (Const.int _) _ _) _ _ _); (with_reducible refine ge_int ?_))
  | ((guard_target = GE _ _ (Expr.Attribute _ _ _) _ _ _); (with_reducible refine ge_fld ?hb ?_); (case hb => rfl))
  | ((guard_target = GE _ _ (Expr.Subscript _ (Expr.Slice _ _ none _) _) _ _ _); (with_reducible refine ge_slice ?_))
  | ((guard_target = GE _ _ (Expr.Call (Expr.Attribute _ _ _) _ _ _) _ _ _); tm_at "gEMeth")
  | ((guard_target = GE _ _ (Expr.Subscript _ _ _) _ _ _); (with_reducible refine ge_sub ?hs ?_); (case hs => exact fun _ _ => rfl))
  | ((guard_target = GE _ _ (Expr.BinOp _ _ _ _) _ _ _); (with_reducible refine ge_bin ?_))
  | ((guard_target = GE _ _ (Expr.Constant (Const.str _) _ _) _ _ _); (with_reducible refine ge_str ?_))
  | ((guard_target = GE _ _ (Expr.Call (Expr.Name _ _) _ _ _) _ _ _); tm_at "gECall")
  | ((guard_target = GE _ _ (Expr.List _ _) _ _ _); (with_reducible refine ge_lst ?_))
  | ((guard_target = GE _ _ (Expr.Tuple _ _ _) _ _ _); (with_reducible refine ge_tup ?_))
  | ((guard_target = GE _ _ (Expr.Constant Const.none _ _) _ _ _); (with_reducible refine ge_none ?_))
  | ((guard_target = GE _ _ (Expr.Constant (Const.bool _) _ _) _ _ _); (with_reducible refine ge_bl ?_))
  | ((guard_target = GE _ _ (Expr.Compare _ [_] [_] _) _ _ _); (with_reducible refine ge_cmp ?hm ?_); (case hm => first | exact nomark _ | rfl))
  | ((guard_target = GE _ _ (Expr.UnaryOp UnaryOp.Not _ _) _ _ _); (with_reducible refine ge_not ?_))
  | ((guard_target = GE _ _ (Expr.UnaryOp _ _ _) _ _ _); (with_reducible refine ge_un ?_))
  | ((guard_target = GE _ _ (Expr.IfExp _ _ _ _) _ _ _); (with_reducible refine ge_if ?_))
  | ((guard_target = GE _ _ (Expr.Compare _ [_, _] [_, _] _) _ _ _); (with_reducible refine ge_chain ?hm ?_); (case hm => with_unfolding_all rfl))
  | ((guard_target = GE _ _ (Expr.BoolOp _ [_] _) _ _ _); (with_reducible refine ge_one ?_))
  | ((guard_target = GE _ _ (Expr.BoolOp BoolOp.And _ _) _ _ _); (with_reducible refine ge_and ?_))
  | ((guard_target = GE _ _ (Expr.BoolOp BoolOp.Or _ _) _ _ _); (with_reducible refine ge_or ?_)))
local macro_rules | `(tactic| tm_at "gEMeth") => `(tactic| first
  | ((guard_target = GE _ _ (Expr.Call (Expr.Attribute _ "append" _) [_] [] _) _ _ _); (with_reducible refine ge_append ?h1 ?h2 ?h3 ?h4 ?h5 ?_); (case h1 => rfl); (case h2 => rfl); (case h3 => rfl); (case h4 => rfl); (case h5 => rfl))
  | ((guard_target = GE _ _ (Expr.Call (Expr.Attribute _ "extend" _) [_] [] _) _ _ _); (with_reducible refine ge_extend ?h1 ?h2 ?h3 ?h4 ?h5 ?_); (case h1 => rfl); (case h2 => rfl); (case h3 => rfl); (case h4 => rfl); (case h5 => rfl))
  | ((guard_target = GE _ _ (Expr.Call (Expr.Attribute _ "remove" _) [_] [] _) _ _ _); (with_reducible refine ge_remove ?h1 ?h2 ?h3 ?h4 ?h5 ?_); (case h1 => rfl); (case h2 => rfl); (case h3 => rfl); (case h4 => rfl); (case h5 => rfl))
  | ((guard_target = GE _ _ (Expr.Call (Expr.Attribute _ "pop" _) [_] [] _) _ _ _); (with_reducible refine ge_popAt ?h1 ?h2 ?h3 ?h4 ?h5 ?_); (case h1 => rfl); (case h2 => rfl); (case h3 => rfl); (case h4 => rfl); (case h5 => rfl)))
local macro_rules | `(tactic| tm_at "gT") => `(tactic| first
  | ((guard_target = GT _ _ (Expr.Compare _ [_] [_] _) _ _ _); (with_reducible refine gt_cmp ?hm ?_); (case hm => first | exact nomark _ | rfl))
  | ((guard_target = GT _ _ (Expr.UnaryOp UnaryOp.Not _ _) _ _ _); (with_reducible refine gt_not ?_))
  | ((guard_target = GT _ _ (Expr.BoolOp _ _ _) _ _ _); (with_reducible refine gt_bool ?_))
  | ((guard_target = GT _ _ (Expr.Compare _ [_, _] [_, _] _) _ _ _); (with_reducible refine gt_chain ?hm ?_); (case hm => with_unfolding_all rfl))
  | ((guard_target = GT _ _ (Expr.Call _ _ _ _) _ _ _); (with_reducible refine gt_val ?he ?_); (case he => intro _; rfl))
  | ((guard_target = GT _ _ (Expr.Subscript _ _ _) _ _ _); (with_reducible refine gt_val ?he ?_); (case he => intro _; rfl))
  | ((guard_target = GT _ _ (Expr.Name _ _) _ _ _); (with_reducible refine gt_val ?he ?_); (case he => intro _; rfl))
  | ((guard_target = GT _ _ (Expr.Attribute _ _ _) _ _ _); (with_reducible refine gt_val ?he ?_); (case he => intro _; rfl)))
local macro_rules | `(tactic| tm_at "gB") => `(tactic| first
  | ((guard_target = GB _ _ (Expr.BoolOp BoolOp.And [_] _) _ _ _); (with_reducible refine gb_and1 ?_))
  | ((guard_target = GB _ _ (Expr.BoolOp BoolOp.Or [_] _) _ _ _); (with_reducible refine gb_or1 ?_))
  | ((guard_target = GB _ _ (Expr.BoolOp BoolOp.And _ _) _ _ _); (with_reducible refine gb_and ?_))
  | ((guard_target = GB _ _ (Expr.BoolOp BoolOp.Or _ _) _ _ _); (with_reducible refine gb_or ?_)))
local macro_rules | `(tactic| tm_at "gA") => `(tactic| first
  | ((guard_target = GA _ _ ([]) _ _ _); (with_reducible refine ga_nil ?_))
  | ((guard_target = GA _ _ (_ :: _) _ _ _); (with_reducible refine ga_cons ?hst ?_); (case hst => rfl)))
local macro_rules | `(tactic| tm_at "gOp") => `(tactic| first
  | ((guard_target = GOp _ _ (binaryOp Operator.Add) (V.int _) (V.int _) _ _); (with_reducible refine go_add ?_))
  | ((guard_target = GOp _ _ (binaryOp Operator.Sub) (V.int _) (V.int _) _ _); (with_reducible refine go_sub ?_))
  | ((guard_target = GOp _ _ (compareOp CmpOp.Eq) (V.int _) (V.int _) _ _); (with_reducible refine go_eqI ?_))
  | ((guard_target = GOp _ _ (compareOp CmpOp.Lt) (V.int _) (V.int _) _ _); (with_reducible refine go_lt ?_))
  | ((guard_target = GOp _ _ (compareOp CmpOp.LtE) (V.int _) (V.int _) _ _); (with_reducible refine go_le ?_))
  | ((guard_target = GOp _ _ (compareOp CmpOp.Gt) (V.int _) (V.int _) _ _); (with_reducible refine go_gt ?_))
  | ((guard_target = GOp _ _ (compareOp CmpOp.GtE) (V.int _) (V.int _) _ _); (with_reducible refine go_ge ?_))
  | ((guard_target = GOp _ _ (compareOp CmpOp.NotEq) (V.int _) (V.int _) _ _); (with_reducible refine go_neI ?_))
  | ((guard_target = GOp _ _ (binaryOp Operator.Mult) (V.int _) (V.int _) _ _); (with_reducible refine go_mul ?c ?_); (case c => first | (left; constructor <;> omega) | (right; constructor <;> omega)))
  | ((guard_target = GOp _ _ (binaryOp Operator.FloorDiv) (V.int _) (V.int _) _ _); (with_reducible refine go_div ?c ?_); (case c => constructor <;> omega))
  | ((guard_target = GOp _ _ (binaryOp Operator.Mod) (V.int _) (V.int _) _ _); (with_reducible refine go_mod ?c ?_); (case c => omega))
  | ((guard_target = GOp _ _ (compareOp CmpOp.Eq) (V.str _) (V.str _) _ _); (with_reducible refine go_eqT ?_))
  | ((guard_target = GOp _ _ (compareOp CmpOp.NotEq) (V.str _) (V.str _) _ _); (with_reducible refine go_neT ?_))
  | ((guard_target = GOp _ _ (compareOp CmpOp.Eq) (V.bl _) (V.bl _) _ _); (with_reducible refine go_eqB ?_))
  | ((guard_target = GOp _ _ (compareOp CmpOp.NotEq) (V.bl _) (V.bl _) _ _); (with_reducible refine go_neB ?_))
  | ((guard_target = GOp _ _ (compareOp CmpOp.In) (V.int _) (V.ref _) _ _); (with_reducible refine go_inI (by tm_at "sSel") ?_))
  | ((guard_target = GOp _ _ (compareOp CmpOp.NotIn) (V.int _) (V.ref _) _ _); (with_reducible refine go_ninI (by tm_at "sSel") ?_))
  | ((guard_target = GOp _ _ (compareOp CmpOp.In) (V.str _) (V.ref _) _ _); (with_reducible refine go_inT (by tm_at "sSel") ?_))
  | ((guard_target = GOp _ _ (compareOp CmpOp.NotIn) (V.str _) (V.ref _) _ _); (with_reducible refine go_ninT (by tm_at "sSel") ?_))
  | ((guard_target = GOp _ _ (compareOp CmpOp.Eq) (_) (V.non) _ _); (with_reducible refine go_eqS rfl ?_))
  | ((guard_target = GOp _ _ (compareOp CmpOp.NotEq) (_) (V.non) _ _); (with_reducible refine go_neS rfl ?_))
  | ((guard_target = GOp _ _ (compareOp CmpOp.Is) (_) (V.non) _ _); (with_reducible refine go_isN ?_))
  | ((guard_target = GOp _ _ (compareOp CmpOp.IsNot) (_) (V.non) _ _); (with_reducible refine go_notN ?_)))
local macro_rules | `(tactic| tm_at "gC") => `(tactic| first
  | ((guard_target = GC _ _ (Value.type "int") [V.int _] _ _); (with_reducible refine gc_intI ?_))
  | ((guard_target = GC _ _ (Value.type "int") [V.bl _] _ _); (with_reducible refine gc_intB ?_))
  | ((guard_target = GC _ _ (Value.builtin "abs") [V.int _] _ _); (with_reducible refine gc_abs ?_))
  | ((guard_target = GC _ _ (Value.builtin "max") [V.int _, V.int _] _ _); (with_reducible refine gc_max2 ?hc ?_); (case hc => rfl))
  | ((guard_target = GC _ _ (Value.builtin "min") [V.int _, V.int _] _ _); (with_reducible refine gc_min2 ?hc ?_); (case hc => rfl))
  | ((guard_target = GC _ _ (Value.type "range") [V.int _] _ _); (with_reducible refine gc_rng1 ?_))
  | ((guard_target = GC _ _ (Value.type "range") [V.int _, V.int _] _ _); (with_reducible refine gc_rng2 ?_))
  | ((guard_target = GC _ _ (Value.builtin "len") [V.ref _] _ _); (with_reducible refine gc_lenR (by tm_at "sSel") ?_))
  | ((guard_target = GC _ _ (Value.builtin "len") [V.ref _] _ _); (with_reducible refine gc_len (by tm_at "sSel") ?_))
  | ((guard_target = GC _ _ (Value.builtin "len") [V.ref _] _ _); (with_reducible refine gc_lenT (by tm_at "sSel") ?_)))
local macro_rules | `(tactic| tm_at "gF") => `(tactic| first
  | ((guard_target = GF _ _ _ _ _ _); (with_reducible refine gf (by tm_at "sSel") (by tm_at "sLkF") ?hc ?hn ?_); (case hc => assumption); (case hn => assumption))
  | ((guard_target = GFS _ _ _ _ _ _); (with_reducible refine gfs (by tm_at "sRpl") (by tm_at "sPutF") ?hc ?hn ?hz ?_); (case hc => assumption); (case hn => assumption); (case hz => exact Nat.le_of_ble_eq_true rfl))
  | ((guard_target = GFA _ _ _ _ _ _ _ _ _); (with_reducible refine gfa (by tm_at "sSel") (by tm_at "sLkF") ?hc ?hn ?_); (case hc => assumption); (case hn => assumption))
  | ((guard_target = Exists fun _ => Exists fun _ => Exists fun _ => (Rpl _ _ _ _ ∧ _ ∧ _)); (with_reducible refine gfaE (by tm_at "sRpl") (by tm_at "sPutF") ?hz ?_); (case hz => exact Nat.le_of_ble_eq_true rfl))
  | ((guard_target = GAS _ _ _ _ _ _ _ _ _); (with_reducible refine gas (by tm_at "sSel") (by tm_at "sIx") ?_))
  | ((guard_target = (HasL _ _ _ ∧ _)); (with_reducible refine And.intro ?hh ?_); (case hh => tm_at "sHasL"))
  | ((guard_target = (IsIns _ _ _ _ _ ∧ _)); (with_reducible refine And.intro ?hh ?_); (case hh => exact isIns (by tm_at "sSel") (by tm_at "sNoF") (by rfl)))
  | ((guard_target = GApp _ _ _ _ _); (with_reducible refine gapp_pt (by tm_at "sRpl") ?hz ?_); (case hz => tm_at "sZ"))
  | ((guard_target = (List.length _ ≤ PySem.sizeLine ∧ _)); (with_reducible refine And.intro ?hz ?_); (case hz => tm_at "sZ"); intro _)
  | ((guard_target = GIp _ _ Operator.Add (V.int _) (V.int _) _ _); (with_reducible refine gip_add ?_))
  | ((guard_target = GIp _ _ Operator.Sub (V.int _) (V.int _) _ _); (with_reducible refine gip_sub ?_))
  | ((guard_target = GRem _ _ _ _ _); (with_reducible refine grem (by tm_at "sRpl") ?hm ?_); (case hm => assumption))
  | ((guard_target = GO _ _ none _ _ _); (with_reducible refine goN ?_))
  | ((guard_target = GO _ _ (some _) _ _ _); (with_reducible refine goS ?_)))
local macro_rules | `(tactic| tm_at "gIx") => `(tactic| first
  | (with_reducible refine gi_lst (by tm_at "sSel") (by tm_at "sIx") ?_)
  | (with_reducible refine gi_tup (by tm_at "sSel") (by tm_at "sIx") ?_))
local macro_rules | `(tactic| tm_at "gS") => `(tactic| first
  | ((guard_target = GS _ _ (Stmt.Assign [Expr.Name _ _] _ _) _ _ _); (with_reducible refine gs_name (by assumption) (by tm_at "sSlot") (by tm_at "sKd") (by tm_at "sLk") (by tm_at "sLf") ?hsw ?_); (case hsw => rfl))
  | ((guard_target = GS _ _ (Stmt.If _ _ _ _) _ _ _); (with_reducible refine gs_if ?_))
  | ((guard_target = GS _ _ (Stmt.AugAssign (Expr.Name _ _) _ _ _) _ _ _); (with_reducible refine gs_aug (by assumption) (by tm_at "sAt") (by tm_at "sSlot") (by tm_at "sKd") (by tm_at "sLk") (by tm_at "sLf") ?_))
  | ((guard_target = GS _ _ (Stmt.AugAssign (Expr.Attribute _ _ _) _ _ _) _ _ _); (with_reducible refine gs_fldaug ?_))
  | ((guard_target = GS _ _ (Stmt.AugAssign (Expr.Subscript _ _ _) _ _ _) _ _ _); (with_reducible refine gs_augS ?ha ?_); (case ha => intros; rfl))
  | ((guard_target = GS _ _ (Stmt.Return (some _) _) _ _ _); (with_reducible refine gs_ret ?_))
  | ((guard_target = GS _ _ (Stmt.Expr (Expr.Constant _ _ _) _) _ _ _); (with_reducible refine gs_doc ?_))
  | ((guard_target = GS _ _ (Stmt.Expr _ _) _ _ _); (with_reducible refine gs_expr ?hsw ?_); (case hsw => rfl))
  | ((guard_target = GS _ _ (Stmt.Assign [Expr.Attribute _ _ _] _ _) _ _ _); (with_reducible refine gs_fld ?hsw ?_); (case hsw => rfl))
  | ((guard_target = GS _ _ (Stmt.Assign [Expr.Subscript _ _ _] _ _) _ _ _); (with_reducible refine gs_asg ?hsw ?hw ?h1 ?_); (case hsw => rfl); (case hw => rfl); (case h1 => rfl))
  | ((guard_target = GS _ _ (Stmt.Assign [Expr.Tuple _ _ _] _ _) _ _ _); (with_reducible refine gs_asg ?hsw ?hw ?h1 ?_); (case hsw => rfl); (case hw => rfl); (case h1 => rfl))
  | ((guard_target = GS _ _ (Stmt.Return none _) _ _ _); (with_reducible refine gs_retN ?_))
  | ((guard_target = GS _ _ (Stmt.Pass _) _ _ _); (with_reducible refine gs_pass ?_))
  | ((guard_target = GS _ _ (Stmt.Break _) _ _ _); (with_reducible refine gs_break ?_))
  | ((guard_target = GS _ _ (Stmt.Continue _) _ _ _); (with_reducible refine gs_continue ?_)))
local macro_rules | `(tactic| tm_at "gG") => `(tactic| first
  | ((guard_target = GG _ _ (Expr.Name _ _) _ _ _ _); (with_reducible refine gg_name (by assumption) (by tm_at "sSlot") (by tm_at "sKd") (by tm_at "sLk") (by tm_at "sLf") ?_))
  | ((guard_target = GG _ _ (Expr.Subscript _ _ _) _ _ _ _); (with_reducible refine gg_sub ?ha ?_); (case ha => intro _; rfl))
  | ((guard_target = GG _ _ (Expr.Tuple _ _ _) _ _ _ _); (with_reducible refine gg_tup ?hc (by tm_at "sSel") ?hn ?hst ?_); (case hc => rfl); (case hn => rfl); (case hst => rfl)))
local macro_rules | `(tactic| tm_at "g") => `(tactic| first
  | ((guard_target = GE _ _ _ _ _ _); tm_at "gE")
  | ((guard_target = GOp _ _ _ _ _ _ _); tm_at "gOp")
  | ((guard_target = GIx _ _ _ _ _ _); tm_at "gIx")
  | tm_at "gF"
  | ((guard_target = (wipe _ _ = wipe _ _ ∧ _)); refine And.intro rfl ?_)
  | ((guard_target = GGs _ _ [] _ _ _ _); (with_reducible refine ggs_nil ?_))
  | ((guard_target = GGs _ _ (_ :: _) _ _ _ _); (with_reducible refine ggs_cons ?hst ?_); (case hst => rfl))
  | ((guard_target = GTs _ _ [] _ _ _); (with_reducible refine gts_nil ?_))
  | ((guard_target = GTs _ _ [_] _ _ _); (with_reducible refine gts_one ?_))
  | ((guard_target = KB _ _ _); (with_reducible refine KB.mk ?_))
  | ((guard_target = GA _ _ _ _ _ _); tm_at "gA")
  | ((guard_target = GS _ _ _ _ _ _); tm_at "gS")
  | ((guard_target = GSs _ _ (_ :: _) _ _ _); (with_reducible refine gss_cons ?_))
  | ((guard_target = GSs _ _ ([]) _ _ _); (with_reducible refine gss_nil ?_))
  | ((guard_target = GT _ _ _ _ _ _); tm_at "gT")
  | ((guard_target = GB _ _ _ _ _ _); tm_at "gB")
  | ((guard_target = GC _ _ _ _ _ _); tm_at "gC")
  | ((guard_target = GG _ _ _ _ _ _ _); tm_at "gG")
  | ((guard_target = GPutL _ _ _ _ _); (with_reducible refine gput (by tm_at "sRpl") (by tm_at "sPut") ?_))
  | ((guard_target = if true = true then _ else _); (with_reducible refine iteT ?_))
  | ((guard_target = if (!true) = true then _ else _); (with_reducible refine iteNT ?_))
  | ((guard_target = if (!false) = true then _ else _); (with_reducible refine iteNF ?_))
  | ((guard_target = if false = true then _ else _); (with_reducible refine iteF ?_))
  | ((guard_target = Exists _); (with_reducible refine Exists.intro _ (And.intro rfl ?_)))
  | (first | with_reducible refine ite_nI ?_ | with_reducible refine ite_nN ?_ | with_reducible refine ite_nnI ?_ | with_reducible refine ite_nnN ?_ | with_reducible refine ite_nR ?_ | with_reducible refine ite_nnR ?_))
local macro_rules | `(tactic| tm_at "sSetN") => `(tactic| (first | exact SetN.here | (apply SetN.there; tm_at "sSetN")))
local macro_rules | `(tactic| tm_at "sWp") => `(tactic| (first | exact Wp.nil | (apply Wp.cons; (tm_at "sWp"); (tm_at "sSetN"))))
local macro_rules | `(tactic| tm_at "fits") => `(tactic| (first | apply Fits.mk | apply FitL.mk))
local macro_rules | `(tactic| tm_at "ent") => `(tactic| (apply Fit.ent; tm_at "fit"))
local macro_rules | `(tactic| tm_at "go") => `(tactic| repeat (tm_at "g"))
local macro_rules | `(tactic| tm_at "gs") => `(tactic| repeat ((fail_if_success (guard_target = GSs _ _ (_ :: _) _ _ _)); tm_at "g"))
local macro_rules | `(tactic| tm_at "if") => `(tactic| first
  | (with_reducible refine ite_ndec (fun _ => ?_) (fun _ => ?_))
  | (with_reducible refine ite_dec (fun _ => ?_) (fun _ => ?_))
  | (with_reducible refine ite_nb (fun _ => ?_) (fun _ => ?_))
  | (with_reducible refine ite_b (fun _ => ?_) (fun _ => ?_)))
local macro_rules | `(tactic| tm_at "gECall") => `(tactic| (guard_target = GE _ _ (Expr.Call (Expr.Name "folded" _) (_ :: _) [] _) _ _ _; (refine ge_call (FnAt.e (x := "folded") (by assumption)) (by tm_at "sRoom") (by tm_at "sXok") (Nm.gl (by assumption) (by tm_at "sKd")) ?hdb ?he ?hpl ?_); (case hdb => rfl); (case he => rfl); (case hpl => rfl)))
local macro_rules | `(tactic| tm_at "gECall") => `(tactic| (guard_target = GE _ _ (Expr.Call (Expr.Name "unfolded" _) (_ :: _) [] _) _ _ _; (refine ge_call (FnAt.e (x := "unfolded") (by assumption)) (by tm_at "sRoom") (by tm_at "sXok") (Nm.gl (by assumption) (by tm_at "sKd")) ?hdb ?he ?hpl ?_); (case hdb => rfl); (case he => rfl); (case hpl => rfl)))
local macro_rules | `(tactic| tm_at "gECall") => `(tactic| (guard_target = GE _ _ (Expr.Call (Expr.Name "number_octets" _) (_ :: _) [] _) _ _ _; (refine ge_call (FnAt.e (x := "number_octets") (by assumption)) (by tm_at "sRoom") (by tm_at "sXok") (Nm.gl (by assumption) (by tm_at "sKd")) ?hdb ?he ?hpl ?_); (case hdb => rfl); (case he => rfl); (case hpl => rfl)))
local macro_rules | `(tactic| tm_at "gECall") => `(tactic| (guard_target = GE _ _ (Expr.Call (Expr.Name "text_octets" _) (_ :: _) [] _) _ _ _; (refine ge_call (FnAt.e (x := "text_octets") (by assumption)) (by tm_at "sRoom") (by tm_at "sXok") (Nm.gl (by assumption) (by tm_at "sKd")) ?hdb ?he ?hpl ?_); (case hdb => rfl); (case he => rfl); (case hpl => rfl)))
local macro_rules | `(tactic| tm_at "gECall") => `(tactic| (guard_target = GE _ _ (Expr.Call (Expr.Name "sum_of" _) (_ :: _) [] _) _ _ _; (refine ge_call (FnAt.e (x := "sum_of") (by assumption)) (by tm_at "sRoom") (by tm_at "sXok") (Nm.gl (by assumption) (by tm_at "sKd")) ?hdb ?he ?hpl ?_); (case hdb => rfl); (case he => rfl); (case hpl => rfl)))
local macro_rules | `(tactic| tm_at "gECall") => `(tactic| (guard_target = GE _ _ (Expr.Call (Expr.Name "record_octets" _) (_ :: _) [] _) _ _ _; (refine ge_call (FnAt.e (x := "record_octets") (by assumption)) (by tm_at "sRoom") (by tm_at "sXok") (Nm.gl (by assumption) (by tm_at "sKd")) ?hdb ?he ?hpl ?_); (case hdb => rfl); (case he => rfl); (case hpl => rfl)))
local macro_rules | `(tactic| tm_at "gECall") => `(tactic| (guard_target = GE _ _ (Expr.Call (Expr.Name "batch" _) (_ :: _) [] _) _ _ _; (refine ge_call (FnAt.e (x := "batch") (by assumption)) (by tm_at "sRoom") (by tm_at "sXok") (Nm.gl (by assumption) (by tm_at "sKd")) ?hdb ?he ?hpl ?_); (case hdb => rfl); (case he => rfl); (case hpl => rfl)))
local macro_rules | `(tactic| tm_at "gECall") => `(tactic| (guard_target = GE _ _ (Expr.Call (Expr.Name "read_batch" _) (_ :: _) [] _) _ _ _; (refine ge_call (FnAt.e (x := "read_batch") (by assumption)) (by tm_at "sRoom") (by tm_at "sXok") (Nm.gl (by assumption) (by tm_at "sKd")) ?hdb ?he ?hpl ?_); (case hdb => rfl); (case he => rfl); (case hpl => rfl)))
local macro_rules | `(tactic| tm_at "gECall") => `(tactic| (guard_target = GE _ _ (Expr.Call (Expr.Name "read_all" _) (_ :: _) [] _) _ _ _; (refine ge_call (FnAt.e (x := "read_all") (by assumption)) (by tm_at "sRoom") (by tm_at "sXok") (Nm.gl (by assumption) (by tm_at "sKd")) ?hdb ?he ?hpl ?_); (case hdb => rfl); (case he => rfl); (case hpl => rfl)))
local macro_rules | `(tactic| tm_at "gEMeth") => `(tactic| (guard_target = GE _ _ (Expr.Call (Expr.Attribute _ "octet" _) [] _ _) _ _ _; (refine ge_meth0 (MeAt.e (C := "Reader") (m := "octet") (by assumption)) (by tm_at "sRoom") (by tm_at "sXok") ?ht ?_); (case ht => exact ⟨_, rfl⟩)))
local macro_rules | `(tactic| tm_at "gEMeth") => `(tactic| (guard_target = GE _ _ (Expr.Call (Expr.Attribute _ "whole" _) [] _ _) _ _ _; (refine ge_meth0 (MeAt.e (C := "Reader") (m := "whole") (by assumption)) (by tm_at "sRoom") (by tm_at "sXok") ?ht ?_); (case ht => exact ⟨_, rfl⟩)))
local macro_rules | `(tactic| tm_at "gEMeth") => `(tactic| (guard_target = GE _ _ (Expr.Call (Expr.Attribute _ "text" _) [] _ _) _ _ _; (refine ge_meth0 (MeAt.e (C := "Reader") (m := "text") (by assumption)) (by tm_at "sRoom") (by tm_at "sXok") ?ht ?_); (case ht => exact ⟨_, rfl⟩)))
local macro_rules | `(tactic| tm_at "gECall") => `(tactic| (guard_target = GE _ _ (Expr.Call (Expr.Name "Reader" _) (_ :: _) [] _) _ _ _; (refine ge_make (MkAt.e (C := "Reader") (by assumption)) (by tm_at "sRoom") (by tm_at "sXok") (Nm.gl (by assumption) (by tm_at "sKd")) ?hdb ?he ?hpl ?_); (case hdb => rfl); (case he => rfl); (case hpl => rfl); skip))
local macro_rules | `(tactic| tm_at "gC") => `(tactic| ((guard_target = GC _ _ (Value.builtin "len") [_] _ _); (with_reducible refine gc_lenTl (rv_val (by tm_at "sSel")) ?_)))
local macro_rules | `(tactic| tm_at "gIx") => `(tactic| (with_reducible refine gi_tl (rv_val (by tm_at "sSel")) (by assumption) (fun _ => ?_)))
local macro_rules | `(tactic| tm_at "gF") => `(tactic| first
  | ((guard_target = GIp _ _ Operator.Mult (V.int _) (V.int _) _ _); (with_reducible refine gip_mul ?c ?_); (case c => first | (left; constructor <;> omega) | (right; constructor <;> omega)))
  | ((guard_target = GIp _ _ Operator.FloorDiv (V.int _) (V.int _) _ _); (with_reducible refine gip_div ?c ?_); (case c => constructor <;> omega))
  | ((guard_target = GIp _ _ Operator.Mod (V.int _) (V.int _) _ _); (with_reducible refine gip_mod ?c ?_); (case c => omega)))
local macro_rules | `(tactic| tm_at "g") => `(tactic| ((guard_target = GU _ _ (unaryOp UnaryOp.USub) (V.int _) _ _); (with_reducible refine gu_neg ?_)))
local macro_rules | `(tactic| tm_at "gS") => `(tactic| ((guard_target = GS _ _ (Stmt.Assign [Expr.Tuple [Expr.Name _ _, Expr.Name _ _] _ _] (Expr.Tuple [_, _] _ _) _) _ _ _); (refine gs_par2 (by assumption) (by tm_at "sSlot") (fun _ => by tm_at "sSlot") (by tm_at "sKd") (by tm_at "sKd") ?hne ?hc ?hw ?hs ?_); (case hne => with_unfolding_all rfl); (case hc => rfl); (case hw => rfl); (case hs => rfl)))
local macro_rules | `(tactic| tm_at "gOp") => `(tactic| ((guard_target = GOp _ _ (binaryOp Operator.Pow) (V.int _) (V.int _) _ _); (with_reducible refine go_pow ?c ?_); (case c => refine ⟨?_, ?_, ?_⟩ <;> decide)))
local macro_rules | `(tactic| tm_at "g") => `(tactic| ((guard_target = K2 _ [_, _] _); (with_reducible refine K2.mk ?_)))
local macro_rules | `(tactic| tm_at "gE") => `(tactic| ((guard_target = GE _ _ (Expr.Name "SIGNS" _) _ _ _); (refine ge_glob (v := V.str SIG) (Nm.gl (by assumption) (by tm_at "sKd")) (by assumption) ⟨_, rfl⟩ ?_ ?hd); (case hd => rfl)))
local macro_rules | `(tactic| tm_at "gOp") => `(tactic| ((guard_target = GOp _ _ (compareOp CmpOp.NotIn) (V.str ⟨#[_]⟩) (V.str _) _ _); (with_reducible refine go_ninSign ?_)))
local macro_rules | `(tactic| tm_at "gEMeth") => `(tactic| ((guard_target = GE _ _ (Expr.Call (Expr.Attribute _ "index" _) [_] [] _) _ _ _); (with_reducible refine ge_index ?h1 ?h2 ?h3 ?_); (case h1 => rfl); (case h2 => rfl); (case h3 => rfl)))
local macro_rules | `(tactic| tm_at "gEMeth") => `(tactic| ((guard_target = GE _ _ (Expr.Call (Expr.Attribute _ "join" _) [_] [] _) _ _ _); (with_reducible refine ge_join ?h1 ?h2 ?h3 ?_); (case h1 => rfl); (case h2 => rfl); (case h3 => rfl)))
local macro_rules | `(tactic| tm_at "g") => `(tactic| (first | with_reducible refine ite_nT ?_ | with_reducible refine ite_nnT ?_))
local macro_rules | `(tactic| tm_at "gC") => `(tactic| ((guard_target = GC _ _ (Value.builtin "len") [V.str _] _ _); (refine gc_lenS ?hz ?_); (case hz => rw [sizeLine_eq]; omega)))
local macro_rules | `(tactic| tm_at "gIx") => `(tactic| (with_reducible refine gi_tlS cInt (rv_val (by tm_at "sSel")) (by assumption) ?_))
local macro_rules | `(tactic| tm_at "gF") => `(tactic| ((guard_target = (IsIns _ _ _ _ _ ∧ _)); (with_reducible refine And.intro ?hh ?_); (case hh => exact isIns (by tm_at "sSel") (by tm_at "sNoF") (by rfl))))
/-! ### a batch read -/
abbrev Hd := Int × Int × Int × Int × Nat
def hd5 (ds : List Int) (e b t : Int) (p : Nat) : Option Hd := match wholeM ds p with
  | none => none
  | some (many, q) => if many < 1 then none else some (e, b, t, many, q)
def hd4 (ds : List Int) (e b : Int) (p : Nat) : Option Hd := match wholeM ds p with
  | none => none
  | some (t, q) => hd5 ds e b t q
def hd3 (ds : List Int) (e : Int) (p : Nat) : Option Hd := match wholeM ds p with
  | none => none
  | some (b, q) => hd4 ds e b q
def hd2 (ds : List Int) (e : Int) (p : Nat) : Option Hd := match wholeM ds p with
  | none => none
  | some (total, q) => if sumL (SW.cutD ds (some (q : Int)) (some e)) = total then hd3 ds e q else none
def hd1 (ds : List Int) (p : Nat) : Option Hd := match wholeM ds p with
  | none => none
  | some (count, q) => if count < 0 ∨ (ds.length : Int) < q + count then none else hd2 ds (q + count) q
def rc4 (ds : List Int) (m a : Int) (k : Option Str) (p : Nat) : Option (Rec × Nat) := match textM ds p with
  | none => none
  | some (v, q) => some ((m, a, k, v), q)
def rc3 (ds : List Int) (m a : Int) (p : Nat) : Option (Rec × Nat) := match textM ds p with
  | none => none
  | some (k, q) => rc4 ds m a k q
def rc2 (ds : List Int) (m t : Int) (p : Nat) : Option (Rec × Nat) := match wholeM ds p with
  | none => none
  | some (a, q) => rc3 ds m (t + a) q
def recM (ds : List Int) (b t : Int) (p : Nat) : Option (Rec × Nat) := match wholeM ds p with
  | none => none
  | some (m, q) => rc2 ds (b + m) t q
def recsM (ds : List Int) (b t : Int) (p : Nat) : Nat → Option (List Rec × Nat)
  | 0 => some ([], p)
  | n + 1 => match recsM ds b t p n with
    | none => none
    | some (rs, q) => match recM ds b t q with
      | none => none
      | some (r, q') => some (rs ++ [r], q')
def rdB (ds : List Int) (p : Nat) : Option (List Rec × Nat) := match hd1 ds p with
  | none => none
  | some (e, b, t, many, q) => match recsM ds b t q many.toNat with
    | none => none
    | some (rs, q') => if (q' : Int) = e then some (rs, q') else none
def HM (ds : List Int) (p : Nat) : Prop := ∀ x, hd1 ds p = some x → x.2.2.2.1 < 1000000
theorem recs_none {ds : List Int} {b t : Int} {p : Nat} : ∀ {n m : Nat}, n ≤ m → recsM ds b t p n = none → recsM ds b t p m = none
  | n, 0, h, e => by
    have : n = 0 := by omega
    subst this; exact e
  | n, m + 1, h, e => by
    by_cases c : n = m + 1
    · subst c; exact e
    · have := recs_none (m := m) (by omega) e
      rw [recsM, this]
section
variable {T : List (Addr × Str)} {P : Program} {w : World} {Kf : PySem.W.Frag} {mg : Str → Option Value} {base : Heap} {f : Addr} {fd : FuncData}
def spRB (Kf : PySem.W.Frag) : SpL := fun vs L K kx => ∃ (v : V) (p : Nat) (ds : List Int) (R : List SA), vs = [v, .int (p : Nat)] ∧ L = Val (rTl rInt) v ds :: R ∧ Oct ds ∧ HM ds p ∧
  (∀ rs q, rdB ds p = some (rs, q) → ∀ u, K u (Val (rPair (rTl rRec) rInt) u (rs, (q : Int)) :: Val (rTl rInt) v ds :: R)) ∧ (rdB ds p = none → ∀ d, kx (BR Kf) (some d) (Val (rTl rInt) v ds :: R))
theorem ok_rb (fx : Fx Kf mg) (br : ExiAt P w Kf mg base 1 "BadRecord" ["place"]) (hmk : MkAt T P w Kf mg base 1 "Reader" (spRI Kf)) (hwh : MeAt T P w Kf mg base 4 "Reader" "whole" (spWh Kf)) (htx : MeAt T P w Kf mg base 5 "Reader" "text" (spTx Kf)) (hsu : FnAt T P w Kf mg base 1 "sum_of" spSum)
    (F : FunD Kf "read_batch" "read_batch" (defArgs s_read_batch) (defBody s_read_batch) (defScope s_read_batch) [] [] f fd) : FnOk P w Kf mg base (L2.CX P w) 6 f fd ["row", "place"] (spOf T (spRB Kf)) := by
  refine def_in F sc_read_batch (fun vs L K kx h => ?_) (fun A outer s H E hr n vs L KK kx h hx σ hσ => ?_)
  · obtain ⟨v, p, ds, R, rfl, _⟩ := h; rfl
  · obtain ⟨v, p, ds, R, rfl, rfl, ho, hm, k1, k2⟩ := h
    obtain rfl : σ = [some v, some (.int (p : Nat)), none, none, none, none, none, none, none, none, none, none, none, none, none] := hσ
    obtain ⟨h_int, h_len, h_range, h_tuple, h_abs, ⟨_, h_SG⟩, cR, n1, n2⟩ := fx
    refine gss_cons ?_
    tm_at "go"
    intro o dx
    refine CallS.mk ⟨o, dx, v, p, _, rfl, rfl, rfl, ?_⟩ Ent.refl
    tm_at "go"
    refine call_wh (by tm_at "ent") ho (fun c p1 h1 => ?_) (fun h1 d => ?_)
    rotate_left
    · exact Clo.id (k2 (by rw [rdB, hd1, h1]) d)
    have e1 : hd1 ds p = if c < 0 ∨ (ds.length : Int) < p1 + c then none else hd2 ds (p1 + c) p1 := by rw [hd1, h1]
    tm_at "go"
    tm_at "if"
    · rename_i hneg
      rw [if_pos (.inl hneg)] at e1
      tm_at "go"
      refine gs_raiseI n (by tm_at "sKd") rfl br (by tm_at "sRoom") hx rfl rfl rfl ?_
      tm_at "go"
      refine ⟨rfl, Nat.le_of_ble_eq_true rfl, fun d => ?_⟩
      apply Clo.mk (k2 (by rw [rdB, e1]) d)
      tm_at "ent"
    rename_i hneg
    tm_at "go"
    tm_at "if"
    · rename_i hlen
      rw [if_pos (.inr hlen)] at e1
      tm_at "go"
      refine gs_raiseI n (by tm_at "sKd") rfl br (by tm_at "sRoom") hx rfl rfl rfl ?_
      tm_at "go"
      refine ⟨rfl, Nat.le_of_ble_eq_true rfl, fun d => ?_⟩
      apply Clo.mk (k2 (by rw [rdB, e1]) d)
      tm_at "ent"
    rename_i hlen
    rw [if_neg (fun z => z.elim hneg hlen)] at e1
    tm_at "go"
    refine call_wh (by tm_at "ent") ho (fun total p2 h2 => ?_) (fun h2 d => ?_)
    rotate_left
    · exact Clo.id (k2 (by rw [rdB, e1, hd2, h2]) d)
    have e2 : hd2 ds (p1 + c) p1 = if sumL (SW.cutD ds (some (p2 : Int)) (some (p1 + c))) = total then hd3 ds (p1 + c) p2 else none := by rw [hd2, h2]
    tm_at "go"
    refine gsl_tl (rv_val (by tm_at "sSel")) fun v2 => ?_
    tm_at "go"
    refine CallS.mk ⟨v2, _, _, rfl, .inr rfl, ?_⟩ Ent.refl
    tm_at "go"
    tm_at "if"
    · rename_i hs
      rw [if_neg (fun z => hs z)] at e2
      tm_at "go"
      refine gs_raiseI n (by tm_at "sKd") rfl br (by tm_at "sRoom") hx rfl rfl rfl ?_
      tm_at "go"
      refine ⟨rfl, Nat.le_of_ble_eq_true rfl, fun d => ?_⟩
      apply Clo.mk (k2 (by rw [rdB, e1, e2]) d)
      tm_at "ent"
    rename_i hs
    rw [if_pos hs] at e2
    tm_at "go"
    refine call_wh (by tm_at "ent") ho (fun b p3 h3 => ?_) (fun h3 d => ?_)
    rotate_left
    · apply Clo.mk (k2 (by rw [rdB, e1, e2, hd3, h3]) d)
      tm_at "ent"
    tm_at "go"
    refine call_wh (by tm_at "ent") ho (fun t p4 h4 => ?_) (fun h4 d => ?_)
    rotate_left
    · apply Clo.mk (k2 (by rw [rdB, e1, e2, hd3, h3]; simp only [hd4, h4]) d)
      tm_at "ent"
    tm_at "go"
    refine call_wh (by tm_at "ent") ho (fun many p5 h5 => ?_) (fun h5 d => ?_)
    rotate_left
    · apply Clo.mk (k2 (by rw [rdB, e1, e2, hd3, h3]; simp only [hd4, h4, hd5, h5]) d)
      tm_at "ent"
    have e3 : hd1 ds p = if many < 1 then none else some ((p1 : Int) + c, b, t, many, p5) := by rw [e1, e2, hd3, h3]; simp only [hd4, h4, hd5, h5]
    tm_at "go"
    tm_at "if"
    · rename_i hmn
      rw [if_pos hmn] at e3
      tm_at "go"
      refine gs_raiseI n (by tm_at "sKd") rfl br (by tm_at "sRoom") hx rfl rfl rfl ?_
      tm_at "go"
      refine ⟨rfl, Nat.le_of_ble_eq_true rfl, fun d => ?_⟩
      apply Clo.mk (k2 (by rw [rdB, e3]) d)
      tm_at "ent"
    rename_i hmn
    rw [if_neg hmn] at e3
    obtain ⟨m, rfl⟩ : ∃ m : Nat, many = (m : Int) := ⟨many.toNat, by omega⟩
    have hmz : m < 1000000 := by have := hm _ e3; simp only at this; omega
    have e4 : rdB ds p = match recsM ds b t p5 m with
      | none => none
      | some (rs, q') => if (q' : Int) = p1 + c then some (rs, q') else none := by rw [rdB, e3]; simp only [Int.toNat_natCast]
    tm_at "go"
    rename_i pf pt0
    refine GS.ent (L' := LstR rRec pf [] :: rdP Kf o dx v p5 :: Val (rTl rInt) v ds :: R) (by tm_at "ent") ?_
    refine gs_forN (fun i σ' L' => ∃ o1 o2 o3 o4 rs q, σ' = [some v, some (.int (p : Nat)), some (.ref o), some (.int c), some (.int (p1 + c)), some (.int total), some (.int (p2 : Nat)), some (.int b), some (.int t), some (.int (m : Nat)), some (.ref pf), o1, o2, o3, o4] ∧ L' = LstR rRec pf rs :: rdP Kf o dx v (q : Nat) :: Val (rTl rInt) v ds :: R ∧ recsM ds b t p5 i = some (rs, q) ∧ rs.length = i) (m : Nat) (passes_of rfl) rfl (n.gl (by tm_at "sKd")) (by assumption) rfl (fun _ => rfl) ?_ ?_ ?_
    · tm_at "go"
      exact ⟨rfl, by omega, by omega, none, none, none, none, [], p5, rfl, rfl, rfl, rfl⟩
    · rintro i σ' L' hi ⟨o1, o2, o3, o4, rs, q, rfl, rfl, er, hl⟩
      have hi : i < m := by omega
      have bad : recM ds b t q = none → rdB ds p = none := fun z => by
        have : recsM ds b t p5 (i + 1) = none := by rw [recsM, er]; simp only [z]
        rw [e4, recs_none (by omega) this]
      tm_at "go"
      refine call_wh (by tm_at "ent") ho (fun mk q1 g1 => ?_) (fun g1 d => ?_)
      rotate_left
      · apply Clo.mk (k2 (bad (by rw [recM, g1])) d)
        tm_at "ent"
      tm_at "go"
      refine call_wh (by tm_at "ent") ho (fun at' q2 g2 => ?_) (fun g2 d => ?_)
      rotate_left
      · apply Clo.mk (k2 (bad (by rw [recM, g1]; simp only [rc2, g2])) d)
        tm_at "ent"
      tm_at "go"
      refine call_tx (by tm_at "ent") ho (fun ky q3 g3 => ?_) (fun g3 d => ?_)
      rotate_left
      · apply Clo.mk (k2 (bad (by rw [recM, g1]; simp only [rc2, g2, rc3, g3])) d)
        tm_at "ent"
      tm_at "go"
      refine call_tx (by tm_at "ent") ho (fun va q4 g4 => ?_) (fun g4 d => ?_)
      rotate_left
      · apply Clo.mk (k2 (bad (by rw [recM, g1]; simp only [rc2, g2, rc3, g3, rc4, g4])) d)
        tm_at "ent"
      have eg : recM ds b t q = some ((b + mk, t + at', ky, va), q4) := by rw [recM, g1]; simp only [rc2, g2, rc3, g3, rc4, g4]
      tm_at "go"
      refine gapp_R (d := (b + mk, t + at', ky, va)) (by tm_at "sRpl") (by rw [hl, sizeLine_eq]; omega) (rv_quad (by tm_at "sSel") rv_int rv_int (rv_scal cOpt (text_good g3)) (rv_scal cOpt (text_good g4))) ?_
      tm_at "go"
      tm_at "fits"
      · exact ⟨_, _, _, _, rs ++ [(b + mk, t + at', ky, va)], q4, rfl, rfl, by rw [recsM, er]; simp only [eg], by simp [hl]⟩
      · tm_at "ent"
    · rintro σ' L' ⟨o1, o2, o3, o4, rs, q, rfl, rfl, er, hl⟩
      rw [Int.toNat_natCast] at er
      rw [er] at e4
      simp only at e4
      tm_at "go"
      tm_at "if"
      · rename_i hq
        rw [if_neg (fun z => hq z)] at e4
        tm_at "go"
        refine gs_raiseI n (by tm_at "sKd") rfl br (by tm_at "sRoom") hx rfl rfl rfl ?_
        tm_at "go"
        refine ⟨rfl, Nat.le_of_ble_eq_true rfl, fun d => ?_⟩
        apply Clo.mk (k2 e4 d)
        tm_at "ent"
      · rename_i hq
        rw [if_pos hq] at e4
        tm_at "go"
        refine gc_tupleR (by tm_at "sSel") fun u => ?_
        tm_at "go"
        rename_i pr
        apply Clo.mk (k1 _ _ e4 (.ref pr))
        rw [← hq]
        refine Ent.trans (ent_val (rv_pair (by tm_at "sSel") (rv_val (d := rs) (by tm_at "sSel")) (rv_int (i := (q : Nat))))) ?_
        tm_at "ent"
/-! ### read_all -/
inductive RunA (ds : List Int) : Nat → List (List Rec) → Nat → Prop
  | fin {p} : ds.length ≤ p → RunA ds p [] p
  | bad {p} : p < ds.length → HM ds p → rdB ds p = none → RunA ds p [] p
  | step {p q e rs rss} : p < ds.length → HM ds p → rdB ds p = some (rs, q) → RunA ds q rss e → RunA ds p (rs :: rss) e
def spRA (Kf : PySem.W.Frag) : SpL := fun vs L K kx => ∃ (v : V) (ds : List Int) (rss : List (List Rec)) (e : Nat) (R : List SA), vs = [v] ∧ L = Val (rTl rInt) v ds :: R ∧ Oct ds ∧ RunA ds 0 rss e ∧ rss.length < 1000 ∧
  ∀ u, K u (Val (rPair (rTl (rTl rRec)) rInt) u (rss, (e : Int)) :: Val (rTl rInt) v ds :: R)
theorem call_rb {v : V} {p : Nat} {ds : List Int} {L R : List SA} {K : GK} {kx : KX} (e : Ent T L (Val (rTl rInt) v ds :: R)) (ho : Oct ds) (hm : HM ds p)
    (k1 : ∀ rs q, rdB ds p = some (rs, q) → ∀ u, K u (Val (rPair (rTl rRec) rInt) u (rs, (q : Int)) :: Val (rTl rInt) v ds :: R)) (k2 : rdB ds p = none → ∀ d, kx (BR Kf) (some d) (Val (rTl rInt) v ds :: R)) : spE T (spRB Kf) [v, .int (p : Nat)] L K kx := CallS.mk ⟨v, p, ds, R, rfl, rfl, ho, hm, k1, k2⟩ e
theorem ok_ra (fx : Fx Kf mg) (br : ExiAt P w Kf mg base 1 "BadRecord" ["place"]) (em : PySem.W.exmOne Kf (BR Kf) (BR Kf) = some true) (hrb : FnAt T P w Kf mg base 6 "read_batch" (spRB Kf))
    (F : FunD Kf "read_all" "read_all" (defArgs s_read_all) (defBody s_read_all) (defScope s_read_all) [] [] f fd) : FnOk P w Kf mg base (L2.CX P w) 8 f fd ["row"] (spOf T (spRA Kf)) := by
  refine def_in F sc_read_all (fun vs L K kx h => ?_) (fun A outer s H E hr n vs L KK kx h hx σ hσ => ?_)
  · obtain ⟨v, ds, rss, e, R, rfl, _⟩ := h; rfl
  · obtain ⟨v, ds, rss, e, R, rfl, rfl, ho, hrun, hlr, k⟩ := h
    obtain rfl : σ = [some v, none, none, none] := hσ
    obtain ⟨h_int, h_len, h_range, h_tuple, h_abs, ⟨_, h_SG⟩, cR, n1, n2⟩ := fx
    have hbr := br.glo
    refine gss_cons ?_
    tm_at "go"
    rename_i pf
    refine GS.ent (L' := LstR (rTl rRec) pf [] :: Val (rTl rInt) v ds :: R) (by tm_at "ent") ?_
    refine gs_while (fun m σ' L' => ∃ o acc rest p, σ' = [some v, some (.ref pf), some (.int (p : Nat)), o] ∧ L' = LstR (rTl rRec) pf acc :: Val (rTl rInt) v ds :: R ∧ acc ++ rest = rss ∧ RunA ds p rest e ∧ rest.length = m) (passes_of rfl) rss.length ⟨none, [], rss, 0, rfl, rfl, rfl, hrun, rfl⟩ ?_
    rintro m σ' L' ⟨o, acc, rest, p, rfl, rfl, ea, hrun, hm⟩
    tm_at "go"
    tm_at "if"
    · rename_i hlt
      have hlt : p < ds.length := by omega
      refine gss_cons ?_
      refine gs_try n (by tm_at "sKd") rfl rfl rfl hbr hx fun pn xe n' hp' hx' => ?_
      refine gss_cons ?_
      refine gs_asg rfl rfl rfl ?_
      refine ge_callS (FnAt.e hrb) (by tm_at "sRoom") hx' (n'.gl (by tm_at "sKd")) rfl rfl rfl ?_
      tm_at "go"
      have hHM : HM ds p := by
        cases hrun with
        | fin h => omega
        | bad _ h _ => exact h
        | step _ h _ _ => exact h
      refine call_rb (by tm_at "ent") ho hHM (fun rs q hq u => ?_) (fun hq d => ?_)
      · tm_at "go"
        refine gg_pairL cInt (rv_val (by tm_at "sSel")) rfl rfl rfl fun x _ => ?_
        tm_at "go"
        have hacc : acc.length < 1000 := by rw [← ea, List.length_append] at hlr; omega
        refine gapp_R (d := rs) (by tm_at "sRpl") (by rw [sizeLine_eq]; omega) (rv_val (by tm_at "sSel")) ?_
        tm_at "go"
        cases hrun with
        | fin h => omega
        | bad _ _ h => rw [hq] at h; cases h
        | @step _ q' _ rs' rss' _ _ h hr2 =>
          rw [hq] at h
          cases h
          refine ⟨rss'.length, by rw [← hm]; simp, ?_⟩
          tm_at "fits"
          · exact ⟨_, acc ++ [rs], rss', q, rfl, rfl, by rw [← ea]; simp, hr2, rfl⟩
          · tm_at "ent"
      · refine ⟨true, em, fun _ a pn' => ?_, fun z => by cases z⟩
        obtain ⟨rfl, rfl⟩ : rest = [] ∧ p = e := by
          cases hrun with
          | fin h => omega
          | bad _ _ h => exact ⟨rfl, rfl⟩
          | step _ _ h hr2 => rw [hq] at h; cases h
        rw [List.append_nil] at ea
        subst ea
        tm_at "go"
        refine gc_tupleR (by tm_at "sSel") fun u => ?_
        tm_at "go"
        rename_i pr
        apply Clo.mk (k (.ref pr))
        refine Ent.trans (ent_val (rv_pair (by tm_at "sSel") (rv_val (d := acc) (by tm_at "sSel")) (rv_int (i := (p : Nat))))) ?_
        tm_at "ent"
    · rename_i hlt
      obtain ⟨rfl, rfl⟩ : rest = [] ∧ p = e := by
        cases hrun with
        | fin h => exact ⟨rfl, rfl⟩
        | bad h _ _ => omega
        | step h _ _ _ => omega
      rw [List.append_nil] at ea
      subst ea
      tm_at "go"
      refine gc_tupleR (by tm_at "sSel") fun u => ?_
      tm_at "go"
      rename_i pr
      apply Clo.mk (k (.ref pr))
      refine Ent.trans (ent_val (rv_pair (by tm_at "sSel") (rv_val (d := acc) (by tm_at "sSel")) (rv_int (i := (p : Nat))))) ?_
      tm_at "ent"
end
end K01
set_option Elab.async false
set_option linter.all false
set_option maxRecDepth 100000
namespace K01
open PySem PySem.Spec L2 SW
open PyProof.Rows hiding St
theorem cut_to {α : Type} {ds : List α} {k : Nat} : SW.cutD ds none (some (k : Int)) = ds.take k := by
  show (ds.drop 0).take (min k ds.length - 0) = _
  rw [List.drop_zero, Nat.sub_zero, List.take_eq_take_iff]; omega
theorem cut_from {α : Type} {ds : List α} {k : Nat} : SW.cutD ds (some (k : Int)) none = ds.drop k := by
  show (ds.drop (min k ds.length)).take (ds.length - min k ds.length) = _
  rw [List.take_of_length_le (by rw [List.length_drop]; omega)]
  by_cases h : k ≤ ds.length
  · rw [Nat.min_eq_left h]
  · rw [Nat.min_eq_right (by omega), List.drop_length, List.drop_eq_nil_of_le (by omega)]
/-! ### the law's records -/
abbrev KEYS : List (Option Str) := [none, some "a", some "key"]
abbrev VALS : List (Option Str) := [some "", some "x", some "some words"]
structure LawR (rs : List Rec) : Prop where
  ne : rs ≠ []
  len : rs.length ≤ 4
  all : ∀ r ∈ rs, (-100 ≤ r.1 ∧ r.1 < 410) ∧ (-300 ≤ r.2.1 ∧ r.2.1 < 700) ∧ r.2.2.1 ∈ KEYS ∧ r.2.2.2 ∈ VALS
def sumQ (ds : List Int) : Int × Int := ds.foldl (fun p o => ((p.1 + o) % 65521, (p.2 + (p.1 + o)) % 65521)) (1, 0)
def spoilO (ds : List Int) (k : Nat) (o : Int) : List Int := ds.take k ++ [o] ++ ds.drop (k + 1)
structure Pure : Prop where
  oct : ∀ rs, LawR rs → Oct (batO rs) ∧ (batO rs).length ≤ 300 ∧ 0 < (batO rs).length
  back : ∀ rs, LawR rs → ∀ pre suf, rdB (pre ++ batO rs ++ suf) pre.length = some (rs, pre.length + (batO rs).length) ∧ HM (pre ++ batO rs ++ suf) pre.length
  cut : ∀ rs, LawR rs → ∀ pre k, k < (batO rs).length → rdB (pre ++ (batO rs).take k) pre.length = none ∧ HM (pre ++ (batO rs).take k) pre.length
  spoil : ∀ rs, LawR rs → ∀ (k : Nat) (o x : Int), (batO rs)[k]? = some o → 0 ≤ x → x < 255 → HM (spoilO (batO rs) k ((o + 1 + x) % 256)) 0 ∧ ∀ q, rdB (spoilO (batO rs) k ((o + 1 + x) % 256)) 0 ≠ some (rs, q)
  sum : ∀ ds, sumQ ds = sumP ds
  fold : ∀ n, unfI (foldI n) = n
theorem goodK {t : Option Str} (h : t ∈ KEYS ∨ t ∈ VALS) : goodT t ∧ optGood t := by
  have key : ∀ t ∈ KEYS ++ VALS, goodT t ∧ optGood t := by
    intro t ht
    simp only [List.cons_append, List.nil_append, List.mem_cons, List.not_mem_nil, or_false] at ht
    rcases ht with rfl | rfl | rfl | rfl | rfl | rfl
    · exact ⟨True.intro, rfl⟩
    all_goals exact ⟨⟨by decide +kernel, by decide +kernel⟩, by show PyData.canLay0 _ = true; decide +kernel⟩
  exact key t (List.mem_append.mpr h)
theorem LawR.good {rs : List Rec} (h : LawR rs) : ∀ r ∈ rs, GoodR r := fun r hr => by
  obtain ⟨h1, h2, h3, h4⟩ := h.all r hr
  exact ⟨by omega, by omega, (goodK (.inl h3)).1, (goodK (.inr h4)).1⟩
theorem sumQ_succ {ds : List Int} {i : Nat} {d : Int} (h : ds[i]? = some d) : sumQ (ds.take (i + 1)) = (((sumQ (ds.take i)).1 + d) % 65521, ((sumQ (ds.take i)).2 + ((sumQ (ds.take i)).1 + d)) % 65521) := by
  rw [List.take_add_one, h]; simp [sumQ, List.foldl_append]
end K01
set_option Elab.async false
set_option linter.all false
set_option maxRecDepth 100000
set_option maxHeartbeats 1600000
/-! The plain law of k01: what is read is what was put. -/
namespace K01
open PySem PySem.Spec L2 SW
open PyProof.Rows hiding St
/-! ### tokens -/
def val : List Int → Int
  | [] => 0
  | o :: t => o % 128 + 128 * val t
def lastO : List Int → Int
  | [] => 0
  | [o] => o
  | _ :: o :: t => lastO (o :: t)
def IsTok : List Int → Prop
  | [] => False
  | [o] => 0 ≤ o ∧ o ≤ 127
  | o :: o2 :: t => 127 < o ∧ IsTok (o2 :: t)
theorem at_get {ds r : List Int} {p : Nat} {o : Int} (h : ds.drop p = o :: r) : ds[p]? = some o := by
  have : (ds.drop p)[0]? = some o := by rw [h]; rfl
  rwa [List.getElem?_drop, Nat.add_zero] at this
theorem at_next {ds r t : List Int} {p : Nat} (h : ds.drop p = t ++ r) : ds.drop (p + t.length) = r := by
  rw [← List.drop_drop, h, List.drop_left]
theorem at_nil {ds : List Int} {p : Nat} (h : ds.drop p = []) : ds[p]? = none := by
  have : (ds.drop p)[0]? = none := by rw [h]; rfl
  rwa [List.getElem?_drop, Nat.add_zero] at this
theorem goW_tok {ds : List Int} : ∀ (t : List Int) {f p : Nat} {r : List Int} {fo mu : Int}, ds.drop p = t ++ r → IsTok t → goW ds f p fo mu = if t.length < f then some (fo + val t * mu, lastO t, p + t.length) else none
  | [], _, _, _, _, _, _, h => h.elim
  | [o], f, p, r, fo, mu, e, h => by
    obtain ⟨h0, h1⟩ := h
    cases f with
    | zero => rw [goW, if_neg (by omega)]
    | succ f =>
      rw [goW, at_get (show ds.drop p = o :: r from e)]
      simp only
      cases f with
      | zero => rw [if_pos rfl, if_neg (by simp)]
      | succ f =>
        rw [if_neg (by omega), if_neg (by omega), if_pos (by simp)]
        simp only [val, lastO, List.length_cons, List.length_nil, Int.mul_zero, Int.add_zero, Nat.zero_add]
  | o :: o2 :: t, f, p, r, fo, mu, e, h => by
    obtain ⟨h0, h1⟩ := h
    cases f with
    | zero => rw [goW, if_neg (by omega)]
    | succ f =>
      rw [goW, at_get (show ds.drop p = o :: (o2 :: t ++ r) from e)]
      simp only
      have e2 : ds.drop (p + 1) = o2 :: t ++ r := at_next (t := [o]) e
      rw [if_pos h0, goW_tok (o2 :: t) e2 h1]
      by_cases hf : f = 0
      · subst hf
        rw [if_pos rfl, if_neg (by simp)]
      · rw [if_neg hf]
        by_cases hl : (o2 :: t).length < f
        · rw [if_pos hl, if_pos (by simp only [List.length_cons] at hl ⊢; omega)]
          congr 1
          simp only [val, lastO, List.length_cons, Prod.mk.injEq, true_and]
          refine ⟨?_, by omega⟩
          simp only [Int.add_mul, Int.mul_add, Int.mul_assoc, Int.add_assoc, Int.mul_comm, Int.mul_left_comm]
        · rw [if_neg hl, if_neg (by simp only [List.length_cons] at hl ⊢; omega)]
/-- a cut token -/
theorem goW_cut {ds : List Int} : ∀ (t : List Int) {f p : Nat} {fo mu : Int}, ds.drop p = t → (∀ o ∈ t, 127 < o) → goW ds f p fo mu = none
  | [], f, p, fo, mu, e, h => by
    cases f with
    | zero => rfl
    | succ f => rw [goW, at_nil e]
  | o :: t, f, p, fo, mu, e, h => by
    cases f with
    | zero => rfl
    | succ f =>
      rw [goW, at_get e]
      simp only
      have e2 : ds.drop (p + 1) = t := at_next (t := [o]) e
      rw [if_pos (h o List.mem_cons_self), goW_cut t e2 fun x hx => h x (List.mem_cons_of_mem _ hx)]
      split <;> rfl
theorem whole_tok {ds t r : List Int} {p : Nat} (e : ds.drop p = t ++ r) (h : IsTok t) (hl : t.length < 14) : wholeM ds p = if lastO t = 0 ∧ 1 < t.length then none else some (unfI (val t), p + t.length) := by
  rw [wholeM, goW_tok t e h, if_pos hl]
  simp only [Int.zero_add, Int.mul_one]
  by_cases c : lastO t = 0 ∧ 1 < t.length
  · rw [if_pos c, if_pos ⟨c.1, by omega⟩]
  · rw [if_neg c, if_neg (fun z => c ⟨z.1, by omega⟩)]
theorem whole_cut {ds t : List Int} {p : Nat} (e : ds.drop p = t) (h : ∀ o ∈ t, 127 < o) : wholeM ds p = none := by
  rw [wholeM, goW_cut t e h]
theorem octN_tok : ∀ (k m : Nat), m < 128 ^ k → 0 < k → IsTok (octN m) ∧ val (octN m) = m ∧ (m ≠ 0 → lastO (octN m) ≠ 0) ∧ (m ≤ 127 → (octN m).length = 1) ∧ (∀ o ∈ octN m, 0 ≤ o ∧ o < 256)
  | 0, m, _, h => absurd h (by decide)
  | k + 1, m, hm, _ => by
    by_cases h : m ≤ 127
    · rw [octN_1 h]
      refine ⟨⟨by omega, by omega⟩, ?_, fun z => ?_, fun _ => rfl, fun o ho => ?_⟩
      · simp only [val]; omega
      · simp only [lastO]; omega
      · cases List.mem_singleton.mp ho; omega
    · have hk : 0 < k := by
        cases k with
        | zero => simp at hm; omega
        | succ k => omega
      obtain ⟨h1, h2, h3, h4, h5⟩ := octN_tok k (m / 128) (by rw [Nat.pow_succ] at hm; omega) hk
      rw [octN_2 h]
      have h6 : lastO (octN (m / 128)) ≠ 0 := h3 (by omega)
      cases ho : octN (m / 128) with
      | nil => rw [ho] at h1; exact h1.elim
      | cons o2 t =>
        rw [ho] at h1 h2 h5 h6
        refine ⟨⟨by omega, h1⟩, ?_, fun _ => h6, fun z => absurd z h, fun o hh => ?_⟩
        · rw [val, h2]; omega
        · rcases List.mem_cons.mp hh with rfl | hh
          · omega
          · exact h5 o hh
theorem octI_tok {n : Int} (h : foldI n < 2 ^ 91) : IsTok (octI n) ∧ val (octI n) = foldI n ∧ (foldI n ≠ 0 → lastO (octI n) ≠ 0) ∧ (foldI n ≤ 127 → (octI n).length = 1) ∧ (∀ o ∈ octI n, 0 ≤ o ∧ o < 256) := by
  have h0 := foldI_nn n
  have e : (128 : Nat) ^ 13 = 2 ^ 91 := by decide
  obtain ⟨h1, h2, h3, h4, h5⟩ := octN_tok 13 (foldI n).toNat (by omega) (by decide)
  exact ⟨h1, by rw [octI, h2]; omega, fun z => h3 (by omega), fun z => h4 (by omega), h5⟩
theorem unf_fold (n : Int) : unfI (foldI n) = n := by
  unfold unfI foldI
  split <;> split <;> omega
theorem whole_oct {ds r : List Int} {p : Nat} {n : Int} (e : ds.drop p = octI n ++ r) (h : foldI n < 2 ^ 91) : wholeM ds p = some (n, p + (octI n).length) := by
  obtain ⟨h1, h2, h3, h4, h5⟩ := octI_tok h
  have hl := octI_len h
  rw [whole_tok e h1 (by omega), if_neg, h2, unf_fold]
  rintro ⟨c1, c2⟩
  by_cases z : foldI n = 0
  · have := h4 (by omega); omega
  · exact h3 z c1
theorem sg_back : ∀ c ∈ SIG.cps.toList, sgN (sgI c) = c ∧ 0 ≤ sgI c ∧ sgI c < 76 := by decide +kernel
theorem text_txt {ds r : List Int} {p : Nat} {t : Option Str} (e : ds.drop p = txtO t ++ r) (g : goodT t) : textM ds p = some (t, p + (txtO t).length) := by
  cases t with
  | none =>
    rw [textM, whole_oct (n := -1) e (by decide)]
    simp only [if_pos]
    rfl
  | some z =>
    obtain ⟨g1, g2⟩ := g
    have hz : z.cps.toList.length = z.length := Array.length_toList
    have e' : ds.drop p = octI (z.length : Nat) ++ (z.cps.toList.map sgI ++ r) := by rw [e, txtO, List.append_assoc]
    have en := at_next e'
    have hlen : (ds.drop (p + (octI (z.length : Nat)).length)).length = z.length + r.length := by rw [en, List.length_append, List.length_map, hz]
    rw [List.length_drop] at hlen
    have hq : p + (octI (z.length : Nat)).length ≤ ds.length := by
      have h1 : (ds.drop p).length = (octI (z.length : Nat)).length + (z.length + r.length) := by rw [e', List.length_append, List.length_append, List.length_map, hz]
      have h2 : 1 ≤ (octI (z.length : Nat)).length := by
        have := (octI_tok (n := (z.length : Nat)) (foldI_lt (by omega) (by omega))).1
        cases ho : octI (z.length : Nat) with
        | nil => rw [ho] at this; exact this.elim
        | cons o t => simp
      rw [List.length_drop] at h1
      omega
    rw [textM, whole_oct (n := (z.length : Nat)) e' (foldI_lt (by omega) (by omega))]
    simp only
    rw [if_neg (by omega), if_neg (by omega), Int.toNat_natCast, en]
    have et : (z.cps.toList.map sgI ++ r).take z.length = z.cps.toList.map sgI := by
      rw [List.take_append_of_le_length (by rw [List.length_map, hz]; exact Nat.le_refl _), List.take_of_length_le (by rw [List.length_map, hz]; exact Nat.le_refl _)]
    rw [et, if_pos]
    · congr 1
      refine Prod.ext ?_ ?_
      · show some (⟨(List.map sgN (List.map sgI z.cps.toList)).toArray⟩ : Str) = some z
        have : List.map sgN (List.map sgI z.cps.toList) = z.cps.toList := by
          rw [List.map_map]
          conv => rhs; rw [← List.map_id z.cps.toList]
          exact List.map_congr_left fun c hc => (sg_back c (g2 c hc)).1
        rw [this]
      · show _ = p + (txtO (some z)).length
        rw [txtO, List.length_append, List.length_map, hz, Nat.add_assoc]
    · rw [List.all_map, List.all_eq_true]
      intro c hc
      exact decide_eq_true (sg_back c (g2 c hc)).2.2
theorem rec_rec {ds R : List Int} {p : Nat} {r : Rec} {b t : Int} (e : ds.drop p = recO r b t ++ R) (g : GoodR r) (hb : -(2 ^ 58) < b ∧ b < 2 ^ 58) (ht : -(2 ^ 58) < t ∧ t < 2 ^ 58) : recM ds b t p = some (r, p + (recO r b t).length) := by
  obtain ⟨m, a, ke, va⟩ := r
  obtain ⟨gm, gt, gk, gv⟩ := g
  simp only at gm gt gk gv
  simp only [recO, List.append_assoc] at e
  have e2 := at_next e
  have e3 := at_next e2
  have e4 := at_next e3
  rw [recM, whole_oct e (foldI_lt (by omega) (by omega))]
  simp only
  rw [rc2, whole_oct e2 (foldI_lt (by omega) (by omega))]
  simp only
  rw [rc3, text_txt e3 gk]
  simp only
  rw [rc4, text_txt e4 gv]
  simp only [recO, List.length_append]
  congr 1
  refine Prod.ext (Prod.ext ?_ (Prod.ext ?_ rfl)) ?_
  · show b + (m - b) = m; omega
  · show t + (a - t) = a; omega
  · show _ + _ = _; omega
theorem recs_all {ds R : List Int} {p : Nat} {rs : List Rec} {b t : Int} (e : ds.drop p = (rs.flatMap fun r => recO r b t) ++ R) (g : ∀ r ∈ rs, GoodR r) (hb : -(2 ^ 58) < b ∧ b < 2 ^ 58) (ht : -(2 ^ 58) < t ∧ t < 2 ^ 58) :
    ∀ n, n ≤ rs.length → recsM ds b t p n = some (rs.take n, p + ((rs.take n).flatMap fun r => recO r b t).length) := by
  intro n
  induction n with
  | zero => intro _; rfl
  | succ n ih =>
    intro hn
    rw [recsM, ih (by omega)]
    simp only
    have hr : rs[n]? = some rs[n] := List.getElem?_eq_getElem (by omega)
    have hsp : rs = rs.take n ++ rs[n] :: rs.drop (n + 1) := by rw [← List.drop_eq_getElem_cons (by omega), List.take_append_drop]
    have e2 : ds.drop p = ((rs.take n).flatMap fun r => recO r b t) ++ (recO rs[n] b t ++ (((rs.drop (n + 1)).flatMap fun r => recO r b t) ++ R)) := by
      rw [e]
      conv => lhs; rw [hsp]
      simp only [List.flatMap_append, List.flatMap_cons, List.append_assoc]
    rw [rec_rec (at_next e2) (g _ (List.getElem_mem _)) hb ht]
    simp only
    rw [List.take_add_one, hr]
    simp only [Option.toList, List.flatMap_append, List.flatMap_cons, List.flatMap_nil, List.append_nil, List.length_append, Nat.add_assoc]
end K01
set_option Elab.async false
set_option linter.all false
set_option maxRecDepth 100000
set_option maxHeartbeats 1600000
/-! The plain law of k01: rows, their tails, read back, cut. -/
namespace K01
open PySem PySem.Spec L2 SW
open PyProof.Rows hiding St
def Octs (ds : List Int) : Prop := ∀ o ∈ ds, 0 ≤ o ∧ o < 256
theorem Octs.app {a b : List Int} (h : Octs a) (k : Octs b) : Octs (a ++ b) := fun o ho => (List.mem_append.mp ho).elim (h o) (k o)
theorem octI_o {n : Int} (h1 : -(2 ^ 60) < n) (h2 : n < 2 ^ 60) : Octs (octI n) := (octI_tok (foldI_lt h1 h2)).2.2.2.2
theorem octI_l {n : Int} {k : Nat} (h : foldI n < ((128 ^ k : Nat) : Int)) (hk : 0 < k) : (octI n).length ≤ k := octN_len k _ (by have := foldI_nn n; omega) hk
theorem octI_l1 {n : Int} (h1 : 0 ≤ n) (h2 : n < 64) : (octI n).length ≤ 1 := octI_l (k := 1) (by unfold foldI; rw [if_pos h1]; omega) (by decide)
theorem octI_l2 {n : Int} (h1 : -4000 < n) (h2 : n < 4000) : (octI n).length ≤ 2 := octI_l (k := 2) (by unfold foldI; split <;> omega) (by decide)
theorem octI_l5 {n : Int} (h1 : 0 ≤ n) (h2 : n < 2 ^ 33) : (octI n).length ≤ 5 := octI_l (k := 5) (by unfold foldI; rw [if_pos h1, show ((128 ^ 5 : Nat) : Int) = 2 ^ 35 from by decide]; omega) (by decide)
theorem txt_l {t : Option Str} (h : t ∈ KEYS ∨ t ∈ VALS) : (txtO t).length ≤ 11 ∧ Octs (txtO t) := by
  have g := (goodK h).1
  have hl : ∀ z, t = some z → z.length ≤ 10 := by
    have key : ∀ t ∈ KEYS ++ VALS, ∀ z : Str, t = some z → z.length ≤ 10 := by
      intro t ht
      simp only [List.cons_append, List.nil_append, List.mem_cons, List.not_mem_nil, or_false] at ht
      rcases ht with rfl | rfl | rfl | rfl | rfl | rfl
      · intro z hz; cases hz
      all_goals (intro z hz; cases hz; decide +kernel)
    exact key t (List.mem_append.mpr h)
  cases t with
  | none => exact ⟨by have := octI_l2 (n := -1) (by decide) (by decide); simp only [txtO]; omega, octI_o (by decide) (by decide)⟩
  | some z =>
    have h1 := hl z rfl
    have h2 := octI_l1 (n := (z.length : Nat)) (by omega) (by omega)
    have hz : z.cps.toList.length = z.length := Array.length_toList
    refine ⟨by simp only [txtO, List.length_append, List.length_map]; omega, Octs.app (octI_o (by omega) (by omega)) fun o ho => ?_⟩
    obtain ⟨c, hc, rfl⟩ := List.mem_map.mp ho
    have := sg_back c (g.2 c hc)
    omega
theorem rec_l {r : Rec} {b t : Int} (h : (-100 ≤ r.1 ∧ r.1 < 410) ∧ (-300 ≤ r.2.1 ∧ r.2.1 < 700) ∧ r.2.2.1 ∈ KEYS ∧ r.2.2.2 ∈ VALS) (hb : -100 ≤ b ∧ b < 410) (ht : -300 ≤ t ∧ t < 700) : (recO r b t).length ≤ 26 ∧ Octs (recO r b t) := by
  obtain ⟨h1, h2, h3, h4⟩ := h
  have a1 := octI_l2 (n := r.1 - b) (by omega) (by omega)
  have a2 := octI_l2 (n := r.2.1 - t) (by omega) (by omega)
  obtain ⟨a3, o3⟩ := txt_l (.inl h3)
  obtain ⟨a4, o4⟩ := txt_l (.inr h4)
  exact ⟨by simp only [recO, List.length_append]; omega, ((Octs.app (octI_o (by omega) (by omega)) (octI_o (by omega) (by omega))).app o3).app o4⟩
/-- what is known of a law's row -/
theorem LawR.hd {rs : List Rec} (h : LawR rs) : (-100 ≤ (headB rs).1 ∧ (headB rs).1 < 410) ∧ (-300 ≤ (headB rs).2 ∧ (headB rs).2 < 700) := by
  cases rs with
  | nil => exact absurd rfl h.ne
  | cons r rs => obtain ⟨h1, h2, _⟩ := h.all r List.mem_cons_self; exact ⟨h1, h2⟩
theorem LawR.pos {rs : List Rec} (h : LawR rs) : 0 < rs.length := by
  cases rs with
  | nil => exact absurd rfl h.ne
  | cons r rs => simp
theorem flat_l {rs : List Rec} {b t : Int} (hb : -100 ≤ b ∧ b < 410) (ht : -300 ≤ t ∧ t < 700) (h : ∀ r ∈ rs, (-100 ≤ r.1 ∧ r.1 < 410) ∧ (-300 ≤ r.2.1 ∧ r.2.1 < 700) ∧ r.2.2.1 ∈ KEYS ∧ r.2.2.2 ∈ VALS) :
    (rs.flatMap fun r => recO r b t).length ≤ 26 * rs.length ∧ Octs (rs.flatMap fun r => recO r b t) := by
  induction rs with
  | nil => exact ⟨Nat.zero_le _, fun o ho => by cases ho⟩
  | cons r rs ih =>
    obtain ⟨i1, i2⟩ := ih fun r hr => h r (List.mem_cons_of_mem _ hr)
    obtain ⟨j1, j2⟩ := rec_l (h r List.mem_cons_self) hb ht
    rw [List.flatMap_cons]
    exact ⟨by rw [List.length_append, List.length_cons]; omega, j2.app i2⟩
theorem body_l {rs : List Rec} (h : LawR rs) : (batB rs).length ≤ 110 ∧ Octs (batB rs) := by
  obtain ⟨hb, ht⟩ := h.hd
  have hn := h.len
  obtain ⟨f1, f2⟩ := flat_l hb ht h.all
  have a1 := octI_l2 (n := (headB rs).1) (by omega) (by omega)
  have a2 := octI_l2 (n := (headB rs).2) (by omega) (by omega)
  have a3 := octI_l1 (n := (rs.length : Nat)) (by omega) (by omega)
  exact ⟨by simp only [batB, bodyO, List.length_append]; omega, ((Octs.app (octI_o (by omega) (by omega)) (octI_o (by omega) (by omega))).app (octI_o (by omega) (by omega))).app f2⟩
/-- the count's and the sum's tokens -/
def tk1 (rs : List Rec) : List Int := octI (sumL (batB rs))
def cntO (rs : List Rec) : Int := ((tk1 rs).length : Nat) + ((batB rs).length : Nat)
def tk0 (rs : List Rec) : List Int := octI (cntO rs)
theorem bat_eq (rs : List Rec) : batO rs = tk0 rs ++ (tk1 rs ++ batB rs) := by rw [batO, List.append_assoc]; rfl
theorem tk1_l (rs : List Rec) : (tk1 rs).length ≤ 5 := octI_l5 (sumL_lt _).1 (sumL_lt _).2
theorem cnt_l {rs : List Rec} (h : LawR rs) : 0 ≤ cntO rs ∧ cntO rs ≤ 115 := by
  have := (body_l h).1
  have := tk1_l rs
  unfold cntO
  omega
theorem tk0_l {rs : List Rec} (h : LawR rs) : (tk0 rs).length ≤ 2 := by
  have := cnt_l h
  exact octI_l2 (by omega) (by omega)
theorem tok0 {rs : List Rec} (h : LawR rs) : IsTok (tk0 rs) ∧ val (tk0 rs) = 2 * cntO rs := by
  have := cnt_l h
  obtain ⟨h1, h2, _⟩ := octI_tok (n := cntO rs) (foldI_lt (by omega) (by omega))
  exact ⟨h1, by rw [tk0, h2, foldI, if_pos (by omega)]⟩
theorem tok1 (rs : List Rec) : IsTok (tk1 rs) ∧ val (tk1 rs) = 2 * sumL (batB rs) := by
  have := sumL_lt (batB rs)
  obtain ⟨h1, h2, _⟩ := octI_tok (n := sumL (batB rs)) (foldI_lt (by omega) (by omega))
  exact ⟨h1, by rw [tk1, h2, foldI, if_pos (by omega)]⟩
theorem tok_pos {t : List Int} (h : IsTok t) : 0 < t.length := by
  cases t with
  | nil => exact h.elim
  | cons o t => simp
theorem cut_mid {α : Type} {ds a s : List α} {p : Nat} {e : Int} (h : ds.drop p = a ++ s) (hp : p ≤ ds.length) (he : e = ((p + a.length : Nat) : Int)) : SW.cutD ds (some (p : Int)) (some e) = a := by
  subst he
  have hl : ds.length = p + a.length + s.length := by
    have : (ds.drop p).length = a.length + s.length := by rw [h, List.length_append]
    rw [List.length_drop] at this; omega
  show (ds.drop (min p ds.length)).take (min (p + a.length) ds.length - min p ds.length) = _
  rw [Nat.min_eq_left (by omega), Nat.min_eq_left (by omega), h, show p + a.length - p = a.length by omega, List.take_left]
/-- what lies behind the sum, read -/
theorem tail_hd {ds suf : List Int} {p : Nat} {rs : List Rec} {e : Int} (h : LawR rs) (e0 : ds.drop p = batB rs ++ suf) :
    ∃ p5, hd3 ds e p = some (e, (headB rs).1, (headB rs).2, ((rs.length : Nat) : Int), p5) ∧ recsM ds (headB rs).1 (headB rs).2 p5 rs.length = some (rs, p + (batB rs).length) := by
  obtain ⟨hb, ht⟩ := h.hd
  have hn := h.len
  have hn0 := h.pos
  have e1 : ds.drop p = octI (headB rs).1 ++ (octI (headB rs).2 ++ (octI (rs.length : Nat) ++ ((rs.flatMap fun r => recO r (headB rs).1 (headB rs).2) ++ suf))) := by
    rw [e0, batB, bodyO]; simp only [List.append_assoc]
  have e2 := at_next e1
  have e3 := at_next e2
  have e4 := at_next e3
  refine ⟨p + (octI (headB rs).1).length + (octI (headB rs).2).length + (octI (rs.length : Nat)).length, ?_, ?_⟩
  rotate_left
  · have := recs_all e4 h.good (by omega) (by omega) rs.length (Nat.le_refl _)
    rw [List.take_length] at this
    rw [this]
    congr 2
    simp only [batB, bodyO, List.length_append]
    omega
  · rw [hd3, whole_oct e1 (foldI_lt (by omega) (by omega))]
    simp only
    rw [hd4, whole_oct e2 (foldI_lt (by omega) (by omega))]
    simp only
    rw [hd5, whole_oct e3 (foldI_lt (by omega) (by omega))]
    simp only
    rw [if_neg (by omega)]
theorem pu_oct (rs : List Rec) (h : LawR rs) : Oct (batO rs) ∧ (batO rs).length ≤ 300 ∧ 0 < (batO rs).length := by
  obtain ⟨b1, b2⟩ := body_l h
  have b3 := tk1_l rs
  have b4 := tk0_l h
  have b5 := tok_pos (tok0 h).1
  have hs := sumL_lt (batB rs)
  have hc := cnt_l h
  have hl : (batO rs).length = (tk0 rs).length + ((tk1 rs).length + (batB rs).length) := by rw [bat_eq, List.length_append, List.length_append]
  refine ⟨⟨by omega, ?_⟩, by omega, by omega⟩
  rw [bat_eq]
  exact Octs.app (octI_o (by omega) (by omega)) (Octs.app (octI_o (by omega) (by omega)) b2)
theorem pu_back (rs : List Rec) (h : LawR rs) (pre suf : List Int) : rdB (pre ++ batO rs ++ suf) pre.length = some (rs, pre.length + (batO rs).length) ∧ HM (pre ++ batO rs ++ suf) pre.length := by
  have hs := sumL_lt (batB rs)
  have hc := cnt_l h
  have hcu : cntO rs = ((tk1 rs).length : Nat) + ((batB rs).length : Nat) := rfl
  generalize hds : pre ++ batO rs ++ suf = ds
  have e0 : ds.drop pre.length = tk0 rs ++ (tk1 rs ++ (batB rs ++ suf)) := by rw [← hds, List.append_assoc, List.drop_left, bat_eq]; simp only [List.append_assoc]
  have e1 := at_next e0
  have e2 := at_next e1
  have hl : ds.length = pre.length + (tk0 rs).length + (tk1 rs).length + (batB rs).length + suf.length := by rw [← hds, bat_eq]; simp only [List.length_append]; omega
  obtain ⟨p5, t1, t2⟩ := tail_hd (e := ((pre.length + (tk0 rs).length : Nat) : Int) + cntO rs) h e2
  have eh : hd1 ds pre.length = some (((pre.length + (tk0 rs).length : Nat) : Int) + cntO rs, (headB rs).1, (headB rs).2, ((rs.length : Nat) : Int), p5) := by
    rw [hd1, whole_oct (n := cntO rs) e0 (foldI_lt (by omega) (by omega))]
    simp only
    rw [show (octI (cntO rs)).length = (tk0 rs).length from rfl]
    rw [if_neg (by rw [hcu] at hc ⊢; push_cast; omega)]
    rw [hd2, whole_oct (n := sumL (batB rs)) e1 (foldI_lt (by omega) (by omega))]
    simp only
    rw [show (octI (sumL (batB rs))).length = (tk1 rs).length from rfl]
    rw [cut_mid e2 (by omega) (by rw [hcu]; push_cast; omega), if_pos rfl]
    exact t1
  refine ⟨?_, fun x hx => ?_⟩
  · rw [rdB, eh]
    simp only
    rw [Int.toNat_natCast, t2]
    simp only
    rw [if_pos (by rw [hcu]; push_cast; omega)]
    congr 2
    rw [bat_eq, List.length_append, List.length_append]; omega
  · rw [eh] at hx
    cases hx
    show ((rs.length : Nat) : Int) < 1000000
    have := h.len
    omega
end K01
set_option Elab.async false
set_option linter.all false
set_option maxRecDepth 100000
set_option maxHeartbeats 1600000
/-! The plain law of k01: cut and spoilt rows. -/
namespace K01
open PySem PySem.Spec L2 SW
open PyProof.Rows hiding St
def Bad (ds : List Int) (rs : List Rec) : Prop := HM ds 0 ∧ ∀ q, rdB ds 0 ≠ some (rs, q)
theorem none_of {ds : List Int} {p : Nat} (h : hd1 ds p = none) : rdB ds p = none ∧ HM ds p := ⟨by rw [rdB, h], fun x hx => by rw [h] at hx; cases hx⟩
theorem bad_of {ds : List Int} {rs : List Rec} (h : hd1 ds 0 = none) : Bad ds rs := ⟨(none_of h).2, fun q hq => by rw [(none_of h).1] at hq; cases hq⟩
theorem tok_split : ∀ {A B : List Int} {o : Int}, IsTok (A ++ o :: B) → (∀ a ∈ A, 127 < a) ∧ ((B = [] ∧ 0 ≤ o ∧ o ≤ 127) ∨ (127 < o ∧ IsTok B))
  | [], B, o, h => by
    refine ⟨(fun a ha => by cases ha), ?_⟩
    cases B with
    | nil => exact .inl ⟨rfl, h⟩
    | cons b B => exact .inr h
  | a :: A, B, o, h => by
    cases hx : A ++ o :: B with
    | nil => simp at hx
    | cons x xs =>
      have h' : IsTok (a :: x :: xs) := by rw [← hx]; exact h
      obtain ⟨h1, h2⟩ := h'
      rw [← hx] at h2
      obtain ⟨i1, i2⟩ := tok_split h2
      exact ⟨fun b hb => (List.mem_cons.mp hb).elim (fun e => e ▸ h1) (i1 b), i2⟩
theorem tok_app : ∀ {A B : List Int}, (∀ a ∈ A, 127 < a) → IsTok B → IsTok (A ++ B)
  | [], B, _, h => h
  | a :: A, B, ha, h => by
    have ih := tok_app (A := A) (fun b hb => ha b (List.mem_cons_of_mem _ hb)) h
    show IsTok (a :: (A ++ B))
    cases hx : A ++ B with
    | nil => rw [hx] at ih; exact ih.elim
    | cons x xs => rw [hx] at ih; exact ⟨ha a List.mem_cons_self, ih⟩
theorem tok_one {o : Int} (h0 : 0 ≤ o) (h : o ≤ 127) : IsTok [o] := ⟨h0, h⟩
theorem tok_cons {o : Int} {B : List Int} (h0 : 127 < o) (h : IsTok B) : IsTok (o :: B) := tok_app (A := [o]) (fun a ha => by cases List.mem_singleton.mp ha; exact h0) h
theorem val_app : ∀ (A B : List Int), val (A ++ B) = val A + 128 ^ A.length * val B
  | [], B => by simp [val]
  | a :: A, B => by
    show a % 128 + 128 * val (A ++ B) = a % 128 + 128 * val A + 128 ^ (A.length + 1) * val B
    rw [val_app A B, Int.pow_succ, Int.mul_add, Int.mul_comm (128 ^ A.length) 128, Int.mul_assoc, Int.add_assoc]
theorem val_nn : ∀ A : List Int, 0 ≤ val A
  | [] => Int.le_refl _
  | a :: A => by have := val_nn A; rw [val]; omega
theorem unf_inj {a b : Int} (ha : 0 ≤ a) (hb : 0 ≤ b) (h : unfI a = unfI b) : a = b := by
  unfold unfI at h
  split at h <;> split at h <;> omega
theorem val_ne {A B : List Int} {o o' : Int} (h0 : 0 ≤ o) (h1 : o < 256) (h2 : 0 ≤ o') (h3 : o' < 256) (hn : o' ≠ o) (hs : (o ≤ 127 ↔ o' ≤ 127)) : val (A ++ o' :: B) ≠ val (A ++ o :: B) := by
  rw [val_app, val_app, val, val]
  intro h
  have h := Int.add_left_cancel h
  have hp : (0 : Int) < 128 ^ A.length := Int.pow_pos (by decide)
  have h := Int.eq_of_mul_eq_mul_left (by omega) h
  by_cases c : o ≤ 127
  · have := hs.mp c; omega
  · have : ¬ o' ≤ 127 := fun z => c (hs.mpr z)
    omega
theorem split_at' {T R A B : List Int} {o : Int} (h : T ++ R = A ++ o :: B) : (∃ B0, T = A ++ o :: B0 ∧ B = B0 ++ R) ∨ (∃ A', A = T ++ A' ∧ R = A' ++ o :: B) := by
  rcases List.append_eq_append_iff.mp h with ⟨a', h1, h2⟩ | ⟨c', h1, h2⟩
  · exact .inr ⟨a', h1, h2⟩
  · cases c' with
    | nil => rw [List.append_nil] at h1; exact .inr ⟨[], by rw [List.append_nil, h1], h2.symm⟩
    | cons x c' => cases h2; exact .inl ⟨c', h1, rfl⟩
theorem sumP_one : ∀ (n : Nat) (ds : List Int), n ≤ ds.length → (sumP (ds.take n)).1 = (1 + (ds.take n).sum) % 65521
  | 0, ds, _ => by rw [List.take_zero]; rfl
  | n + 1, ds, h => by
    have hd : ds[n]? = some ds[n] := List.getElem?_eq_getElem (by omega)
    rw [sumP_succ hd, sumP_one n ds (by omega), List.take_add_one, hd]
    simp only [Option.toList, List.sum_append, List.sum_cons, List.sum_nil]
    omega
theorem sumP_1 (ds : List Int) : (sumP ds).1 = (1 + ds.sum) % 65521 := by
  have := sumP_one ds.length ds (Nat.le_refl _)
  rwa [List.take_length] at this
theorem sum_bd : ∀ {ds : List Int}, Octs ds → 0 ≤ ds.sum ∧ ds.sum ≤ 255 * (ds.length : Nat)
  | [], _ => by simp
  | d :: ds, h => by
    have := sum_bd (ds := ds) fun o ho => h o (List.mem_cons_of_mem _ ho)
    have := h d List.mem_cons_self
    simp only [List.sum_cons, List.length_cons]
    omega
theorem sumL_ne {A B : List Int} {o o' : Int} (h0 : 0 ≤ o) (h1 : o < 256) (h2 : 0 ≤ o') (h3 : o' < 256) (hn : o' ≠ o) : sumL (A ++ o' :: B) ≠ sumL (A ++ o :: B) := by
  intro h
  have l1 := sumP_lt (A ++ o' :: B)
  have l2 := sumP_lt (A ++ o :: B)
  have e1 := sumP_1 (A ++ o' :: B)
  have e2 := sumP_1 (A ++ o :: B)
  simp only [List.sum_append, List.sum_cons] at e1 e2
  unfold sumL at h
  generalize (sumP (A ++ o' :: B)).1 = a1 at *
  generalize (sumP (A ++ o :: B)).1 = a2 at *
  generalize (sumP (A ++ o' :: B)).2 = c1 at *
  generalize (sumP (A ++ o :: B)).2 = c2 at *
  have : a1 = a2 := by omega
  omega
theorem sumL_pos {rs : List Rec} (h : LawR rs) : 1 ≤ sumL (batB rs) := by
  obtain ⟨b1, b2⟩ := body_l h
  obtain ⟨s1, s2⟩ := sum_bd b2
  have l1 := sumP_lt (batB rs)
  have e1 := sumP_1 (batB rs)
  rw [Int.emod_eq_of_lt (by omega) (by omega)] at e1
  unfold sumL
  omega
theorem hd1_s {ds : List Int} {p q : Nat} {c : Int} (h : wholeM ds p = some (c, q)) : hd1 ds p = if c < 0 ∨ (ds.length : Int) < q + c then none else hd2 ds (q + c) q := by rw [hd1, h]
theorem hd2_s {ds : List Int} {p q : Nat} {e c : Int} (h : wholeM ds p = some (c, q)) : hd2 ds e p = if sumL (SW.cutD ds (some (q : Int)) (some e)) = c then hd3 ds e q else none := by rw [hd2, h]
theorem hd1_n {ds : List Int} {p : Nat} (h : wholeM ds p = none) : hd1 ds p = none := by rw [hd1, h]
theorem hd2_n {ds : List Int} {p : Nat} {e : Int} (h : wholeM ds p = none) : hd2 ds e p = none := by rw [hd2, h]
theorem pu_cut (rs : List Rec) (h : LawR rs) (pre : List Int) (k : Nat) (hk : k < (batO rs).length) : rdB (pre ++ (batO rs).take k) pre.length = none ∧ HM (pre ++ (batO rs).take k) pre.length := by
  have hc := cnt_l h
  have hcu : cntO rs = ((tk1 rs).length : Nat) + ((batB rs).length : Nat) := rfl
  have hl : (batO rs).length = (tk0 rs).length + ((tk1 rs).length + (batB rs).length) := by rw [bat_eq, List.length_append, List.length_append]
  have e0 : (pre ++ (batO rs).take k).drop pre.length = (batO rs).take k := List.drop_left
  refine none_of ?_
  by_cases hk0 : k < (tk0 rs).length
  · refine hd1_n (whole_cut e0 fun o ho => ?_)
    rw [bat_eq, List.take_append_of_le_length (by omega)] at ho
    have hsp : tk0 rs = (tk0 rs).take k ++ (tk0 rs)[k] :: (tk0 rs).drop (k + 1) := by rw [← List.drop_eq_getElem_cons (by omega), List.take_append_drop]
    have ht := (tok0 h).1
    rw [hsp] at ht
    exact (tok_split ht).1 o ho
  · have e1 : (pre ++ (batO rs).take k).drop pre.length = tk0 rs ++ (tk1 rs ++ batB rs).take (k - (tk0 rs).length) := by
      rw [e0, bat_eq, List.take_append, List.take_of_length_le (by omega)]
    rw [hd1_s (whole_oct (n := cntO rs) e1 (foldI_lt (by omega) (by omega))), if_pos]
    right
    rw [show (octI (cntO rs)).length = (tk0 rs).length from rfl, List.length_append, List.length_take]
    rw [hcu]
    push_cast
    omega
end K01
set_option Elab.async false
set_option linter.all false
set_option maxRecDepth 100000
set_option maxHeartbeats 1600000
/-! The plain law of k01: spoilt rows. -/
namespace K01
open PySem PySem.Spec L2 SW
open PyProof.Rows hiding St
theorem octI_0' : octI 0 = [0] := by rw [octI, show (foldI 0).toNat = 0 from by decide, octN_1 (by decide)]; rfl
theorem body_eq {rs : List Rec} (h : LawR rs) : ∃ rest, batB rs = octI (headB rs).1 ++ (octI (headB rs).2 ++ (octI (rs.length : Nat) ++ (octI 0 ++ (octI 0 ++ rest)))) := by
  cases rs with
  | nil => exact absurd rfl h.ne
  | cons r rs =>
    refine ⟨txtO r.2.2.1 ++ (txtO r.2.2.2 ++ rs.flatMap fun x => recO x r.1 r.2.1), ?_⟩
    show octI r.1 ++ octI r.2.1 ++ octI ((r :: rs).length : Nat) ++ ((r :: rs).flatMap fun x => recO x r.1 r.2.1) = _
    rw [List.flatMap_cons]
    simp only [recO, headB, List.append_assoc, Int.sub_self]
theorem spoil2 {rs : List Rec} (h : LawR rs) {A B : List Int} {o o' : Int} (e : batB rs = A ++ o :: B) (h0 : 0 ≤ o) (h1 : o < 256) (h2 : 0 ≤ o') (h3 : o' < 256) (hn : o' ≠ o) : Bad (tk0 rs ++ (tk1 rs ++ (A ++ o' :: B))) rs := by
  have hc := cnt_l h
  have hs := sumL_lt (batB rs)
  have hcu : cntO rs = ((tk1 rs).length : Nat) + ((batB rs).length : Nat) := rfl
  have hl : (A ++ o' :: B).length = (batB rs).length := by rw [e]; simp
  refine bad_of ?_
  generalize hX : A ++ o' :: B = X at *
  generalize hds : tk0 rs ++ (tk1 rs ++ X) = ds
  have e0 : ds.drop 0 = tk0 rs ++ (tk1 rs ++ (X ++ [])) := by rw [← hds, List.append_nil]; rfl
  have e1 := at_next e0
  have e2 := at_next e1
  have hdl : ds.length = (tk0 rs).length + ((tk1 rs).length + X.length) := by rw [← hds, List.length_append, List.length_append]
  rw [hd1_s (whole_oct (n := cntO rs) e0 (foldI_lt (by omega) (by omega)))]
  split
  · rfl
  · rw [show (octI (cntO rs)).length = (tk0 rs).length from rfl]
    rw [hd2_s (whole_oct (n := sumL (batB rs)) e1 (foldI_lt (by omega) (by omega))), if_neg]
    rw [show (octI (sumL (batB rs))).length = (tk1 rs).length from rfl, cut_mid e2 (by omega) (by rw [hcu, hl]; push_cast; omega), ← hX, e]
    exact sumL_ne h0 h1 h2 h3 hn
theorem recs_first {ds : List Int} {b t : Int} {p : Nat} : ∀ {n : Nat} {rs' : List Rec} {q : Nat}, recsM ds b t p n = some (rs', q) → 1 ≤ n → ∃ r q', recM ds b t p = some (r, q') ∧ rs'[0]? = some r
  | 0, _, _, _, h => absurd h (by decide)
  | n + 1, rs', q, e, _ => by
    rw [recsM] at e
    split at e
    · cases e
    · rename_i rs1 q1 e1
      split at e
      · cases e
      · rename_i r q2 e2
        cases e
        by_cases hn : n = 0
        · subst hn
          rw [recsM] at e1
          cases e1
          exact ⟨r, _, e2, rfl⟩
        · obtain ⟨r', q', f1, f2⟩ := recs_first e1 (by omega)
          refine ⟨r', q', f1, ?_⟩
          cases rs1 with
          | nil => cases f2
          | cons x xs => exact f2
theorem at_le {ds : List Int} {p : Nat} {o : Int} {r : List Int} (h : ds.drop p = o :: r) : p < ds.length := by
  have := at_get h
  by_cases c : p < ds.length
  · exact c
  · rw [List.getElem?_eq_none (by omega)] at this; cases this
/-- tokens told one place early: the first key is the empty text -/
theorem shift_bad {rs : List Rec} (h : LawR rs) {ds B0 : List Int} {q : Nat} (eh : ∀ x, hd1 ds 0 = some x → ∃ e, hd3 ds e q = some x) (hB : IsTok B0) (hBl : B0.length < 14) (e : ds.drop q = B0 ++ batB rs) : Bad ds rs := by
  obtain ⟨rest, hb⟩ := body_eq h
  obtain ⟨hb1, ht1⟩ := h.hd
  have hlen := h.len
  rw [hb] at e
  have e2 := at_next e
  have e3 := at_next e2
  have e4 := at_next e3
  have e5 := at_next e4
  have e6 := at_next e5
  generalize hq6 : q + B0.length + (octI (headB rs).1).length + (octI (headB rs).2).length = q5 at *
  have key : ∀ x, hd1 ds 0 = some x → x.2.2.2.1 = (headB rs).2 ∧ 1 ≤ (headB rs).2 ∧ x.2.2.2.2 = q5 := by
    intro x hx
    obtain ⟨e', hx⟩ := eh x hx
    rw [hd3, whole_tok e hB hBl] at hx
    split at hx
    · cases hx
    · rename_i bb q2 e7
      split at e7
      · cases e7
      · cases e7
        rw [hd4, whole_oct e2 (foldI_lt (by omega) (by omega))] at hx
        simp only at hx
        rw [hd5, whole_oct e3 (foldI_lt (by omega) (by omega))] at hx
        simp only at hx
        split at hx
        · cases hx
        · cases hx
          exact ⟨rfl, by omega, hq6⟩
  refine ⟨fun x hx => by rw [(key x hx).1]; omega, fun qq hq => ?_⟩
  rw [rdB] at hq
  split at hq
  · cases hq
  · rename_i e' bb tt many p5 hx
    obtain ⟨k1, k2, k3⟩ := key _ hx
    simp only at k1 k3
    subst k1 k3
    split at hq
    · cases hq
    · rename_i rs' q' er
      split at hq
      · cases hq
        obtain ⟨r, q2, f1, f2⟩ := recs_first er (by omega)
        rw [recM, whole_oct e4 (foldI_lt (by omega) (by omega))] at f1
        simp only at f1
        rw [rc2, whole_oct e5 (foldI_lt (by omega) (by omega))] at f1
        simp only at f1
        have hlt : _ ≤ ds.length := Nat.succ_le_of_lt (at_le (show ds.drop _ = 0 :: rest from by rw [e6, octI_0']; rfl))
        rw [rc3, textM, whole_oct e6 (by decide)] at f1
        simp only at f1
        have hz1 : (octI 0).length = 1 := by rw [octI_0']; rfl
        rw [if_neg (by decide), if_neg (by omega), if_pos (by simp)] at f1
        simp only at f1
        rw [rc4] at f1
        split at f1
        · cases f1
        · cases f1
          have hk := (h.all _ (List.mem_of_getElem? f2)).2.2.1
          revert hk
          show ¬ (some (⟨#[]⟩ : Str) ∈ KEYS)
          decide +kernel
      · cases hq
theorem spoil1 {rs : List Rec} (h : LawR rs) {A B : List Int} {o o' : Int} (e : tk1 rs = A ++ o :: B) (h0 : 0 ≤ o) (h1 : o < 256) (h2 : 0 ≤ o') (h3 : o' < 256) (hn : o' ≠ o) : Bad (tk0 rs ++ (A ++ o' :: (B ++ batB rs))) rs := by
  have hc := cnt_l h
  have hs := sumL_lt (batB rs)
  have hcu : cntO rs = ((tk1 rs).length : Nat) + ((batB rs).length : Nat) := rfl
  obtain ⟨hb1, ht1⟩ := h.hd
  have hlen := h.len
  have hl1 := tk1_l rs
  obtain ⟨t1, v1⟩ := tok1 rs
  have hle : (tk1 rs).length = A.length + (1 + B.length) := by rw [e, List.length_append, List.length_cons]; omega
  rw [e] at t1 v1
  obtain ⟨hA, hB⟩ := tok_split t1
  generalize hds : tk0 rs ++ (A ++ o' :: (B ++ batB rs)) = ds
  have e0 : ds.drop 0 = tk0 rs ++ (A ++ o' :: (B ++ batB rs)) := by rw [← hds]; rfl
  have e1 := at_next e0
  have hdl : ds.length = (tk0 rs).length + (A.length + (1 + (B.length + (batB rs).length))) := by rw [← hds]; simp only [List.length_append, List.length_cons]; omega
  have hh : ∀ x, hd1 ds 0 = some x → ∃ e', e' = ((0 + (tk0 rs).length : Nat) : Int) + cntO rs ∧ hd2 ds e' (0 + (tk0 rs).length) = some x := by
    intro x hx
    rw [hd1_s (whole_oct (n := cntO rs) e0 (foldI_lt (by omega) (by omega)))] at hx
    split at hx
    · cases hx
    · exact ⟨_, rfl, hx⟩
  have hnone : (∀ e', e' = ((0 + (tk0 rs).length : Nat) : Int) + cntO rs → hd2 ds e' (0 + (tk0 rs).length) = none) → Bad ds rs := fun z => bad_of (by
    cases hx : hd1 ds 0 with
    | none => rfl
    | some x =>
      obtain ⟨e', h4, h5⟩ := hh x hx
      rw [z e' h4] at h5; cases h5)
  have aligned : IsTok (A ++ o' :: B) → (o ≤ 127 ↔ o' ≤ 127) → Bad ds rs := fun tk hio => hnone fun e' he' => by
    have e1' : ds.drop (0 + (tk0 rs).length) = (A ++ o' :: B) ++ (batB rs ++ []) := by rw [e1]; simp
    have hlA : (A ++ o' :: B).length = A.length + (1 + B.length) := by rw [List.length_append, List.length_cons]; omega
    have hw := whole_tok e1' tk (by omega)
    split at hw
    · exact hd2_n hw
    · have e2 := at_next e1'
      rw [hd2_s hw, if_neg]
      rw [cut_mid e2 (by omega) (by rw [he', hcu]; push_cast; omega)]
      intro hz
      have hv := val_ne (A := A) (B := B) h0 h1 h2 h3 hn hio
      apply hv
      refine unf_inj (val_nn _) (val_nn _) ?_
      rw [← hz, v1]
      unfold unfI
      rw [if_pos (by omega)]
      omega
  rcases hB with ⟨rfl, ho1, ho2⟩ | ⟨ho1, hB⟩
  · by_cases c : o' ≤ 127
    · exact aligned (tok_app hA (tok_one h2 c)) ⟨fun _ => c, fun _ => ho2⟩
    · refine hnone fun e' he' => ?_
      obtain ⟨rest, hb⟩ := body_eq h
      have tb := (octI_tok (n := (headB rs).1) (foldI_lt (by omega) (by omega))).1
      have lb := octI_l2 (n := (headB rs).1) (by omega) (by omega)
      have tk : IsTok (A ++ o' :: octI (headB rs).1) := tok_app hA (tok_cons (by omega) tb)
      have hlA : (A ++ o' :: octI (headB rs).1).length = A.length + (1 + (octI (headB rs).1).length) := by rw [List.length_append, List.length_cons]; omega
      have e1' : ds.drop (0 + (tk0 rs).length) = (A ++ o' :: octI (headB rs).1) ++ (octI (headB rs).2 ++ (octI (rs.length : Nat) ++ (octI 0 ++ (octI 0 ++ rest)))) := by rw [e1, hb]; simp
      simp only [List.length_nil] at hle
      have hw := whole_tok e1' tk (by omega)
      have e2 := at_next e1'
      have e3 := at_next e2
      have e4 := at_next e3
      split at hw
      · exact hd2_n hw
      · rw [hd2_s hw]
        split
        · rw [hd3, whole_oct e2 (foldI_lt (by omega) (by omega))]
          simp only
          rw [hd4, whole_oct e3 (foldI_lt (by omega) (by omega))]
          simp only
          rw [hd5, whole_oct e4 (by decide)]
          simp only
          rw [if_pos (by decide)]
        · rfl
  · by_cases c : o' ≤ 127
    · have tk : IsTok (A ++ [o']) := tok_app hA (tok_one h2 c)
      have e1' : ds.drop (0 + (tk0 rs).length) = (A ++ [o']) ++ (B ++ batB rs) := by rw [e1]; simp
      have hlA : (A ++ [o']).length = A.length + 1 := by simp
      have hw := whole_tok e1' tk (by omega)
      have e2 := at_next e1'
      split at hw
      · exact hnone fun e' _ => hd2_n hw
      · refine shift_bad h (q := 0 + (tk0 rs).length + (A ++ [o']).length) (fun x hx => ?_) hB (by omega) e2
        obtain ⟨e', _, hx⟩ := hh x hx
        rw [hd2_s hw] at hx
        split at hx
        · exact ⟨e', hx⟩
        · cases hx
    · exact aligned (tok_app hA (tok_cons (by omega) hB)) ⟨fun z => by omega, fun z => by omega⟩
theorem spoil0 {rs : List Rec} (h : LawR rs) {A B : List Int} {o o' : Int} (e : tk0 rs = A ++ o :: B) (h0 : 0 ≤ o) (h1 : o < 256) (h2 : 0 ≤ o') (h3 : o' < 256) (hn : o' ≠ o) : Bad (A ++ o' :: (B ++ (tk1 rs ++ batB rs))) rs := by
  have hc := cnt_l h
  have hs := sumL_lt (batB rs)
  have hcu : cntO rs = ((tk1 rs).length : Nat) + ((batB rs).length : Nat) := rfl
  have hlen := h.len
  have hl1 := tk1_l rs
  have hl0 := tk0_l h
  have hbl := (body_l h).1
  obtain ⟨t0, v0⟩ := tok0 h
  obtain ⟨t1, v1⟩ := tok1 rs
  have hle : (tk0 rs).length = A.length + (1 + B.length) := by rw [e, List.length_append, List.length_cons]; omega
  have e' := e
  rw [e] at t0 v0
  obtain ⟨hA, hB⟩ := tok_split t0
  generalize hds : A ++ o' :: (B ++ (tk1 rs ++ batB rs)) = ds
  have hdl : ds.length = A.length + (1 + (B.length + ((tk1 rs).length + (batB rs).length))) := by rw [← hds]; simp only [List.length_append, List.length_cons]; omega
  have aligned : IsTok (A ++ o' :: B) → (o ≤ 127 ↔ o' ≤ 127) → Bad ds rs := fun tk hio => by
    have e0 : ds.drop 0 = (A ++ o' :: B) ++ (tk1 rs ++ (batB rs ++ [])) := by rw [← hds]; simp
    have hlA : (A ++ o' :: B).length = A.length + (1 + B.length) := by rw [List.length_append, List.length_cons]; omega
    have hw := whole_tok e0 tk (by omega)
    split at hw
    · exact bad_of (hd1_n hw)
    · have e1 := at_next e0
      have e2 := at_next e1
      have hv : unfI (val (A ++ o' :: B)) ≠ cntO rs := fun z => by
        have hv := val_ne (A := A) (B := B) h0 h1 h2 h3 hn hio
        apply hv
        refine unf_inj (val_nn _) (val_nn _) ?_
        rw [z, v0]
        unfold unfI
        rw [if_pos (by omega)]
        omega
      generalize unfI (val (A ++ o' :: B)) = c' at *
      have key : ∀ x, hd1 ds 0 = some x → ∃ p5, x = (((0 + (A ++ o' :: B).length : Nat) : Int) + c', (headB rs).1, (headB rs).2, ((rs.length : Nat) : Int), p5) ∧ recsM ds (headB rs).1 (headB rs).2 p5 rs.length = some (rs, 0 + (A ++ o' :: B).length + (tk1 rs).length + (batB rs).length) := by
        intro x hx
        rw [hd1_s hw] at hx
        split at hx
        · cases hx
        · rw [hd2_s (whole_oct (n := sumL (batB rs)) e1 (foldI_lt (by omega) (by omega)))] at hx
          split at hx
          · obtain ⟨p5, f1, f2⟩ := tail_hd (e := ((0 + (A ++ o' :: B).length : Nat) : Int) + c') h e2
            rw [show (octI (sumL (batB rs))).length = (tk1 rs).length from rfl, f1] at hx
            cases hx
            exact ⟨p5, rfl, f2⟩
          · cases hx
      refine ⟨fun x hx => ?_, fun q hq => ?_⟩
      · obtain ⟨p5, rfl, _⟩ := key x hx
        show ((rs.length : Nat) : Int) < 1000000
        omega
      · rw [rdB] at hq
        split at hq
        · cases hq
        · rename_i e1' bb tt many p5 hx
          obtain ⟨p5', k1, k2⟩ := key _ hx
          cases k1
          rw [Int.toNat_natCast, k2] at hq
          simp only at hq
          rw [if_neg (by rw [hcu] at hv; push_cast; omega)] at hq
          cases hq
  rcases hB with ⟨rfl, ho1, ho2⟩ | ⟨ho1, hB⟩
  · by_cases c : o' ≤ 127
    · exact aligned (tok_app hA (tok_one h2 c)) ⟨fun _ => c, fun _ => ho2⟩
    · have tk : IsTok (A ++ o' :: tk1 rs) := tok_app hA (tok_cons (by omega) t1)
      simp only [List.length_nil] at hle hdl
      have hlA : (A ++ o' :: tk1 rs).length = A.length + (1 + (tk1 rs).length) := by rw [List.length_append, List.length_cons]; omega
      have e0 : ds.drop 0 = (A ++ o' :: tk1 rs) ++ batB rs := by rw [← hds]; simp
      have hw := whole_tok e0 tk (by omega)
      refine bad_of ?_
      split at hw
      · exact hd1_n hw
      · rw [hd1_s hw, if_pos]
        have hsp := sumL_pos h
        have hv : 256 ≤ val (A ++ o' :: tk1 rs) := by
          rw [val_app, val, v1]
          have h5 := val_nn A
          have hp : (1 : Int) ≤ 128 ^ A.length := Int.pow_pos (by decide)
          have h6 : 1 * (o' % 128 + 128 * (2 * sumL (batB rs))) ≤ 128 ^ A.length * (o' % 128 + 128 * (2 * sumL (batB rs))) := Int.mul_le_mul_of_nonneg_right hp (by omega)
          omega
        generalize val (A ++ o' :: tk1 rs) = vv at *
        by_cases hev : vv % 2 = 0
        · right
          unfold unfI
          rw [if_pos hev, hlA]
          push_cast
          omega
        · left
          unfold unfI
          rw [if_neg hev]
          omega
  · by_cases c : o' ≤ 127
    · have hf : foldI (cntO rs) = 2 * cntO rs := by rw [foldI, if_pos (by omega)]
      have hB1 : A = [] ∧ B = [1] := by
        rw [tk0, octI, hf] at e'
        by_cases hm : (2 * cntO rs).toNat ≤ 127
        · rw [octN_1 hm] at e'
          cases A with
          | nil => cases e'; exact hB.elim
          | cons a A => simp at e'
        · rw [octN_2 hm, octN_1 (by omega), show ((2 * cntO rs).toNat / 128 : Nat) = 1 from by omega] at e'
          cases A with
          | nil => cases e'; exact ⟨rfl, rfl⟩
          | cons a A =>
            cases A with
            | nil => cases e'; exact hB.elim
            | cons a2 A => simp at e'
      obtain ⟨rfl, rfl⟩ := hB1
      have e0 : ds.drop 0 = [o'] ++ ([1] ++ (tk1 rs ++ batB rs)) := by rw [← hds]; rfl
      have e1 := at_next e0
      refine bad_of ?_
      have hw := whole_tok e0 (tok_one h2 c) (by simp)
      rw [if_neg (by simp)] at hw
      have hw2 := whole_tok e1 (tok_one (by decide) (by decide)) (by decide)
      rw [if_neg (by simp)] at hw2
      rw [hd1_s hw]
      split
      · rfl
      · rw [hd2_s hw2, if_neg]
        rw [show unfI (val [1]) = -1 from by decide]
        have := sumL_lt (SW.cutD ds (some ((0 + [o'].length + [(1 : Int)].length : Nat) : Int)) (some (((0 + [o'].length : Nat) : Int) + unfI (val [o']))))
        omega
    · exact aligned (tok_app hA (tok_cons (by omega) hB)) ⟨fun z => by omega, fun z => by omega⟩
theorem sum_eq (ds : List Int) : sumQ ds = sumP ds := by
  unfold sumQ sumP
  congr 1
  funext p o
  refine Prod.ext rfl ?_
  show (p.2 + (p.1 + o)) % 65521 = (p.2 + (p.1 + o) % 65521) % 65521
  omega
theorem pure_law : Pure where
  oct := pu_oct
  back := pu_back
  cut := pu_cut
  spoil := fun rs h k o x hk hx0 hx1 => by
    have hoct := (pu_oct rs h).1.2 o (List.mem_of_getElem? hk)
    have hlt : k < (batO rs).length := by
      by_cases c : k < (batO rs).length
      · exact c
      · rw [List.getElem?_eq_none (by omega)] at hk; cases hk
    have ho : (batO rs)[k] = o := by rw [List.getElem?_eq_getElem hlt] at hk; cases hk; rfl
    have hsp : batO rs = (batO rs).take k ++ o :: (batO rs).drop (k + 1) := by rw [← ho, ← List.drop_eq_getElem_cons hlt, List.take_append_drop]
    have h2 := Int.emod_nonneg (o + 1 + x) (b := 256) (by decide)
    have h3 := Int.emod_lt_of_pos (o + 1 + x) (b := 256) (by decide)
    have hn : (o + 1 + x) % 256 ≠ o := by omega
    have es : spoilO (batO rs) k ((o + 1 + x) % 256) = (batO rs).take k ++ (o + 1 + x) % 256 :: (batO rs).drop (k + 1) := by rw [spoilO, List.append_assoc]; rfl
    rw [es]
    generalize (o + 1 + x) % 256 = o' at *
    generalize (batO rs).take k = A at *
    generalize (batO rs).drop (k + 1) = B at *
    rw [bat_eq] at hsp
    show Bad (A ++ o' :: B) rs
    rcases split_at' hsp with ⟨B0, h1, rfl⟩ | ⟨A', rfl, h1⟩
    · exact spoil0 h h1 hoct.1 hoct.2 h2 h3 hn
    · rcases split_at' h1 with ⟨B0, h4, rfl⟩ | ⟨A2, rfl, h4⟩
      · have := spoil1 h h4 hoct.1 hoct.2 h2 h3 hn
        rwa [List.append_assoc]
      · have := spoil2 h h4 hoct.1 hoct.2 h2 h3 hn
        rwa [List.append_assoc, List.append_assoc]
  sum := sum_eq
  fold := unf_fold
end K01
set_option Elab.async false
set_option linter.all false
set_option maxRecDepth 100000
set_option maxHeartbeats 3200000
set_option pp.deepTerms false
set_option pp.deepTerms.threshold 10
set_option pp.maxSteps 500
namespace K01
open PySem PySem.Spec L2 SW
open PyProof.Rows hiding St
local macro_rules | `(tactic| tm_at "sAt") => `(tactic| with_reducible (first | exact At.here | (apply At.there; tm_at "sAt")))
local macro_rules | `(tactic| tm_at "sSlot") => `(tactic| with_reducible (first | exact Slot.here | (apply Slot.there; tm_at "sSlot")))
local macro_rules | `(tactic| tm_at "sKd") => `(tactic| with_reducible (first | exact Kd.here | (apply Kd.there; tm_at "sKd")))
local macro_rules | `(tactic| tm_at "sSel") => `(tactic| with_reducible (first | exact Sel.here | (apply Sel.there; tm_at "sSel")))
local macro_rules | `(tactic| tm_at "sRpl") => `(tactic| with_reducible (first | exact Rpl.here | (apply Rpl.there; tm_at "sRpl")))
local macro_rules | `(tactic| tm_at "sTk") => `(tactic| (first | exact Tk.nil | (apply Tk.cons; (tm_at "sSel"); (tm_at "sTk"))))
local macro_rules | `(tactic| tm_at "sVk") => `(tactic| first
  | exact Vk.l
  | exact Vk.c
  | exact Vk.f)
local macro_rules | `(tactic| tm_at "sLk") => `(tactic| first
  | exact Lk.l
  | exact Lk.c)
local macro_rules | `(tactic| tm_at "sLf") => `(tactic| first
  | exact Or.inl rfl
  | exact Or.inr rfl)
local macro_rules | `(tactic| tm_at "sRoom") => `(tactic| first
  | assumption
  | exact L2.Room.mono (by assumption) (by decide))
local macro_rules | `(tactic| tm_at "sXok") => `(tactic| first
  | assumption
  | exact xok0)
local macro_rules | `(tactic| tm_at "sCv") => `(tactic| (first | with_reducible exact Cv.id | with_reducible exact Cv.lst0 | ((with_reducible refine Cv.pt ?_); tm_at "sEq") | ((with_reducible refine Cv.lst ?_); tm_at "sEq") | ((with_reducible refine Cv.val ?_); tm_at "sEq")))
local macro_rules | `(tactic| tm_at "sEq") => `(tactic| (first | rfl | assumption | (simp; done)))
local macro_rules | `(tactic| tm_at "sSelC") => `(tactic| (first | ((with_reducible apply SelC.here); tm_at "sCv") | ((with_reducible apply SelC.there); tm_at "sSelC")))
local macro_rules | `(tactic| tm_at "fit") => `(tactic| (first | with_reducible exact Fit.refl | with_reducible exact Fit.nil | ((with_reducible apply Fit.find); (case s => tm_at "sSelC"); (case t => tm_at "fit")) | ((with_reducible apply Fit.drop); tm_at "fit")))
local macro_rules | `(tactic| tm_at "sLkF") => `(tactic| with_reducible (first | exact LkF.here | (apply LkF.there (by with_unfolding_all rfl); tm_at "sLkF")))
local macro_rules | `(tactic| tm_at "sNoF") => `(tactic| with_reducible (first | exact NoF.nil | (apply NoF.cons (by with_unfolding_all rfl); tm_at "sNoF")))
local macro_rules | `(tactic| tm_at "sPutF") => `(tactic| with_reducible (first | exact PutF.here | exact PutF.nil | (apply PutF.there (by with_unfolding_all rfl); tm_at "sPutF")))
local macro_rules | `(tactic| tm_at "sHasL") => `(tactic| (first | exact hasL_pt (by tm_at "sSel") | exact hasL_R (by tm_at "sSel")))
local macro_rules | `(tactic| tm_at "sZ") => `(tactic| (first | assumption | (simp only [List.length_cons, List.length_nil, List.length_append, PySem.sizeLine_eq]; omega) | (rw [PySem.sizeLine_eq]; simp; done)))
local macro_rules | `(tactic| tm_at "sIx") => `(tactic| with_unfolding_all rfl)
local macro_rules | `(tactic| tm_at "sSet") => `(tactic| (first | exact SetR.here | (apply SetR.there; tm_at "sSet")))
local macro_rules | `(tactic| tm_at "sPut") => `(tactic| first
  | exact PutAt.c 0 (by with_unfolding_all rfl) (by tm_at "sSet")
  | exact PutAt.c 1 (by with_unfolding_all rfl) (by tm_at "sSet")
  | exact PutAt.c 2 (by with_unfolding_all rfl) (by tm_at "sSet")
  | exact PutAt.c 3 (by with_unfolding_all rfl) (by tm_at "sSet")
  | exact PutAt.c 4 (by with_unfolding_all rfl) (by tm_at "sSet")
  | exact PutAt.c 5 (by with_unfolding_all rfl) (by tm_at "sSet"))
local macro_rules | `(tactic| tm_at "gECall") => `(tactic| first
  | ((guard_target = GE _ _ (Expr.Call (Expr.Name "len" _) _ _ _) _ _ _); (with_reducible refine gb_len (by assumption) (by tm_at "sKd") ?hm ?he ?hpl ?_); (case hm => assumption); (case he => rfl); (case hpl => rfl))
  | ((guard_target = GE _ _ (Expr.Call (Expr.Name "int" _) _ _ _) _ _ _); (with_reducible refine gb_int (by assumption) (by tm_at "sKd") ?hm ?he ?hpl ?_); (case hm => assumption); (case he => rfl); (case hpl => rfl))
  | ((guard_target = GE _ _ (Expr.Call (Expr.Name "str" _) _ _ _) _ _ _); (with_reducible refine gb_str (by assumption) (by tm_at "sKd") ?hm ?he ?hpl ?_); (case hm => assumption); (case he => rfl); (case hpl => rfl))
  | ((guard_target = GE _ _ (Expr.Call (Expr.Name "list" _) _ _ _) _ _ _); (with_reducible refine gb_list (by assumption) (by tm_at "sKd") ?hm ?he ?hpl ?_); (case hm => assumption); (case he => rfl); (case hpl => rfl))
  | ((guard_target = GE _ _ (Expr.Call (Expr.Name "tuple" _) _ _ _) _ _ _); (with_reducible refine gb_tuple (by assumption) (by tm_at "sKd") ?hm ?he ?hpl ?_); (case hm => assumption); (case he => rfl); (case hpl => rfl))
  | ((guard_target = GE _ _ (Expr.Call (Expr.Name "min" _) _ _ _) _ _ _); (with_reducible refine gb_min (by assumption) (by tm_at "sKd") ?hm ?he ?hpl ?_); (case hm => assumption); (case he => rfl); (case hpl => rfl))
  | ((guard_target = GE _ _ (Expr.Call (Expr.Name "max" _) _ _ _) _ _ _); (with_reducible refine gb_max (by assumption) (by tm_at "sKd") ?hm ?he ?hpl ?_); (case hm => assumption); (case he => rfl); (case hpl => rfl))
  | ((guard_target = GE _ _ (Expr.Call (Expr.Name "sum" _) _ _ _) _ _ _); (with_reducible refine gb_sum (by assumption) (by tm_at "sKd") ?hm ?he ?hpl ?_); (case hm => assumption); (case he => rfl); (case hpl => rfl))
  | ((guard_target = GE _ _ (Expr.Call (Expr.Name "sorted" _) _ _ _) _ _ _); (with_reducible refine gb_sorted (by assumption) (by tm_at "sKd") ?hm ?he ?hpl ?_); (case hm => assumption); (case he => rfl); (case hpl => rfl))
  | ((guard_target = GE _ _ (Expr.Call (Expr.Name "abs" _) _ _ _) _ _ _); (with_reducible refine gb_abs (by assumption) (by tm_at "sKd") ?hm ?he ?hpl ?_); (case hm => assumption); (case he => rfl); (case hpl => rfl))
  | ((guard_target = GE _ _ (Expr.Call (Expr.Name "range" _) _ _ _) _ _ _); (with_reducible refine gb_range (by assumption) (by tm_at "sKd") ?hm ?he ?hpl ?_); (case hm => assumption); (case he => rfl); (case hpl => rfl))
  | ((guard_target = GE _ _ (Expr.Call (Expr.Name "any" _) _ _ _) _ _ _); (with_reducible refine gb_any (by assumption) (by tm_at "sKd") ?hm ?he ?hpl ?_); (case hm => assumption); (case he => rfl); (case hpl => rfl))
  | ((guard_target = GE _ _ (Expr.Call (Expr.Name "all" _) _ _ _) _ _ _); (with_reducible refine gb_all (by assumption) (by tm_at "sKd") ?hm ?he ?hpl ?_); (case hm => assumption); (case he => rfl); (case hpl => rfl))
  | ((guard_target = GE _ _ (Expr.Call (Expr.Name "dict" _) _ _ _) _ _ _); (with_reducible refine gb_dict (by assumption) (by tm_at "sKd") ?hm ?he ?hpl ?_); (case hm => assumption); (case he => rfl); (case hpl => rfl))
  | ((guard_target = GE _ _ (Expr.Call (Expr.Name "set" _) _ _ _) _ _ _); (with_reducible refine gb_set (by assumption) (by tm_at "sKd") ?hm ?he ?hpl ?_); (case hm => assumption); (case he => rfl); (case hpl => rfl)))
local macro_rules | `(tactic| tm_at "gECall") => `(tactic| (guard_target = GE _ _ (Expr.Call (Expr.Name "_law_roll" _) (_ :: _) [] _) _ _ _; (refine ge_call (FnAt.e (x := "_law_roll") (by assumption)) (by tm_at "sRoom") (by tm_at "sXok") (Nm.gl (by assumption) (by tm_at "sKd")) ?hdb ?he ?hpl ?_); (case hdb => rfl); (case he => rfl); (case hpl => rfl)))
local macro_rules | `(tactic| tm_at "gECall") => `(tactic| (guard_target = GE _ _ (Expr.Call (Expr.Name "_law_dice" _) (_ :: _) [] _) _ _ _; (refine ge_call (FnAt.e (x := "_law_dice") (by assumption)) (by tm_at "sRoom") (by tm_at "sXok") (Nm.gl (by assumption) (by tm_at "sKd")) ?hdb ?he ?hpl ?_); (case hdb => rfl); (case he => rfl); (case hpl => rfl)))
local macro_rules | `(tactic| tm_at "gECall") => `(tactic| (guard_target = GE _ _ (Expr.Call (Expr.Name "_law_rounds" _) (_ :: _) [] _) _ _ _; (refine ge_call (FnAt.e (x := "_law_rounds") (by assumption)) (by tm_at "sRoom") (by tm_at "sXok") (Nm.gl (by assumption) (by tm_at "sKd")) ?hdb ?he ?hpl ?_); (case hdb => rfl); (case he => rfl); (case hpl => rfl)))
local macro_rules | `(tactic| tm_at "gECall") => `(tactic| (guard_target = GE _ _ (Expr.Call (Expr.Name "_law_deed" _) (_ :: _) [] _) _ _ _; (refine ge_call (FnAt.e (x := "_law_deed") (by assumption)) (by tm_at "sRoom") (by tm_at "sXok") (Nm.gl (by assumption) (by tm_at "sKd")) ?hdb ?he ?hpl ?_); (case hdb => rfl); (case he => rfl); (case hpl => rfl)))
local macro_rules | `(tactic| tm_at "gE") => `(tactic| first
  | ((guard_target = GE _ _ (Expr.Name _ _) _ _ _); (with_reducible refine ge_name (by assumption) (by tm_at "sAt") (by tm_at "sKd") (by tm_at "sVk") rfl ?_))
  | ((guard_target = GE _ _ (Expr.Constant (Const.int _) _ _) _ _ _); (with_reducible refine ge_int ?_))
  | ((guard_target = GE _ _ (Expr.Attribute _ _ _) _ _ _); (with_reducible refine ge_fld ?hb ?_); (case hb => rfl))
  | ((guard_target = GE _ _ (Expr.Subscript _ (Expr.Slice _ _ none _) _) _ _ _); (with_reducible refine ge_slice ?_))
  | ((guard_target = GE _ _ (Expr.Call (Expr.Attribute _ _ _) _ _ _) _ _ _); tm_at "gEMeth")
  | ((guard_target = GE _ _ (Expr.Subscript _ _ _) _ _ _); (with_reducible refine ge_sub ?hs ?_); (case hs => exact fun _ _ => rfl))
  | ((guard_target = GE _ _ (Expr.BinOp _ _ _ _) _ _ _); (with_reducible refine ge_bin ?_))
  | ((guard_target = GE _ _ (Expr.Constant (Const.str _) _ _) _ _ _); (with_reducible refine ge_str ?_))
  | ((guard_target = GE _ _ (Expr.Call (Expr.Name _ _) _ _ _) _ _ _); tm_at "gECall")
  | ((guard_target = GE _ _ (Expr.List _ _) _ _ _); (with_reducible refine ge_lst ?_))
  | ((guard_target = GE _ _ (Expr.Tuple _ _ _) _ _ _); (with_reducible refine ge_tup ?_))
  | ((guard_target = GE _ _ (Expr.Constant Const.none _ _) _ _ _); (with_reducible refine ge_none ?_))
  | ((guard_target = GE _ _ (Expr.Constant (Const.bool _) _ _) _ _ _); (with_reducible refine ge_bl ?_))
  | ((guard_target = GE _ _ (Expr.Compare _ [_] [_] _) _ _ _); (with_reducible refine ge_cmp ?hm ?_); (case hm => first | exact nomark _ | rfl))
  | ((guard_target = GE _ _ (Expr.UnaryOp UnaryOp.Not _ _) _ _ _); (with_reducible refine ge_not ?_))
  | ((guard_target = GE _ _ (Expr.UnaryOp _ _ _) _ _ _); (with_reducible refine ge_un ?_))
  | ((guard_target = GE _ _ (Expr.IfExp _ _ _ _) _ _ _); (with_reducible refine ge_if ?_))
  | ((guard_target = GE _ _ (Expr.Compare _ [_, _] [_, _] _) _ _ _); (with_reducible refine ge_chain ?hm ?_); (case hm => with_unfolding_all rfl))
  | ((guard_target = GE _ _ (Expr.BoolOp _ [_] _) _ _ _); (with_reducible refine ge_one ?_))
  | ((guard_target = GE _ _ (Expr.BoolOp BoolOp.And _ _) _ _ _); (with_reducible refine ge_and ?_))
  | ((guard_target = GE _ _ (Expr.BoolOp BoolOp.Or _ _) _ _ _); (with_reducible refine ge_or ?_)))
local macro_rules | `(tactic| tm_at "gEMeth") => `(tactic| first
  | ((guard_target = GE _ _ (Expr.Call (Expr.Attribute _ "append" _) [_] [] _) _ _ _); (with_reducible refine ge_append ?h1 ?h2 ?h3 ?h4 ?h5 ?_); (case h1 => rfl); (case h2 => rfl); (case h3 => rfl); (case h4 => rfl); (case h5 => rfl))
  | ((guard_target = GE _ _ (Expr.Call (Expr.Attribute _ "extend" _) [_] [] _) _ _ _); (with_reducible refine ge_extend ?h1 ?h2 ?h3 ?h4 ?h5 ?_); (case h1 => rfl); (case h2 => rfl); (case h3 => rfl); (case h4 => rfl); (case h5 => rfl))
  | ((guard_target = GE _ _ (Expr.Call (Expr.Attribute _ "remove" _) [_] [] _) _ _ _); (with_reducible refine ge_remove ?h1 ?h2 ?h3 ?h4 ?h5 ?_); (case h1 => rfl); (case h2 => rfl); (case h3 => rfl); (case h4 => rfl); (case h5 => rfl))
  | ((guard_target = GE _ _ (Expr.Call (Expr.Attribute _ "pop" _) [_] [] _) _ _ _); (with_reducible refine ge_popAt ?h1 ?h2 ?h3 ?h4 ?h5 ?_); (case h1 => rfl); (case h2 => rfl); (case h3 => rfl); (case h4 => rfl); (case h5 => rfl)))
local macro_rules | `(tactic| tm_at "gT") => `(tactic| first
  | ((guard_target = GT _ _ (Expr.Compare _ [_] [_] _) _ _ _); (with_reducible refine gt_cmp ?hm ?_); (case hm => first | exact nomark _ | rfl))
  | ((guard_target = GT _ _ (Expr.UnaryOp UnaryOp.Not _ _) _ _ _); (with_reducible refine gt_not ?_))
  | ((guard_target = GT _ _ (Expr.BoolOp _ _ _) _ _ _); (with_reducible refine gt_bool ?_))
  | ((guard_target = GT _ _ (Expr.Compare _ [_, _] [_, _] _) _ _ _); (with_reducible refine gt_chain ?hm ?_); (case hm => with_unfolding_all rfl))
  | ((guard_target = GT _ _ (Expr.Call _ _ _ _) _ _ _); (with_reducible refine gt_val ?he ?_); (case he => intro _; rfl))
  | ((guard_target = GT _ _ (Expr.Subscript _ _ _) _ _ _); (with_reducible refine gt_val ?he ?_); (case he => intro _; rfl))
  | ((guard_target = GT _ _ (Expr.Name _ _) _ _ _); (with_reducible refine gt_val ?he ?_); (case he => intro _; rfl))
  | ((guard_target = GT _ _ (Expr.Attribute _ _ _) _ _ _); (with_reducible refine gt_val ?he ?_); (case he => intro _; rfl)))
local macro_rules | `(tactic| tm_at "gB") => `(tactic| first
  | ((guard_target = GB _ _ (Expr.BoolOp BoolOp.And [_] _) _ _ _); (with_reducible refine gb_and1 ?_))
  | ((guard_target = GB _ _ (Expr.BoolOp BoolOp.Or [_] _) _ _ _); (with_reducible refine gb_or1 ?_))
  | ((guard_target = GB _ _ (Expr.BoolOp BoolOp.And _ _) _ _ _); (with_reducible refine gb_and ?_))
  | ((guard_target = GB _ _ (Expr.BoolOp BoolOp.Or _ _) _ _ _); (with_reducible refine gb_or ?_)))
local macro_rules | `(tactic| tm_at "gA") => `(tactic| first
  | ((guard_target = GA _ _ ([]) _ _ _); (with_reducible refine ga_nil ?_))
  | ((guard_target = GA _ _ (_ :: _) _ _ _); (with_reducible refine ga_cons ?hst ?_); (case hst => rfl)))
local macro_rules | `(tactic| tm_at "gOp") => `(tactic| first
  | ((guard_target = GOp _ _ (binaryOp Operator.Add) (V.int _) (V.int _) _ _); (with_reducible refine go_add ?_))
  | ((guard_target = GOp _ _ (binaryOp Operator.Sub) (V.int _) (V.int _) _ _); (with_reducible refine go_sub ?_))
  | ((guard_target = GOp _ _ (compareOp CmpOp.Eq) (V.int _) (V.int _) _ _); (with_reducible refine go_eqI ?_))
  | ((guard_target = GOp _ _ (compareOp CmpOp.Lt) (V.int _) (V.int _) _ _); (with_reducible refine go_lt ?_))
  | ((guard_target = GOp _ _ (compareOp CmpOp.LtE) (V.int _) (V.int _) _ _); (with_reducible refine go_le ?_))
  | ((guard_target = GOp _ _ (compareOp CmpOp.Gt) (V.int _) (V.int _) _ _); (with_reducible refine go_gt ?_))
  | ((guard_target = GOp _ _ (compareOp CmpOp.GtE) (V.int _) (V.int _) _ _); (with_reducible refine go_ge ?_))
  | ((guard_target = GOp _ _ (compareOp CmpOp.NotEq) (V.int _) (V.int _) _ _); (with_reducible refine go_neI ?_))
  | ((guard_target = GOp _ _ (binaryOp Operator.Mult) (V.int _) (V.int _) _ _); (with_reducible refine go_mul ?c ?_); (case c => first | (left; constructor <;> omega) | (right; constructor <;> omega)))
  | ((guard_target = GOp _ _ (binaryOp Operator.FloorDiv) (V.int _) (V.int _) _ _); (with_reducible refine go_div ?c ?_); (case c => constructor <;> omega))
  | ((guard_target = GOp _ _ (binaryOp Operator.Mod) (V.int _) (V.int _) _ _); (with_reducible refine go_mod ?c ?_); (case c => omega))
  | ((guard_target = GOp _ _ (compareOp CmpOp.Eq) (V.str _) (V.str _) _ _); (with_reducible refine go_eqT ?_))
  | ((guard_target = GOp _ _ (compareOp CmpOp.NotEq) (V.str _) (V.str _) _ _); (with_reducible refine go_neT ?_))
  | ((guard_target = GOp _ _ (compareOp CmpOp.Eq) (V.bl _) (V.bl _) _ _); (with_reducible refine go_eqB ?_))
  | ((guard_target = GOp _ _ (compareOp CmpOp.NotEq) (V.bl _) (V.bl _) _ _); (with_reducible refine go_neB ?_))
  | ((guard_target = GOp _ _ (compareOp CmpOp.In) (V.int _) (V.ref _) _ _); (with_reducible refine go_inI (by tm_at "sSel") ?_))
  | ((guard_target = GOp _ _ (compareOp CmpOp.NotIn) (V.int _) (V.ref _) _ _); (with_reducible refine go_ninI (by tm_at "sSel") ?_))
  | ((guard_target = GOp _ _ (compareOp CmpOp.In) (V.str _) (V.ref _) _ _); (with_reducible refine go_inT (by tm_at "sSel") ?_))
  | ((guard_target = GOp _ _ (compareOp CmpOp.NotIn) (V.str _) (V.ref _) _ _); (with_reducible refine go_ninT (by tm_at "sSel") ?_))
  | ((guard_target = GOp _ _ (compareOp CmpOp.Eq) (_) (V.non) _ _); (with_reducible refine go_eqS rfl ?_))
  | ((guard_target = GOp _ _ (compareOp CmpOp.NotEq) (_) (V.non) _ _); (with_reducible refine go_neS rfl ?_))
  | ((guard_target = GOp _ _ (compareOp CmpOp.Is) (_) (V.non) _ _); (with_reducible refine go_isN ?_))
  | ((guard_target = GOp _ _ (compareOp CmpOp.IsNot) (_) (V.non) _ _); (with_reducible refine go_notN ?_)))
local macro_rules | `(tactic| tm_at "gC") => `(tactic| first
  | ((guard_target = GC _ _ (Value.type "int") [V.int _] _ _); (with_reducible refine gc_intI ?_))
  | ((guard_target = GC _ _ (Value.type "int") [V.bl _] _ _); (with_reducible refine gc_intB ?_))
  | ((guard_target = GC _ _ (Value.builtin "abs") [V.int _] _ _); (with_reducible refine gc_abs ?_))
  | ((guard_target = GC _ _ (Value.builtin "max") [V.int _, V.int _] _ _); (with_reducible refine gc_max2 ?hc ?_); (case hc => rfl))
  | ((guard_target = GC _ _ (Value.builtin "min") [V.int _, V.int _] _ _); (with_reducible refine gc_min2 ?hc ?_); (case hc => rfl))
  | ((guard_target = GC _ _ (Value.type "range") [V.int _] _ _); (with_reducible refine gc_rng1 ?_))
  | ((guard_target = GC _ _ (Value.type "range") [V.int _, V.int _] _ _); (with_reducible refine gc_rng2 ?_))
  | ((guard_target = GC _ _ (Value.builtin "len") [V.ref _] _ _); (with_reducible refine gc_lenR (by tm_at "sSel") ?_))
  | ((guard_target = GC _ _ (Value.builtin "len") [V.ref _] _ _); (with_reducible refine gc_len (by tm_at "sSel") ?_))
  | ((guard_target = GC _ _ (Value.builtin "len") [V.ref _] _ _); (with_reducible refine gc_lenT (by tm_at "sSel") ?_)))
local macro_rules | `(tactic| tm_at "gF") => `(tactic| first
  | ((guard_target = GF _ _ _ _ _ _); (with_reducible refine gf (by tm_at "sSel") (by tm_at "sLkF") ?hc ?hn ?_); (case hc => assumption); (case hn => assumption))
  | ((guard_target = GFS _ _ _ _ _ _); (with_reducible refine gfs (by tm_at "sRpl") (by tm_at "sPutF") ?hc ?hn ?hz ?_); (case hc => assumption); (case hn => assumption); (case hz => exact Nat.le_of_ble_eq_true rfl))
  | ((guard_target = GFA _ _ _ _ _ _ _ _ _); (with_reducible refine gfa (by tm_at "sSel") (by tm_at "sLkF") ?hc ?hn ?_); (case hc => assumption); (case hn => assumption))
  | ((guard_target = Exists fun _ => Exists fun _ => Exists fun _ => (Rpl _ _ _ _ ∧ _ ∧ _)); (with_reducible refine gfaE (by tm_at "sRpl") (by tm_at "sPutF") ?hz ?_); (case hz => exact Nat.le_of_ble_eq_true rfl))
  | ((guard_target = GAS _ _ _ _ _ _ _ _ _); (with_reducible refine gas (by tm_at "sSel") (by tm_at "sIx") ?_))
  | ((guard_target = (HasL _ _ _ ∧ _)); (with_reducible refine And.intro ?hh ?_); (case hh => tm_at "sHasL"))
  | ((guard_target = (IsIns _ _ _ _ _ ∧ _)); (with_reducible refine And.intro ?hh ?_); (case hh => exact isIns (by tm_at "sSel") (by tm_at "sNoF") (by rfl)))
  | ((guard_target = GApp _ _ _ _ _); (with_reducible refine gapp_pt (by tm_at "sRpl") ?hz ?_); (case hz => tm_at "sZ"))
  | ((guard_target = (List.length _ ≤ PySem.sizeLine ∧ _)); (with_reducible refine And.intro ?hz ?_); (case hz => tm_at "sZ"); intro _)
  | ((guard_target = GIp _ _ Operator.Add (V.int _) (V.int _) _ _); (with_reducible refine gip_add ?_))
  | ((guard_target = GIp _ _ Operator.Sub (V.int _) (V.int _) _ _); (with_reducible refine gip_sub ?_))
  | ((guard_target = GRem _ _ _ _ _); (with_reducible refine grem (by tm_at "sRpl") ?hm ?_); (case hm => assumption))
  | ((guard_target = GO _ _ none _ _ _); (with_reducible refine goN ?_))
  | ((guard_target = GO _ _ (some _) _ _ _); (with_reducible refine goS ?_)))
local macro_rules | `(tactic| tm_at "gIx") => `(tactic| first
  | (with_reducible refine gi_lst (by tm_at "sSel") (by tm_at "sIx") ?_)
  | (with_reducible refine gi_tup (by tm_at "sSel") (by tm_at "sIx") ?_))
local macro_rules | `(tactic| tm_at "gS") => `(tactic| first
  | ((guard_target = GS _ _ (Stmt.Assign [Expr.Name _ _] _ _) _ _ _); (with_reducible refine gs_name (by assumption) (by tm_at "sSlot") (by tm_at "sKd") (by tm_at "sLk") (by tm_at "sLf") ?hsw ?_); (case hsw => rfl))
  | ((guard_target = GS _ _ (Stmt.If _ _ _ _) _ _ _); (with_reducible refine gs_if ?_))
  | ((guard_target = GS _ _ (Stmt.AugAssign (Expr.Name _ _) _ _ _) _ _ _); (with_reducible refine gs_aug (by assumption) (by tm_at "sAt") (by tm_at "sSlot") (by tm_at "sKd") (by tm_at "sLk") (by tm_at "sLf") ?_))
  | ((guard_target = GS _ _ (Stmt.AugAssign (Expr.Attribute _ _ _) _ _ _) _ _ _); (with_reducible refine gs_fldaug ?_))
  | ((guard_target = GS _ _ (Stmt.AugAssign (Expr.Subscript _ _ _) _ _ _) _ _ _); (with_reducible refine gs_augS ?ha ?_); (case ha => intros; rfl))
  | ((guard_target = GS _ _ (Stmt.Return (some _) _) _ _ _); (with_reducible refine gs_ret ?_))
  | ((guard_target = GS _ _ (Stmt.Expr (Expr.Constant _ _ _) _) _ _ _); (with_reducible refine gs_doc ?_))
  | ((guard_target = GS _ _ (Stmt.Expr _ _) _ _ _); (with_reducible refine gs_expr ?hsw ?_); (case hsw => rfl))
  | ((guard_target = GS _ _ (Stmt.Assign [Expr.Attribute _ _ _] _ _) _ _ _); (with_reducible refine gs_fld ?hsw ?_); (case hsw => rfl))
  | ((guard_target = GS _ _ (Stmt.Assign [Expr.Subscript _ _ _] _ _) _ _ _); (with_reducible refine gs_asg ?hsw ?hw ?h1 ?_); (case hsw => rfl); (case hw => rfl); (case h1 => rfl))
  | ((guard_target = GS _ _ (Stmt.Assign [Expr.Tuple _ _ _] _ _) _ _ _); (with_reducible refine gs_asg ?hsw ?hw ?h1 ?_); (case hsw => rfl); (case hw => rfl); (case h1 => rfl))
  | ((guard_target = GS _ _ (Stmt.Return none _) _ _ _); (with_reducible refine gs_retN ?_))
  | ((guard_target = GS _ _ (Stmt.Pass _) _ _ _); (with_reducible refine gs_pass ?_))
  | ((guard_target = GS _ _ (Stmt.Break _) _ _ _); (with_reducible refine gs_break ?_))
  | ((guard_target = GS _ _ (Stmt.Continue _) _ _ _); (with_reducible refine gs_continue ?_)))
local macro_rules | `(tactic| tm_at "gG") => `(tactic| first
  | ((guard_target = GG _ _ (Expr.Name _ _) _ _ _ _); (with_reducible refine gg_name (by assumption) (by tm_at "sSlot") (by tm_at "sKd") (by tm_at "sLk") (by tm_at "sLf") ?_))
  | ((guard_target = GG _ _ (Expr.Subscript _ _ _) _ _ _ _); (with_reducible refine gg_sub ?ha ?_); (case ha => intro _; rfl))
  | ((guard_target = GG _ _ (Expr.Tuple _ _ _) _ _ _ _); (with_reducible refine gg_tup ?hc (by tm_at "sSel") ?hn ?hst ?_); (case hc => rfl); (case hn => rfl); (case hst => rfl)))
local macro_rules | `(tactic| tm_at "g") => `(tactic| first
  | ((guard_target = GE _ _ _ _ _ _); tm_at "gE")
  | ((guard_target = GOp _ _ _ _ _ _ _); tm_at "gOp")
  | ((guard_target = GIx _ _ _ _ _ _); tm_at "gIx")
  | tm_at "gF"
  | ((guard_target = (wipe _ _ = wipe _ _ ∧ _)); refine And.intro rfl ?_)
  | ((guard_target = GGs _ _ [] _ _ _ _); (with_reducible refine ggs_nil ?_))
  | ((guard_target = GGs _ _ (_ :: _) _ _ _ _); (with_reducible refine ggs_cons ?hst ?_); (case hst => rfl))
  | ((guard_target = GTs _ _ [] _ _ _); (with_reducible refine gts_nil ?_))
  | ((guard_target = GTs _ _ [_] _ _ _); (with_reducible refine gts_one ?_))
  | ((guard_target = KB _ _ _); (with_reducible refine KB.mk ?_))
  | ((guard_target = GA _ _ _ _ _ _); tm_at "gA")
  | ((guard_target = GS _ _ _ _ _ _); tm_at "gS")
  | ((guard_target = GSs _ _ (_ :: _) _ _ _); (with_reducible refine gss_cons ?_))
  | ((guard_target = GSs _ _ ([]) _ _ _); (with_reducible refine gss_nil ?_))
  | ((guard_target = GT _ _ _ _ _ _); tm_at "gT")
  | ((guard_target = GB _ _ _ _ _ _); tm_at "gB")
  | ((guard_target = GC _ _ _ _ _ _); tm_at "gC")
  | ((guard_target = GG _ _ _ _ _ _ _); tm_at "gG")
  | ((guard_target = GPutL _ _ _ _ _); (with_reducible refine gput (by tm_at "sRpl") (by tm_at "sPut") ?_))
  | ((guard_target = if true = true then _ else _); (with_reducible refine iteT ?_))
  | ((guard_target = if (!true) = true then _ else _); (with_reducible refine iteNT ?_))
  | ((guard_target = if (!false) = true then _ else _); (with_reducible refine iteNF ?_))
  | ((guard_target = if false = true then _ else _); (with_reducible refine iteF ?_))
  | ((guard_target = Exists _); (with_reducible refine Exists.intro _ (And.intro rfl ?_)))
  | (first | with_reducible refine ite_nI ?_ | with_reducible refine ite_nN ?_ | with_reducible refine ite_nnI ?_ | with_reducible refine ite_nnN ?_ | with_reducible refine ite_nR ?_ | with_reducible refine ite_nnR ?_))
local macro_rules | `(tactic| tm_at "sSetN") => `(tactic| (first | exact SetN.here | (apply SetN.there; tm_at "sSetN")))
local macro_rules | `(tactic| tm_at "sWp") => `(tactic| (first | exact Wp.nil | (apply Wp.cons; (tm_at "sWp"); (tm_at "sSetN"))))
local macro_rules | `(tactic| tm_at "fits") => `(tactic| (first | apply Fits.mk | apply FitL.mk))
local macro_rules | `(tactic| tm_at "ent") => `(tactic| (apply Fit.ent; tm_at "fit"))
local macro_rules | `(tactic| tm_at "go") => `(tactic| repeat (tm_at "g"))
local macro_rules | `(tactic| tm_at "gs") => `(tactic| repeat ((fail_if_success (guard_target = GSs _ _ (_ :: _) _ _ _)); tm_at "g"))
local macro_rules | `(tactic| tm_at "if") => `(tactic| first
  | (with_reducible refine ite_ndec (fun _ => ?_) (fun _ => ?_))
  | (with_reducible refine ite_dec (fun _ => ?_) (fun _ => ?_))
  | (with_reducible refine ite_nb (fun _ => ?_) (fun _ => ?_))
  | (with_reducible refine ite_b (fun _ => ?_) (fun _ => ?_)))
section
variable {T : List (Addr × Str)} {P : Program} {w : World} {Kf : PySem.W.Frag} {mg : Str → Option Value} {base : Heap} {f : Addr} {fd : FuncData}
theorem ok_dice (f_int : mg "int" = none) (f_abs : mg "abs" = none) (F : FunD Kf "_law_dice" "_law_dice" (defArgs s_law_dice) (defBody s_law_dice) (defScope s_law_dice) [] [] f fd) : FnOk P w Kf mg base (L2.CX P w) 1 f fd ["cell"] (spOf T spDice) := by
  refine def_in F sc_law_dice (fun vs L K kx h => ?_) (fun A outer s H E hr n vs L KK kx h hx σ hσ => ?_)
  · obtain ⟨c, rfl, _⟩ := h; rfl
  · obtain ⟨c, rfl, k⟩ := h
    obtain rfl : σ = [some (.int c)] := hσ
    refine gss_cons ?_
    tm_at "go"
    tm_at "if"
    · tm_at "go"
      tm_at "if"
      · tm_at "go"
        apply Clo.mk (k _)
        apply Fit.ent
        exact Fit.cons .here Cv.dc Fit.refl
      · tm_at "go"
        refine go_pow ⟨by decide, by decide, by decide⟩ ?_
        tm_at "go"
        apply Clo.mk (k _)
        apply Fit.ent
        exact Fit.cons .here Cv.dc Fit.refl
    · tm_at "go"
      refine go_pow ⟨by decide, by decide, by decide⟩ ?_
      tm_at "go"
      apply Clo.mk (k _)
      apply Fit.ent
      exact Fit.cons .here Cv.dc Fit.refl
theorem ok_roll (f_int : mg "int" = none) (F : FunD Kf "_law_roll" "_law_roll" (defArgs s_law_roll) (defBody s_law_roll) (defScope s_law_roll) [] [] f fd) : FnOk P w Kf mg base (L2.CX P w) 1 f fd ["dice", "many"] (spOf T spRoll) := by
  refine def_in F sc_law_roll (fun vs L K kx h => ?_) (fun A outer s H E hr n vs L KK kx h hx σ hσ => ?_)
  · obtain ⟨d, m, R, rfl, _⟩ := h; rfl
  · obtain ⟨d, m, R, rfl, m0, m1, rfl, k⟩ := h
    obtain rfl : σ = [some (.ref d), some (.int m), none] := hσ
    refine dc_in (by tm_at "sSel") fun x y z => ?_
    refine gss_cons ?_
    tm_at "go"
    tm_at "if"
    · tm_at "go"
      apply Clo.mk (k _ (Int.emod_nonneg _ (by omega)) (Int.emod_lt_of_pos _ m0))
      apply Fit.ent
      exact Fit.cons .here Cv.dc Fit.refl
    · tm_at "go"
      tm_at "if"
      · tm_at "go"
        tm_at "if"
        · tm_at "go"
          apply Clo.mk (k _ (Int.emod_nonneg _ (by omega)) (Int.emod_lt_of_pos _ m0))
          apply Fit.ent
          exact Fit.cons .here Cv.dc Fit.refl
        · tm_at "go"
          apply Clo.mk (k _ (Int.emod_nonneg _ (by omega)) (Int.emod_lt_of_pos _ m0))
          apply Fit.ent
          exact Fit.cons .here Cv.dc Fit.refl
      · tm_at "go"
        apply Clo.mk (k _ (Int.emod_nonneg _ (by omega)) (Int.emod_lt_of_pos _ m0))
        apply Fit.ent
        exact Fit.cons .here Cv.dc Fit.refl
theorem ok_rounds (hdi : FnAt T P w Kf mg base 1 "_law_dice" spDice) (F : FunD Kf "_law_rounds" "_law_rounds" (defArgs s_law_rounds) (defBody s_law_rounds) (defScope s_law_rounds) [] [] f fd) : FnOk P w Kf mg base (L2.CX P w) 2 f fd ["script", "most"] (spOf T (spRounds Kf)) := by
  refine def_in F sc_law_rounds (fun vs L K kx h => ?_) (fun A outer s H E hr n vs L KK kx h hx σ hσ => ?_)
  · obtain ⟨s, ns, m, R, rfl, _⟩ := h; rfl
  · obtain ⟨s0, ns, m, R, rfl, rfl, hz, k⟩ := h
    obtain rfl : σ = [some (.ref s0), some (.int (m : Int)), none, none] := hσ
    refine gss_cons ?_
    tm_at "go"
    refine gsl_scr (ns := ns) .here fun q => ?_
    rw [SW.cutD_map]
    have hcl : (SW.cutD ns none (some (m : Int))).length ≤ 1000 := by
      unfold SW.cutD
      rw [List.length_take, List.length_drop]; omega
    generalize SW.cutD ns none (some (m : Int)) = cs at *
    tm_at "gs"
    refine gss_cons ?_
    refine gs_join (fun σ' L' => ∃ (q : Addr) (cs : List Int), cs.length ≤ 1000 ∧ σ' = [some (.ref s0), some (.int (m : Int)), some (.ref q), none] ∧ Ent T L' (pt q (.lst (cs.map V.int)) :: R)) ?_ ?_
    · tm_at "go"
      refine go_eqE hr (sees_pt cInt (by tm_at "sSel") (fun _ _ => True.intro) (by decide)) (sees_nil (by tm_at "sSel")) (eqv_nil cs) ?_
      tm_at "go"
      tm_at "if"
      · tm_at "go"
        refine ⟨_, [0], by simp, rfl, ?_⟩
        tm_at "ent"
      · tm_at "go"
        refine ⟨_, cs, hcl, rfl, ?_⟩
        tm_at "ent"
    · rintro σ' L' ⟨q, cs, hcl, rfl, t1⟩
      refine GSs.ent t1 ?_
      tm_at "go"
      refine ge_lcL ow0_law_rounds rfl n.ndN (blkOk_by (N := n_law_rounds) (sc := defScope s_law_rounds) (by decide +kernel)) (by tm_at "sWp") (fun _ => rfl) ?_
      tm_at "go"
      refine ⟨_, _, rfl, ⟨_, by tm_at "sSel"⟩, lcgo (ObL dcP) (fun i as => as.length = i) [] rfl (fun D h e => obl_nil e) ?_ ?_⟩
      · rintro D i x Lx as hi ⟨hx', rfl⟩ e s' H' C cl fp
        simp only [List.nil_append]
        refine gg_blk (kc := kc0_law_rounds) n rfl (by decide) fun nb => ?_
        obtain ⟨y, hy, rfl⟩ : ∃ y, cs[i]? = some y ∧ x = V.int y := by
          rw [List.getElem?_map] at hx'
          cases hq : cs[i]? with
          | none => rw [hq] at hx'; cases hx'
          | some y => rw [hq] at hx'; cases hx'; exact ⟨y, rfl, rfl⟩
        tm_at "go"
        intro s' H' C cl fp
        refine gts_blk (kc := kc0_law_rounds) n rfl (by decide) fun nb => ?_
        tm_at "go"
        intro s' H' C cl fp
        refine ge_blk (kc := kc0_law_rounds) n rfl (by decide) fun nb => ?_
        refine ge_call hdi (by tm_at "sRoom") (by tm_at "sXok") (nb.gl (by tm_at "sKd")) rfl rfl rfl ?_
        tm_at "go"
        refine ⟨y, rfl, fun d => ?_⟩
        refine lcend_ent (L' := pt D (.lst (as.map V.ref)) :: ObS dcP as :: dcP d :: pt q (.lst (cs.map V.int)) :: R) ?_ (lcend_pt .here ?_ ⟨as ++ [d], by simp [e], ?_⟩)
        · exact Ent.trans (Ent.perm (List.Perm.swap _ _ _)) obl_out
        · rw [List.length_map] at hi ⊢
          rw [e, sizeLine_eq]; omega
        · exact Ent.trans (Ent.perm ((List.Perm.swap _ _ _).cons _)) obl_in
      · intro D as e
        tm_at "go"
        apply Clo.mk (k D as)
        apply Fit.ent
        exact Fit.cons .here Cv.id (Fit.drop Fit.refl)
end
abbrev cs8 : List (Str × Str) := [("BadRecord", "record"), ("OutOfLog", "out"), ("Fenced", "fenced"), ("OutOfOrder", "order"), ("NotDue", "due"), ("BadPlan", "plan"), ("BadText", "text"), ("TooLarge", "large")]
theorem told_at {Kf : PySem.W.Frag} {mg : Str → Option Value} {fd : FuncData} (F : FunD Kf "_law_told" "_law_told" (defArgs s_law_told) (defBody s_law_told) (defScope s_law_told) [] [] (He.ga Kf "_law_told") fd) (gl : mg "_law_told" = some (.ref (He.ga Kf "_law_told"))) (cl : ∀ q ∈ cs8, mg q.1 = some (.ref (He.ga Kf q.1))) : ToldAt Kf mg "_law_told" cs8 := by
  refine ⟨⟨fd, _, _, _, n_law_told, "what", _, _, _, _, _, _, F, F.bindsN fun kV doc pm an cdv ct us hl => match us, hl with | [u], _ => rfl, sc_law_told.fs, rfl, .inl rfl, rfl, ?_, fun _ => rfl, rfl, rfl⟩, gl, cl⟩
  repeat (first | exact THds.nil | (refine THds.cons rfl rfl ?_))
local macro_rules | `(tactic| tm_at "gECall") => `(tactic| (guard_target = GE _ _ (Expr.Call (Expr.Name "folded" _) (_ :: _) [] _) _ _ _; (refine ge_call (FnAt.e (x := "folded") (by assumption)) (by tm_at "sRoom") (by tm_at "sXok") (Nm.gl (by assumption) (by tm_at "sKd")) ?hdb ?he ?hpl ?_); (case hdb => rfl); (case he => rfl); (case hpl => rfl)))
local macro_rules | `(tactic| tm_at "gECall") => `(tactic| (guard_target = GE _ _ (Expr.Call (Expr.Name "unfolded" _) (_ :: _) [] _) _ _ _; (refine ge_call (FnAt.e (x := "unfolded") (by assumption)) (by tm_at "sRoom") (by tm_at "sXok") (Nm.gl (by assumption) (by tm_at "sKd")) ?hdb ?he ?hpl ?_); (case hdb => rfl); (case he => rfl); (case hpl => rfl)))
local macro_rules | `(tactic| tm_at "gECall") => `(tactic| (guard_target = GE _ _ (Expr.Call (Expr.Name "number_octets" _) (_ :: _) [] _) _ _ _; (refine ge_call (FnAt.e (x := "number_octets") (by assumption)) (by tm_at "sRoom") (by tm_at "sXok") (Nm.gl (by assumption) (by tm_at "sKd")) ?hdb ?he ?hpl ?_); (case hdb => rfl); (case he => rfl); (case hpl => rfl)))
local macro_rules | `(tactic| tm_at "gECall") => `(tactic| (guard_target = GE _ _ (Expr.Call (Expr.Name "text_octets" _) (_ :: _) [] _) _ _ _; (refine ge_call (FnAt.e (x := "text_octets") (by assumption)) (by tm_at "sRoom") (by tm_at "sXok") (Nm.gl (by assumption) (by tm_at "sKd")) ?hdb ?he ?hpl ?_); (case hdb => rfl); (case he => rfl); (case hpl => rfl)))
local macro_rules | `(tactic| tm_at "gECall") => `(tactic| (guard_target = GE _ _ (Expr.Call (Expr.Name "sum_of" _) (_ :: _) [] _) _ _ _; (refine ge_call (FnAt.e (x := "sum_of") (by assumption)) (by tm_at "sRoom") (by tm_at "sXok") (Nm.gl (by assumption) (by tm_at "sKd")) ?hdb ?he ?hpl ?_); (case hdb => rfl); (case he => rfl); (case hpl => rfl)))
local macro_rules | `(tactic| tm_at "gECall") => `(tactic| (guard_target = GE _ _ (Expr.Call (Expr.Name "record_octets" _) (_ :: _) [] _) _ _ _; (refine ge_call (FnAt.e (x := "record_octets") (by assumption)) (by tm_at "sRoom") (by tm_at "sXok") (Nm.gl (by assumption) (by tm_at "sKd")) ?hdb ?he ?hpl ?_); (case hdb => rfl); (case he => rfl); (case hpl => rfl)))
local macro_rules | `(tactic| tm_at "gECall") => `(tactic| (guard_target = GE _ _ (Expr.Call (Expr.Name "batch" _) (_ :: _) [] _) _ _ _; (refine ge_call (FnAt.e (x := "batch") (by assumption)) (by tm_at "sRoom") (by tm_at "sXok") (Nm.gl (by assumption) (by tm_at "sKd")) ?hdb ?he ?hpl ?_); (case hdb => rfl); (case he => rfl); (case hpl => rfl)))
local macro_rules | `(tactic| tm_at "gECall") => `(tactic| (guard_target = GE _ _ (Expr.Call (Expr.Name "read_batch" _) (_ :: _) [] _) _ _ _; (refine ge_call (FnAt.e (x := "read_batch") (by assumption)) (by tm_at "sRoom") (by tm_at "sXok") (Nm.gl (by assumption) (by tm_at "sKd")) ?hdb ?he ?hpl ?_); (case hdb => rfl); (case he => rfl); (case hpl => rfl)))
local macro_rules | `(tactic| tm_at "gECall") => `(tactic| (guard_target = GE _ _ (Expr.Call (Expr.Name "read_all" _) (_ :: _) [] _) _ _ _; (refine ge_call (FnAt.e (x := "read_all") (by assumption)) (by tm_at "sRoom") (by tm_at "sXok") (Nm.gl (by assumption) (by tm_at "sKd")) ?hdb ?he ?hpl ?_); (case hdb => rfl); (case he => rfl); (case hpl => rfl)))
local macro_rules | `(tactic| tm_at "gEMeth") => `(tactic| (guard_target = GE _ _ (Expr.Call (Expr.Attribute _ "octet" _) [] _ _) _ _ _; (refine ge_meth0 (MeAt.e (C := "Reader") (m := "octet") (by assumption)) (by tm_at "sRoom") (by tm_at "sXok") ?ht ?_); (case ht => exact ⟨_, rfl⟩)))
local macro_rules | `(tactic| tm_at "gEMeth") => `(tactic| (guard_target = GE _ _ (Expr.Call (Expr.Attribute _ "whole" _) [] _ _) _ _ _; (refine ge_meth0 (MeAt.e (C := "Reader") (m := "whole") (by assumption)) (by tm_at "sRoom") (by tm_at "sXok") ?ht ?_); (case ht => exact ⟨_, rfl⟩)))
local macro_rules | `(tactic| tm_at "gEMeth") => `(tactic| (guard_target = GE _ _ (Expr.Call (Expr.Attribute _ "text" _) [] _ _) _ _ _; (refine ge_meth0 (MeAt.e (C := "Reader") (m := "text") (by assumption)) (by tm_at "sRoom") (by tm_at "sXok") ?ht ?_); (case ht => exact ⟨_, rfl⟩)))
local macro_rules | `(tactic| tm_at "gECall") => `(tactic| (guard_target = GE _ _ (Expr.Call (Expr.Name "Reader" _) (_ :: _) [] _) _ _ _; (refine ge_make (MkAt.e (C := "Reader") (by assumption)) (by tm_at "sRoom") (by tm_at "sXok") (Nm.gl (by assumption) (by tm_at "sKd")) ?hdb ?he ?hpl ?_); (case hdb => rfl); (case he => rfl); (case hpl => rfl); skip))
local macro_rules | `(tactic| tm_at "gC") => `(tactic| ((guard_target = GC _ _ (Value.builtin "len") [_] _ _); (with_reducible refine gc_lenTl (rv_val (by tm_at "sSel")) ?_)))
local macro_rules | `(tactic| tm_at "gIx") => `(tactic| (with_reducible refine gi_tl (rv_val (by tm_at "sSel")) (by assumption) (fun _ => ?_)))
local macro_rules | `(tactic| tm_at "gF") => `(tactic| first
  | ((guard_target = GIp _ _ Operator.Mult (V.int _) (V.int _) _ _); (with_reducible refine gip_mul ?c ?_); (case c => first | (left; constructor <;> omega) | (right; constructor <;> omega)))
  | ((guard_target = GIp _ _ Operator.FloorDiv (V.int _) (V.int _) _ _); (with_reducible refine gip_div ?c ?_); (case c => constructor <;> omega))
  | ((guard_target = GIp _ _ Operator.Mod (V.int _) (V.int _) _ _); (with_reducible refine gip_mod ?c ?_); (case c => omega)))
local macro_rules | `(tactic| tm_at "g") => `(tactic| ((guard_target = GU _ _ (unaryOp UnaryOp.USub) (V.int _) _ _); (with_reducible refine gu_neg ?_)))
local macro_rules | `(tactic| tm_at "gS") => `(tactic| ((guard_target = GS _ _ (Stmt.Assign [Expr.Tuple [Expr.Name _ _, Expr.Name _ _] _ _] (Expr.Tuple [_, _] _ _) _) _ _ _); (refine gs_par2 (by assumption) (by tm_at "sSlot") (fun _ => by tm_at "sSlot") (by tm_at "sKd") (by tm_at "sKd") ?hne ?hc ?hw ?hs ?_); (case hne => with_unfolding_all rfl); (case hc => rfl); (case hw => rfl); (case hs => rfl)))
local macro_rules | `(tactic| tm_at "gOp") => `(tactic| ((guard_target = GOp _ _ (binaryOp Operator.Pow) (V.int _) (V.int _) _ _); (with_reducible refine go_pow ?c ?_); (case c => refine ⟨?_, ?_, ?_⟩ <;> decide)))
local macro_rules | `(tactic| tm_at "g") => `(tactic| ((guard_target = K2 _ [_, _] _); (with_reducible refine K2.mk ?_)))
local macro_rules | `(tactic| tm_at "gE") => `(tactic| ((guard_target = GE _ _ (Expr.Name "SIGNS" _) _ _ _); (refine ge_glob (v := V.str SIG) (Nm.gl (by assumption) (by tm_at "sKd")) (by assumption) ⟨_, rfl⟩ ?_ ?hd); (case hd => rfl)))
local macro_rules | `(tactic| tm_at "gOp") => `(tactic| ((guard_target = GOp _ _ (compareOp CmpOp.NotIn) (V.str ⟨#[_]⟩) (V.str _) _ _); (with_reducible refine go_ninSign ?_)))
local macro_rules | `(tactic| tm_at "gEMeth") => `(tactic| ((guard_target = GE _ _ (Expr.Call (Expr.Attribute _ "index" _) [_] [] _) _ _ _); (with_reducible refine ge_index ?h1 ?h2 ?h3 ?_); (case h1 => rfl); (case h2 => rfl); (case h3 => rfl)))
local macro_rules | `(tactic| tm_at "gEMeth") => `(tactic| ((guard_target = GE _ _ (Expr.Call (Expr.Attribute _ "join" _) [_] [] _) _ _ _); (with_reducible refine ge_join ?h1 ?h2 ?h3 ?_); (case h1 => rfl); (case h2 => rfl); (case h3 => rfl)))
local macro_rules | `(tactic| tm_at "g") => `(tactic| (first | with_reducible refine ite_nT ?_ | with_reducible refine ite_nnT ?_))
local macro_rules | `(tactic| tm_at "gC") => `(tactic| ((guard_target = GC _ _ (Value.builtin "len") [V.str _] _ _); (refine gc_lenS ?hz ?_); (case hz => rw [sizeLine_eq]; omega)))
local macro_rules | `(tactic| tm_at "gIx") => `(tactic| (with_reducible refine gi_tlS cInt (rv_val (by tm_at "sSel")) (by assumption) ?_))
local macro_rules | `(tactic| tm_at "gF") => `(tactic| ((guard_target = (IsIns _ _ _ _ _ ∧ _)); (with_reducible refine And.intro ?hh ?_); (case hh => exact isIns (by tm_at "sSel") (by tm_at "sNoF") (by rfl))))
abbrev iRecs : DecidableEq (List Rec) := fun a b => instDecidableEqList a b
instance i1 : DecidableEq (List Rec × Int) := @instDecidableEqProd _ _ iRecs Int.instDecidableEq
instance i2 : DecidableEq (List (List Rec) × Int) := @instDecidableEqProd _ _ (@instDecidableEqList _ iRecs) Int.instDecidableEq
structure Cat (Kf : PySem.W.Frag) : Prop where
  br : ∀ P : Str → Prop, P "record" → Catch Kf cs8 (BR Kf) P
theorem octI_m1 : octI (0 - 1) = [1] := by rw [octI, show (foldI (0 - 1)).toNat = 1 from by decide, octN_1 (by decide)]; rfl
theorem txtO_n : txtO none = [1] := octI_m1
theorem octI_64 : octI 64 = [128, 1] := by rw [octI, show (foldI 64).toNat = 128 from by decide, octN_2 (by decide), octN_1 (by decide)]; rfl
theorem octI_0 : octI 0 = [0] := by rw [octI, show (foldI 0).toNat = 0 from by decide, octN_1 (by decide)]; rfl
theorem recO_1 {r : Rec} {b t : Int} (h : r.1 = b) : (recO r b t).take 1 = [0] := by
  rw [recO, show r.1 - b = 0 from by omega, octI_0]; rfl
local macro_rules | `(tactic| tm_at "sSel1") => `(tactic| (first | exact Sel.here | exact Sel.there Sel.here | exact Sel.there (Sel.there Sel.here) | exact Sel.there (Sel.there (Sel.there Sel.here))))
section
variable {T : List (Addr × Str)} {P : Program} {w : World} {Kf : PySem.W.Frag} {mg : Str → Option Value} {base : Heap} {f : Addr} {fd : FuncData}
structure Me (T : List (Addr × Str)) (P : Program) (w : World) (Kf : PySem.W.Frag) (mg : Str → Option Value) (base : Heap) : Prop where
  folded : FnAt T P w Kf mg base 1 "folded" spFold
  unfolded : FnAt T P w Kf mg base 1 "unfolded" spUnf
  no : FnAt T P w Kf mg base 3 "number_octets" (spNO Kf)
  to : FnAt T P w Kf mg base 4 "text_octets" spTO
  su : FnAt T P w Kf mg base 1 "sum_of" spSum
  ro : FnAt T P w Kf mg base 5 "record_octets" spRO
  bat : FnAt T P w Kf mg base 6 "batch" (spBat Kf)
  rb : FnAt T P w Kf mg base 6 "read_batch" (spRB Kf)
  ra : FnAt T P w Kf mg base 8 "read_all" (spRA Kf)
theorem call_bat {v : V} {rs : List Rec} {L R : List SA} {K : GK} {kx : KX} (e : Ent T L (Val (rTl rRec) v rs :: R)) (h : LawR rs) (k : ∀ p, K p (Val (rTl rInt) p (batO rs) :: Val (rTl rRec) v rs :: R)) : spE T (spBat Kf) [v] L K kx :=
  CallS.mk ⟨v, rs, R, rfl, rfl, fun z => absurd z h.ne, fun _ => ⟨by have := h.len; omega, h.good, k⟩⟩ e
def spLaw (Kf : PySem.W.Frag) : SpL := fun vs L K kx => ∃ (s0 : Addr) (ns : List Int) (R : List SA), vs = [.ref s0] ∧ L = ScrP Kf s0 ns :: R ∧ ns.length ≤ 1000 ∧ ∀ L', K (.bl true) L'
theorem ok_law (pu : Pure) (fx : Fx Kf mg) (ca : Cat Kf) (me : Me T P w Kf mg base) (hro : FnAt T P w Kf mg base 1 "_law_roll" spRoll) (hrs : FnAt T P w Kf mg base 2 "_law_rounds" (spRounds Kf)) (D : ToldAt Kf mg "_law_told" cs8)
    (LA : ∀ A outer s H E, LamAt T (bx P w Kf mg base n_law "law" (defScope s_law) f fd.code A outer s H E))
    (F : FunD Kf "law" "law" (defArgs s_law) (defBody s_law) (defScope s_law) [] [] f fd) : FnOk P w Kf mg base (L2.CX P w) 13 f fd ["script"] (spOf T (spLaw Kf)) := by
  refine def_in F sc_law (fun vs L K kx h => ?_) (fun A outer s H E hr n vs L KK kx h hx σ hσ => ?_)
  · obtain ⟨s0, ns, R, rfl, _⟩ := h; rfl
  · obtain ⟨s0, ns, R, rfl, rfl, hz, k⟩ := h
    obtain rfl : σ = [some (.ref s0), none, none, none, none, none, none, none, none, none, none, none, none, none] := hσ
    have LA1 := LA A outer s H E
    obtain ⟨h_int, h_len, h_range, h_tuple, h_abs, ⟨_, h_SG⟩, cR, n1, n2⟩ := fx
    obtain ⟨me_fo, me_un, me_no, me_to, me_su, me_ro, me_ba, me_rb, me_ra⟩ := me
    refine gss_cons ?_
    refine gs_forLx (passes_of rfl) rfl (fun _ => rfl) ?_
    tm_at "go"
    refine CallS.mk ⟨s0, ns, 3, R, rfl, rfl, hz, fun Dl as => ?_⟩ (by tm_at "ent")
    refine ⟨Dl, as.map V.ref, fun i σ' L' => ∃ u1 u2 u3 u4 u5 u6 u7 u8 u9 u10 u11 u12 u13, σ' = [some (.ref s0), u1, u2, u3, u4, u5, u6, u7, u8, u9, u10, u11, u12, u13] ∧ L' = pt Dl (.lst (as.map V.ref)) :: ObS dcP (as.drop i) :: R, rfl, ?_, ?_, ?_, ?_⟩
    · exact Fits.mk ⟨_, _, _, _, _, _, _, _, _, _, _, _, _, rfl, rfl⟩ obl_out
    · rintro i σ' L' ⟨u1, u2, u3, u4, u5, u6, u7, u8, u9, u10, u11, u12, u13, rfl, rfl⟩
      exact ⟨_, .here⟩
    · rintro i x σ' L' hi ⟨u1, u2, u3, u4, u5, u6, u7, u8, u9, u10, u11, u12, u13, rfl, rfl⟩
      obtain ⟨d_, hd, rfl⟩ : ∃ d, as[i]? = some d ∧ x = V.ref d := by
        rw [List.getElem?_map] at hi
        cases hq : as[i]? with
        | none => rw [hq] at hi; cases hi
        | some y => rw [hq] at hi; cases hi; exact ⟨y, rfl, rfl⟩
      refine GG.ent (L' := dcP d_ :: pt Dl (.lst (as.map V.ref)) :: ObS dcP (as.drop (i + 1)) :: R) ?_ ?_
      · exact Ent.trans (Ent.perm (List.Perm.swap _ _ _)) (Ent.trans (obs_drop hd) (Fit.ent (Fit.tl (Fit.of (List.Perm.swap _ _ _)))))
      generalize hObs : ObS dcP (as.drop (i + 1)) = Obs
      tm_at "go"
      refine call_roll (by tm_at "ent") (by decide) (by decide) fun r0 hr0 hr1 => ?_
      tm_at "go"
      rename_i pg
      refine gs_forNx (passes_of rfl) rfl (n.gl (by tm_at "sKd")) (by assumption) rfl (fun _ => rfl) ?_
      tm_at "go"
      refine call_roll (by tm_at "ent") (by decide) (by decide) fun m hm0 hm4 => ?_
      tm_at "go"
      refine ⟨1 + m, fun i σ' L' => ∃ rs u4 u5 u11, σ' = [some (.ref s0), some (.ref d_), some (.int (r0 - 100)), some (.ref pg), u4, u5, u6, u7, u8, u9, u10, u11, u12, u13] ∧ L' = LstR rRec pg rs :: dcP d_ :: pt Dl (.lst (as.map V.ref)) :: Obs :: R ∧ rs.length = i ∧
        (∀ r ∈ rs, (-100 ≤ r.1 ∧ r.1 < 410) ∧ (-300 ≤ r.2.1 ∧ r.2.1 < 700) ∧ r.2.2.1 ∈ KEYS ∧ r.2.2.2 ∈ VALS) ∧ (0 < i → (headB rs).1 = r0 - 100), rfl, by omega, by omega, ?_, ?_, ?_⟩
      · refine Fits.mk ⟨[], _, _, _, rfl, rfl, rfl, (fun r hr => by cases hr), (fun z => by omega)⟩ ?_
        tm_at "ent"
      · rintro j σ' L' hj ⟨rs, u4, u5, u11, rfl, rfl, hl, hall, hhd⟩
        tm_at "go"
        refine call_roll (by tm_at "ent") (by decide) (by decide) fun ky hk0 hk3 => ?_
        obtain ⟨ky, rfl⟩ : ∃ z : Nat, ky = (z : Int) := ⟨ky.toNat, by omega⟩
        tm_at "go"
        obtain ⟨kd, hkd⟩ : ∃ kd, KEYS[ky]? = some kd := ⟨_, List.getElem?_eq_getElem (by show ky < 3; omega)⟩
        refine gi_lstS (f := vOpt) (ds := KEYS) (by first | exact Sel.here | exact Sel.there Sel.here | exact Sel.there (Sel.there Sel.here) | exact Sel.there (Sel.there (Sel.there Sel.here))) hkd ?_
        tm_at "go"
        refine call_roll (by tm_at "ent") (by decide) (by decide) fun va hv0 hv3 => ?_
        obtain ⟨va, rfl⟩ : ∃ z : Nat, va = (z : Int) := ⟨va.toNat, by omega⟩
        tm_at "go"
        obtain ⟨vd, hvd⟩ : ∃ vd, VALS[va]? = some vd := ⟨_, List.getElem?_eq_getElem (by show va < 3; omega)⟩
        refine gi_lstS (f := vOpt) (ds := VALS) (by first | exact Sel.here | exact Sel.there Sel.here | exact Sel.there (Sel.there Sel.here) | exact Sel.there (Sel.there (Sel.there Sel.here))) hvd ?_
        tm_at "go"
        refine call_roll (by tm_at "ent") (by decide) (by decide) fun tt ht0 ht9 => ?_
        tm_at "go"
        have hkm := List.mem_of_getElem? hkd
        have hvm := List.mem_of_getElem? hvd
        refine gapp_R (d := (r0 - 100 + (j : Nat), tt - 300, kd, vd)) (by tm_at "sRpl") (by rw [hl, sizeLine_eq]; omega) (rv_quad (by tm_at "sSel") rv_int rv_int (rv_scal cOpt (goodK (.inl hkm)).2) (rv_scal cOpt (goodK (.inr hvm)).2)) ?_
        tm_at "go"
        tm_at "fits"
        · refine ⟨rs ++ [(r0 - 100 + (j : Nat), tt - 300, kd, vd)], _, _, _, rfl, rfl, by simp [hl], fun r hr => ?_, fun _ => ?_⟩
          · rcases List.mem_append.mp hr with h | h
            · exact hall r h
            · cases List.mem_singleton.mp h
              exact ⟨⟨by show -100 ≤ r0 - 100 + (j : Nat); omega, by show r0 - 100 + (j : Nat) < 410; omega⟩, ⟨by show -300 ≤ tt - 300; omega, by show tt - 300 < 700; omega⟩, hkm, hvm⟩
          · cases rs with
            | nil =>
              have : j = 0 := by rw [← hl]; rfl
              subst this
              show r0 - 100 + ((0 : Nat) : Int) = _
              simp
            | cons r rs => exact hhd (by rw [← hl]; simp)
        · tm_at "ent"
      · rintro σ' L' ⟨rs, u4, u5, u11, rfl, rfl, hl, hall, hhd⟩
        have hlr : LawR rs := ⟨fun z => by rw [z] at hl; simp at hl; omega, by omega, hall⟩
        have hhd := hhd (by omega)
        obtain ⟨hoct, hrow3, hrow0⟩ := pu.oct rs hlr
        tm_at "go"
        refine gc_tupleR (by tm_at "sSel") fun v => ?_
        tm_at "go"
        refine call_bat (by tm_at "ent") hlr fun w' => ?_
        generalize hrow : batO rs = row at *
        tm_at "go"
        obtain ⟨hb1, hm1⟩ : rdB row 0 = some (rs, row.length) ∧ HM row 0 := by have := pu.back rs hlr [] []; rw [hrow] at this; simpa using this
        obtain ⟨hb2, hm2⟩ : rdB (row ++ row) row.length = some (rs, row.length + row.length) ∧ HM (row ++ row) row.length := by have := pu.back rs hlr row []; rw [hrow] at this; simpa using this
        have ho2 : Oct (row ++ row) := ⟨by rw [List.length_append]; omega, fun o h => (List.mem_append.mp h).elim (hoct.2 o) (hoct.2 o)⟩
        refine call_rb (p := 0) (ds := row) (by tm_at "ent") hoct hm1 (fun rs' q hq u => ?_) (fun hq d => ?_)
        rotate_left
        · rw [hb1] at hq; cases hq
        rw [hb1] at hq
        cases hq
        tm_at "go"
        refine go_neE hr (sees_rv (rv_val (by tm_at "sSel")) (by decide)) (sees_rv (rv_pair (by tm_at "sSel") (rv_val (R := rTl rRec) (d := rs) (by tm_at "sSel")) (rv_int (i := (row.length : Nat)))) (by decide)) (eqv_enc _ _) ?_
        rw [decide_eq_true rfl]
        tm_at "go"
        refine go_catT (rv_val (by tm_at "sSel")) (rv_val (by tm_at "sSel")) (by rw [sizeLine_eq]; omega) fun w2 => ?_
        tm_at "go"
        refine call_rb (p := row.length) (ds := row ++ row) (by tm_at "ent") ho2 hm2 (fun rs' q hq u2 => ?_) (fun hq d => ?_)
        rotate_left
        · rw [hb2] at hq; cases hq
        rw [hb2] at hq
        cases hq
        tm_at "go"
        refine go_neE hr (sees_rv (rv_val (by tm_at "sSel")) (by decide)) (sees_rv (rv_pair (by tm_at "sSel") (rv_val (R := rTl rRec) (d := rs) (by tm_at "sSel")) (rv_int (i := 2 * (row.length : Nat)))) (by decide)) (eqv_enc _ _) ?_
        rw [decide_eq_true (by rw [show ((row.length + row.length : Nat) : Int) = 2 * (row.length : Nat) from by push_cast; omega])]
        tm_at "go"
        refine call_roll (by tm_at "ent") (by omega) (by omega) fun kk hkk0 hkk1 => ?_
        obtain ⟨kk, rfl⟩ : ∃ z : Nat, kk = (z : Int) := ⟨kk.toNat, by omega⟩
        have hkk : kk < row.length := by omega
        obtain ⟨oo, hoo⟩ : ∃ oo, row[kk]? = some oo := ⟨_, List.getElem?_eq_getElem hkk⟩
        have hob := hoct.2 oo (List.mem_of_getElem? hoo)
        tm_at "go"
        refine gsl_tl (rv_val (by tm_at "sSel")) fun w3 => ?_
        rw [cut_to]
        tm_at "go"
        refine call_roll (by tm_at "ent") (by decide) (by decide) fun xx hx0 hx1 => ?_
        tm_at "go"
        refine go_catT (rv_val (by tm_at "sSel")) (rv_tl1 (by tm_at "sSel") rv_int) (by rw [List.length_take, List.length_singleton, sizeLine_eq]; omega) fun w4 => ?_
        tm_at "go"
        refine gsl_tl (rv_val (by tm_at "sSel")) fun w5 => ?_
        rw [show ((kk : Int) + 1) = ((kk + 1 : Nat) : Int) from rfl, cut_from]
        tm_at "go"
        refine go_catT (rv_val (by tm_at "sSel")) (rv_val (by tm_at "sSel")) (by rw [List.length_append, List.length_take, List.length_singleton, List.length_drop, sizeLine_eq]; omega) fun w6 => ?_
        obtain ⟨hmS, hspo⟩ := pu.spoil rs hlr kk oo xx (by rw [hrow]; exact hoo) hx0 hx1
        rw [hrow] at hmS hspo
        have hoS : Oct (spoilO row kk ((oo + 1 + xx) % 256)) := by
          refine ⟨by simp only [spoilO, List.length_append, List.length_take, List.length_singleton, List.length_drop]; omega, fun o h => ?_⟩
          simp only [spoilO, List.mem_append, List.mem_singleton] at h
          rcases h with (h | rfl) | h
          · exact hoct.2 o (List.mem_of_mem_take h)
          · exact ⟨Int.emod_nonneg _ (by decide), Int.emod_lt_of_pos _ (by decide)⟩
          · exact hoct.2 o (List.mem_of_mem_drop h)
        rw [show row.take kk ++ [(oo + 1 + xx) % 256] ++ row.drop (kk + 1) = spoilO row kk ((oo + 1 + xx) % 256) from rfl]
        generalize spoilO row kk ((oo + 1 + xx) % 256) = spo at *
        tm_at "gs"
        refine GSs.ent (L' := Val (rTl rInt) w6 spo :: Val (rTl rInt) w' row :: Val (rTl rRec) v rs :: dcP d_ :: pt Dl (.lst (as.map V.ref)) :: Obs :: R) (by tm_at "ent") ?_
        refine gss_cons ?_
        refine gs_join (fun σ' L' => ∃ w, σ' = [some (.ref s0), some (.ref d_), some (.int (r0 - 100)), some v, u4, u5, some w, u7, u8, u9, u10, some (.int (kk : Nat)), some w', some w6] ∧ ((w = .str "record" ∧ Ent T L' (Val (rTl rInt) w' row :: Val (rTl rRec) v rs :: dcP d_ :: pt Dl (.lst (as.map V.ref)) :: Obs :: R)) ∨
          ∃ rs' q, rs' ≠ rs ∧ Ent T L' (Val (rPair (rTl rRec) rInt) w (rs', q) :: Val (rTl rInt) w' row :: Val (rTl rRec) v rs :: dcP d_ :: pt Dl (.lst (as.map V.ref)) :: Obs :: R))) ?_ ?_
        · tm_at "go"
          refine ge_told n (by tm_at "sKd") D LA1 (k := 10) hr (LamX.lamS_by (by show LamX.lamSB (defScope s_law) _ = true; decide +kernel)) rfl (fun _ _ _ _ _ => rfl) rfl (by decide +kernel) fun A1 outer1 s1 H1 E1 f1 c1 hr1 n1 hx1 => ?_
          tm_at "go"
          refine call_rb (p := 0) (ds := spo) (by tm_at "ent") hoS hmS (fun rs' q hq u => ?_) (fun hq d => ?_)
          · tm_at "go"
            exact .inr ⟨rs', q, fun z => hspo q (by rw [hq, z]), by tm_at "ent"⟩
          · refine ca.br _ ?_
            tm_at "go"
            exact .inl ⟨rfl, by tm_at "ent"⟩
        · rintro σ' L' ⟨w, rfl, hw⟩
          tm_at "gs"
          refine gss_cons ?_
          refine gs_join (fun σ' L' => σ' = [some (.ref s0), some (.ref d_), some (.int (r0 - 100)), some v, u4, u5, some w, u7, u8, u9, u10, some (.int (kk : Nat)), some w', some w6] ∧ Ent T L' (Val (rTl rInt) w' row :: Val (rTl rRec) v rs :: dcP d_ :: pt Dl (.lst (as.map V.ref)) :: Obs :: R)) ?_ ?_
          · rcases hw with ⟨rfl, t1⟩ | ⟨rs', q, hne, t1⟩
            · refine GS.ent t1 ?_
              tm_at "go"
              rw [decide_eq_true rfl]
              tm_at "go"
              exact ⟨rfl, by tm_at "ent"⟩
            · refine GS.ent t1 ?_
              tm_at "go"
              refine go_neE (b := false) hr (sees_rv (rv_val (by tm_at "sSel")) (by decide)) (sees_rv (rv_str (s := "record") (by show PyData.canLay0 _ = true; decide +kernel)) (by decide)) rfl ?_
              tm_at "go"
              refine gi_pair0 (rv_val (by tm_at "sSel")) fun y => ?_
              tm_at "go"
              refine go_eqE hr (sees_rv (rv_val (R := rTl rRec) (d := rs') (by tm_at "sSel")) (by decide)) (sees_rv (rv_val (R := rTl rRec) (d := rs) (by tm_at "sSel")) (by decide)) (eqv_enc _ _) ?_
              rw [decide_eq_false hne]
              tm_at "go"
              exact ⟨rfl, by tm_at "ent"⟩
          · rintro σ' L' ⟨rfl, t1⟩
            refine GSs.ent t1 ?_
            clear hw
            tm_at "go"
            refine ge_told n (by tm_at "sKd") D LA1 (k := 10) hr (LamX.lamS_by (by show LamX.lamSB (defScope s_law) _ = true; decide +kernel)) rfl (fun _ _ _ _ _ => rfl) rfl (by decide +kernel) fun A1 outer1 s1 H1 E1 f1 c1 hr1 n1 hx1 => ?_
            tm_at "go"
            refine gsl_tl (rv_val (by tm_at "sSel")) fun w7 => ?_
            rw [cut_to]
            tm_at "go"
            obtain ⟨hc1, hcm1⟩ : rdB (row.take kk) 0 = none ∧ HM (row.take kk) 0 := by have := pu.cut rs hlr [] kk (by rw [hrow]; exact hkk); rw [hrow] at this; simpa using this
            have hoT : Oct (row.take kk) := ⟨by rw [List.length_take]; omega, fun o h => hoct.2 o (List.mem_of_mem_take h)⟩
            refine call_rb (p := 0) (ds := row.take kk) (by tm_at "ent") hoT hcm1 (fun rs' q hq u => ?_) (fun hq d => ?_)
            · rw [hc1] at hq; cases hq
            refine ca.br _ ?_
            tm_at "go"
            rw [decide_eq_true rfl]
            tm_at "gs"
            refine GSs.ent (L' := Val (rTl rInt) w' row :: Val (rTl rRec) v rs :: dcP d_ :: pt Dl (.lst (as.map V.ref)) :: Obs :: R) (by tm_at "ent") ?_
            tm_at "go"
            refine go_catT (rv_val (by tm_at "sSel")) (rv_val (by tm_at "sSel")) (by rw [sizeLine_eq]; omega) fun w8 => ?_
            tm_at "go"
            refine gsl_tl (ds := row) (rv_val (by tm_at "sSel")) fun w9 => ?_
            rw [cut_to]
            tm_at "go"
            refine go_catT (ds := row ++ row) (es := row.take kk) (rv_val (by tm_at "sSel")) (rv_val (by tm_at "sSel")) (by rw [List.length_append, List.length_take, sizeLine_eq]; omega) fun w10 => ?_
            have ho3 : Oct (row ++ row ++ row.take kk) := by
              refine ⟨by simp only [List.length_append, List.length_take]; omega, fun o h => ?_⟩
              rcases List.mem_append.mp h with h | h
              · exact ho2.2 o h
              · exact hoT.2 o h
            have hrun : RunA (row ++ row ++ row.take kk) 0 [rs, rs] (2 * row.length) := by
              obtain ⟨a1, a2⟩ : rdB (row ++ row ++ row.take kk) 0 = some (rs, row.length) ∧ HM (row ++ row ++ row.take kk) 0 := by have := pu.back rs hlr [] (row ++ row.take kk); rw [hrow] at this; simpa using this
              obtain ⟨b1, b2⟩ : rdB (row ++ row ++ row.take kk) row.length = some (rs, row.length + row.length) ∧ HM (row ++ row ++ row.take kk) row.length := by have := pu.back rs hlr row (row.take kk); rw [hrow] at this; exact this
              obtain ⟨c1, c2⟩ : rdB (row ++ row ++ row.take kk) (row.length + row.length) = none ∧ HM (row ++ row ++ row.take kk) (row.length + row.length) := by have := pu.cut rs hlr (row ++ row) kk (by rw [hrow]; exact hkk); rw [hrow, List.length_append] at this; exact this
              rw [show 2 * row.length = row.length + row.length from by omega]
              have hl3 : (row ++ row ++ row.take kk).length = row.length + row.length + kk := by simp only [List.length_append, List.length_take]; omega
              refine .step (by rw [hl3]; omega) a2 a1 (.step (by rw [hl3]; omega) b2 b1 ?_)
              by_cases hk0 : kk = 0
              · exact .fin (by rw [hl3]; omega)
              · exact .bad (by rw [hl3]; omega) c2 c1
            tm_at "go"
            refine CallS.mk ⟨w10, row ++ row ++ row.take kk, [rs, rs], 2 * row.length, _, rfl, rfl, ho3, hrun, Nat.le_of_ble_eq_true rfl, fun u3 => ?_⟩ (by tm_at "ent")
            tm_at "go"
            refine go_neE hr (sees_rv (rv_val (by tm_at "sSel")) (by decide)) (sees_rv (rv_pair (by tm_at "sSel") (rv_tl2 (R := rTl rRec) (by tm_at "sSel") (rv_val (R := rTl rRec) (d := rs) (by tm_at "sSel")) (rv_val (R := rTl rRec) (d := rs) (by tm_at "sSel"))) (rv_int (i := 2 * (row.length : Nat)))) (by decide)) (eqv_enc _ _) ?_
            rw [decide_eq_true (by push_cast; rfl)]
            tm_at "gs"
            refine GSs.ent (L' := Val (rTl rInt) w' row :: Val (rTl rRec) v rs :: dcP d_ :: pt Dl (.lst (as.map V.ref)) :: Obs :: R) (by tm_at "ent") ?_
            tm_at "go"
            refine call_roll (by tm_at "ent") (by decide) (by decide) fun nn hn0 hn1 => ?_
            tm_at "go"
            refine CallS.mk ⟨nn - 50000, rfl, ?_⟩ Ent.refl
            tm_at "go"
            refine CallS.mk ⟨foldI (nn - 50000), rfl, ?_⟩ Ent.refl
            rw [pu.fold]
            tm_at "go"
            rw [decide_eq_true rfl]
            tm_at "go"
            refine CallS.mk ⟨nn - 50000, rfl, ?_⟩ Ent.refl
            tm_at "go"
            rw [decide_eq_false (by have := foldI_nn (nn - 50000); omega)]
            tm_at "go"
            refine call_no (n := 0 - 1) (by decide) Ent.refl fun p1 => ?_
            tm_at "go"
            refine go_neE hr (sees_pt (ds := octI (0 - 1)) cInt (by tm_at "sSel") (fun _ _ => True.intro) (by decide)) (sees_pt (ds := [1]) cInt (by tm_at "sSel1") (fun _ _ => True.intro) (by decide)) (eqv_lst _ _) ?_
            rw [decide_eq_true octI_m1]
            tm_at "go"
            refine call_no (n := 64) (by decide) Ent.refl fun p2 => ?_
            tm_at "go"
            refine go_neE hr (sees_pt (ds := octI 64) cInt (by tm_at "sSel") (fun _ _ => True.intro) (by decide)) (sees_pt (ds := [128, 1]) cInt (by tm_at "sSel1") (fun _ _ => True.intro) (by decide)) (eqv_lst _ _) ?_
            rw [decide_eq_true octI_64]
            tm_at "go"
            refine GS.ent (L' := Val (rTl rInt) w' row :: Val (rTl rRec) v rs :: dcP d_ :: pt Dl (.lst (as.map V.ref)) :: Obs :: R) (by tm_at "ent") ?_
            refine gs_forT (fun i σ' L' => ∃ o, σ' = [some (.ref s0), some (.ref d_), some (.int (r0 - 100)), some v, u4, u5, some w, some (.int (nn - 50000)), some (.int (sumQ (row.take i)).1), some (.int (sumQ (row.take i)).2), o, some (.int (kk : Nat)), some w', some w6] ∧ L' = Val (rTl rInt) w' row :: Val (rTl rRec) v rs :: dcP d_ :: pt Dl (.lst (as.map V.ref)) :: Obs :: R) w' rInt row (passes_of rfl) rfl (fun _ => rfl) ?_ ?_ ?_ ?_
            · tm_at "go"
              exact ⟨rfl, _, rfl, rfl⟩
            · rintro i σ' L' ⟨o, rfl, rfl⟩
              exact rv_val (by tm_at "sSel")
            · rintro i dd x σ' L' hdd ⟨o, rfl, rfl⟩
              refine gg_val cInt (rv_val .here) fun _ => ?_
              tm_at "go"
              tm_at "fits"
              · exact ⟨_, by rw [sumQ_succ hdd], rfl⟩
              · tm_at "ent"
            · rintro σ' L' ⟨o, rfl, rfl⟩
              rw [List.take_length]
              tm_at "go"
              refine CallS.mk ⟨w', row, _, rfl, .inr rfl, ?_⟩ (by tm_at "ent")
              tm_at "go"
              rw [decide_eq_true (by rw [pu.sum]; rfl)]
              tm_at "go"
              refine call_to (t := none) True.intro Ent.refl fun p3 => ?_
              tm_at "go"
              refine go_neE hr (sees_pt (ds := txtO none) cInt (by tm_at "sSel") (fun _ _ => True.intro) (by decide)) (sees_pt (ds := [1]) cInt (by tm_at "sSel1") (fun _ _ => True.intro) (by decide)) (eqv_lst _ _) ?_
              rw [decide_eq_true txtO_n]
              tm_at "go"
              obtain ⟨r, hr0'⟩ : ∃ r, rs[0]? = some r := ⟨_, List.getElem?_eq_getElem (by omega)⟩
              have hrb : r.1 = r0 - 100 := by
                cases rs with
                | nil => cases hr0'
                | cons r' rs' => cases hr0'; exact hhd
              refine gi_tl (n := 0) (R := rRec) (rv_val (by tm_at "sSel")) hr0' fun x => ?_
              tm_at "go"
              refine call_ro (r := r) (hlr.good r (List.mem_of_getElem? hr0')) (by omega) (by decide) (by tm_at "ent") fun p4 => ?_
              tm_at "go"
              refine gsl_lst (by tm_at "sSel") fun p5 => ?_
              rw [SW.cutD_map, show (1 : Int) = ((1 : Nat) : Int) from rfl, cut_to]
              tm_at "go"
              refine go_neE hr (sees_pt (ds := (recO r (r0 - 100) 0).take 1) cInt (by tm_at "sSel") (fun _ _ => True.intro) (by decide)) (sees_pt (ds := [0]) cInt (by tm_at "sSel1") (fun _ _ => True.intro) (by decide)) (eqv_lst _ _) ?_
              rw [decide_eq_true (recO_1 hrb)]
              tm_at "go"
              refine ge_told n (by tm_at "sKd") D LA1 (k := 10) hr (LamX.lamS_by (by show LamX.lamSB (defScope s_law) _ = true; decide +kernel)) rfl (fun _ _ _ _ _ => rfl) rfl (by decide +kernel) fun A1 outer1 s1 H1 E1 f1 c1 hr1 n1 hx1 => ?_
              tm_at "go"
              rename_i pe
              refine CallS.mk ⟨.ref pe, [], _, rfl, rfl, fun _ d => ?_, fun z => absurd rfl z⟩ (Ent.trans (ent_val (rv_tl0 (R := rRec) (by tm_at "sSel"))) Ent.refl)
              refine ca.br _ ?_
              tm_at "go"
              rw [decide_eq_true rfl]
              tm_at "go"
              refine ge_told n (by tm_at "sKd") D LA1 (k := 10) hr (LamX.lamS_by (by show LamX.lamSB (defScope s_law) _ = true; decide +kernel)) rfl (fun _ _ _ _ _ => rfl) rfl (by decide +kernel) fun A1 outer1 s1 H1 E1 f1 c1 hr1 n1 hx1 => ?_
              tm_at "go"
              refine CallS.mk ⟨10 ^ Int.toNat 30, rfl, fun z => absurd z (by decide), fun _ d => ?_⟩ Ent.refl
              refine ca.br _ ?_
              tm_at "go"
              rw [decide_eq_true rfl]
              tm_at "go"
              tm_at "fits"
              · exact ⟨_, _, _, _, _, _, _, _, _, _, _, _, _, rfl, rfl⟩
              · rw [hObs]
                tm_at "ent"
    · rintro σ' L' ⟨u1, u2, u3, u4, u5, u6, u7, u8, u9, u10, u11, u12, u13, rfl, rfl⟩
      tm_at "go"
      apply Clo.mk (k _)
      exact Ent.refl
end
end K01
set_option Elab.async false
set_option linter.all false
set_option maxRecDepth 100000
set_option maxHeartbeats 0
namespace K01
open PySem PySem.Spec L2 SW
open PyProof.Rows hiding St
/-! ### the head: facts by names, the run -/
def d0 : He.DefD := ⟨("folded", none), "folded", "folded", defArgs s_folded, defBody s_folded, defScope s_folded, [], []⟩
def d1 : He.DefD := ⟨("unfolded", none), "unfolded", "unfolded", defArgs s_unfolded, defBody s_unfolded, defScope s_unfolded, [], []⟩
def d2 : He.DefD := ⟨("number_octets", none), "number_octets", "number_octets", defArgs s_number_octets, defBody s_number_octets, defScope s_number_octets, [], []⟩
def d3 : He.DefD := ⟨("text_octets", none), "text_octets", "text_octets", defArgs s_text_octets, defBody s_text_octets, defScope s_text_octets, [], []⟩
def d4 : He.DefD := ⟨("Reader", some "__init__"), "__init__", "Reader.__init__", defArgs s_Reader__init, defBody s_Reader__init, defScope s_Reader__init, [], []⟩
def d5 : He.DefD := ⟨("Reader", some "octet"), "octet", "Reader.octet", defArgs s_Reader_octet, defBody s_Reader_octet, defScope s_Reader_octet, [], []⟩
def d6 : He.DefD := ⟨("Reader", some "whole"), "whole", "Reader.whole", defArgs s_Reader_whole, defBody s_Reader_whole, defScope s_Reader_whole, [], []⟩
def d7 : He.DefD := ⟨("Reader", some "text"), "text", "Reader.text", defArgs s_Reader_text, defBody s_Reader_text, defScope s_Reader_text, [], []⟩
def d8 : He.DefD := ⟨("sum_of", none), "sum_of", "sum_of", defArgs s_sum_of, defBody s_sum_of, defScope s_sum_of, [], []⟩
def d9 : He.DefD := ⟨("record_octets", none), "record_octets", "record_octets", defArgs s_record_octets, defBody s_record_octets, defScope s_record_octets, [], []⟩
def d10 : He.DefD := ⟨("batch", none), "batch", "batch", defArgs s_batch, defBody s_batch, defScope s_batch, [], []⟩
def d11 : He.DefD := ⟨("read_batch", none), "read_batch", "read_batch", defArgs s_read_batch, defBody s_read_batch, defScope s_read_batch, [], []⟩
def d12 : He.DefD := ⟨("read_all", none), "read_all", "read_all", defArgs s_read_all, defBody s_read_all, defScope s_read_all, [], []⟩
def d13 : He.DefD := ⟨("_law_dice", none), "_law_dice", "_law_dice", defArgs s_law_dice, defBody s_law_dice, defScope s_law_dice, [], []⟩
def d14 : He.DefD := ⟨("_law_roll", none), "_law_roll", "_law_roll", defArgs s_law_roll, defBody s_law_roll, defScope s_law_roll, [], []⟩
def d15 : He.DefD := ⟨("_law_rounds", none), "_law_rounds", "_law_rounds", defArgs s_law_rounds, defBody s_law_rounds, defScope s_law_rounds, [], []⟩
def d16 : He.DefD := ⟨("_law_told", none), "_law_told", "_law_told", defArgs s_law_told, defBody s_law_told, defScope s_law_told, [], []⟩
def d17 : He.DefD := ⟨("law", none), "law", "law", defArgs s_law, defBody s_law, defScope s_law, [], []⟩
def fnl : List He.DefD := [d0, d1, d2, d3, d4, d5, d6, d7, d8, d9, d10, d11, d12, d13, d14, d15, d16, d17]
def fal : List He.Fa := [.free "int", .free "len", .free "super", .free "range", .free "tuple", .free "abs", .glo "BadRecord", .glo "OutOfLog", .glo "Fenced", .glo "OutOfOrder", .glo "NotDue", .glo "BadPlan", .glo "BadText", .glo "TooLarge", .glo "Reader", .glo "law", .glo "folded", .glo "unfolded", .glo "number_octets", .glo "text_octets", .glo "sum_of", .glo "record_octets", .glo "batch", .glo "read_batch", .glo "read_all", .glo "_law_dice", .glo "_law_roll", .glo "_law_rounds", .glo "_law_told", .str "SIGNS" "abcdefghijklmnopqrstuvwxyzABCDEFGHIJKLMNOPQRSTUVWXYZ0123456789 .,:;<>()-+_=/", .cls "Reader", .noat "Reader" "row", .noat "Reader" "place", .noat "BadRecord" "place", .exm "BadRecord" "BadRecord" true, .keep "folded", .keep "unfolded", .keep "number_octets", .keep "text_octets", .mkr "Reader", .meth "Reader" "octet", .meth "Reader" "whole", .meth "Reader" "text", .keep "sum_of", .keep "record_octets", .keep "batch", .keep "read_batch", .keep "read_all", .keep "_law_dice", .keep "_law_roll", .keep "_law_rounds", .keep "_law_told", .keep "law"]
def tfl : List He.Defn := [("law", none)]
def sfl : List XiD := [("BadRecord", defArgs s_BadRecord__init, defBody s_BadRecord__init, defScope s_BadRecord__init)]
def exl : PySem.W.Frag → Bool := fun K => (supB PySem.Challenge.pw_brookhall_k01_records_as_octets K "BadRecord" && true)
abbrev Rw : PySem.W.OpenRow := PySem.W.OpenLaw.row PySem.Challenge.rw_brookhall_k01_records_as_octets
abbrev hk : PySem.W.Hook := hookY 6 fal fnl tfl sfl exl
def ob (s : PySem.W.SharedT) : AlY := obsY 6 fal fnl tfl sfl exl (HandSHeadRun.getT s)
theorem ob_eq (s : PySem.W.SharedT) : ob s = hk.obs s.abs := obsY_eq (HandSHeadRun.getT_eq s)
theorem run (w : World) : HandSHeadRun.RunEq Rw (PySem.W.view Rw.prog [27]) hk ob 4000 ["BrookFault", "BadRecord", "OutOfLog", "Fenced", "OutOfOrder", "NotDue", "BadPlan", "BadText", "TooLarge", "SIGNS", "Reader", "folded", "unfolded", "number_octets", "text_octets", "sum_of", "record_octets", "batch", "read_batch", "read_all", "_law_dice", "_law_roll", "_law_rounds", "_law_told"] w := by
  intro os
  kernel_rfl
/-- the tables of lambdas -/
def TT (K : PySem.W.Frag) : List (Addr × Str) := [((He.cT K ("law", none)).2, (("law" : Str) ++ ".<locals>.") ++ "<lambda>")]
theorem code_at {K : PySem.W.Frag} {p : He.Defn} {x qual : Str} {pa : Arguments} {bd : List Stmt} {sc : Scope} {fd : FuncData} (F : FunD K x qual pa bd sc [] [] (He.fAd K p) fd) : fd.code = .ref (He.cT K p).1 := by
  obtain ⟨oc, od, dV, kV, doc, pm, an, cdv, ct, osl, rfl, lk, hcd, hD, hK⟩ := F.ex
  obtain ⟨c, e⟩ := He.codeIn_ref hcd
  have e2 := He.codeOf_eq lk e
  rw [e]
  show Value.ref c = .ref (He.codeOf K p)
  rw [e2]
section
variable {w : World} {K : PySem.W.Frag} {h : Heap} {mg : Str → Option Value}
abbrev P : Program := PySem.Challenge.pw_brookhall_k01_records_as_octets
abbrev SX (K : PySem.W.Frag) (h : Heap) : Prop := SaysY fal fnl tfl sfl exl h K
theorem ex0 (c : SX K h) : supB PySem.Challenge.pw_brookhall_k01_records_as_octets K "BadRecord" = true := (He.ba c.more).1
theorem fun0 (c : SX K h) : ∃ fd, FunD K "folded" "folded" (defArgs s_folded) (defBody s_folded) (defScope s_folded) [] [] (He.ga K "folded") fd := c.d.def_ 0 (d := d0) rfl
theorem bind0 {fd : FuncData} (F : FunD K "folded" "folded" (defArgs s_folded) (defBody s_folded) (defScope s_folded) [] [] (He.ga K "folded") fd) : Binds K fd ["number"] [] := F.bindsN fun kV doc pm an cdv ct us hl => match us, hl with | [u0], _ => rfl
theorem fun1 (c : SX K h) : ∃ fd, FunD K "unfolded" "unfolded" (defArgs s_unfolded) (defBody s_unfolded) (defScope s_unfolded) [] [] (He.ga K "unfolded") fd := c.d.def_ 1 (d := d1) rfl
theorem bind1 {fd : FuncData} (F : FunD K "unfolded" "unfolded" (defArgs s_unfolded) (defBody s_unfolded) (defScope s_unfolded) [] [] (He.ga K "unfolded") fd) : Binds K fd ["number"] [] := F.bindsN fun kV doc pm an cdv ct us hl => match us, hl with | [u0], _ => rfl
theorem fun2 (c : SX K h) : ∃ fd, FunD K "number_octets" "number_octets" (defArgs s_number_octets) (defBody s_number_octets) (defScope s_number_octets) [] [] (He.ga K "number_octets") fd := c.d.def_ 2 (d := d2) rfl
theorem bind2 {fd : FuncData} (F : FunD K "number_octets" "number_octets" (defArgs s_number_octets) (defBody s_number_octets) (defScope s_number_octets) [] [] (He.ga K "number_octets") fd) : Binds K fd ["number"] [] := F.bindsN fun kV doc pm an cdv ct us hl => match us, hl with | [u0], _ => rfl
theorem fun3 (c : SX K h) : ∃ fd, FunD K "text_octets" "text_octets" (defArgs s_text_octets) (defBody s_text_octets) (defScope s_text_octets) [] [] (He.ga K "text_octets") fd := c.d.def_ 3 (d := d3) rfl
theorem bind3 {fd : FuncData} (F : FunD K "text_octets" "text_octets" (defArgs s_text_octets) (defBody s_text_octets) (defScope s_text_octets) [] [] (He.ga K "text_octets") fd) : Binds K fd ["text"] [] := F.bindsN fun kV doc pm an cdv ct us hl => match us, hl with | [u0], _ => rfl
theorem fun4 (c : SX K h) : ∃ fd, FunD K "__init__" "Reader.__init__" (defArgs s_Reader__init) (defBody s_Reader__init) (defScope s_Reader__init) [] [] (He.ma K (He.ga K "Reader") "__init__") fd := c.d.def_ 4 (d := d4) rfl
theorem bind4 {fd : FuncData} (F : FunD K "__init__" "Reader.__init__" (defArgs s_Reader__init) (defBody s_Reader__init) (defScope s_Reader__init) [] [] (He.ma K (He.ga K "Reader") "__init__") fd) : Binds K fd ["self", "row", "place"] [] := F.bindsN fun kV doc pm an cdv ct us hl => match us, hl with | [u0, u1, u2], _ => rfl
theorem fun5 (c : SX K h) : ∃ fd, FunD K "octet" "Reader.octet" (defArgs s_Reader_octet) (defBody s_Reader_octet) (defScope s_Reader_octet) [] [] (He.ma K (He.ga K "Reader") "octet") fd := c.d.def_ 5 (d := d5) rfl
theorem bind5 {fd : FuncData} (F : FunD K "octet" "Reader.octet" (defArgs s_Reader_octet) (defBody s_Reader_octet) (defScope s_Reader_octet) [] [] (He.ma K (He.ga K "Reader") "octet") fd) : Binds K fd ["self"] [] := F.bindsN fun kV doc pm an cdv ct us hl => match us, hl with | [u0], _ => rfl
theorem fun6 (c : SX K h) : ∃ fd, FunD K "whole" "Reader.whole" (defArgs s_Reader_whole) (defBody s_Reader_whole) (defScope s_Reader_whole) [] [] (He.ma K (He.ga K "Reader") "whole") fd := c.d.def_ 6 (d := d6) rfl
theorem bind6 {fd : FuncData} (F : FunD K "whole" "Reader.whole" (defArgs s_Reader_whole) (defBody s_Reader_whole) (defScope s_Reader_whole) [] [] (He.ma K (He.ga K "Reader") "whole") fd) : Binds K fd ["self"] [] := F.bindsN fun kV doc pm an cdv ct us hl => match us, hl with | [u0], _ => rfl
theorem fun7 (c : SX K h) : ∃ fd, FunD K "text" "Reader.text" (defArgs s_Reader_text) (defBody s_Reader_text) (defScope s_Reader_text) [] [] (He.ma K (He.ga K "Reader") "text") fd := c.d.def_ 7 (d := d7) rfl
theorem bind7 {fd : FuncData} (F : FunD K "text" "Reader.text" (defArgs s_Reader_text) (defBody s_Reader_text) (defScope s_Reader_text) [] [] (He.ma K (He.ga K "Reader") "text") fd) : Binds K fd ["self"] [] := F.bindsN fun kV doc pm an cdv ct us hl => match us, hl with | [u0], _ => rfl
theorem fun8 (c : SX K h) : ∃ fd, FunD K "sum_of" "sum_of" (defArgs s_sum_of) (defBody s_sum_of) (defScope s_sum_of) [] [] (He.ga K "sum_of") fd := c.d.def_ 8 (d := d8) rfl
theorem bind8 {fd : FuncData} (F : FunD K "sum_of" "sum_of" (defArgs s_sum_of) (defBody s_sum_of) (defScope s_sum_of) [] [] (He.ga K "sum_of") fd) : Binds K fd ["row"] [] := F.bindsN fun kV doc pm an cdv ct us hl => match us, hl with | [u0], _ => rfl
theorem fun9 (c : SX K h) : ∃ fd, FunD K "record_octets" "record_octets" (defArgs s_record_octets) (defBody s_record_octets) (defScope s_record_octets) [] [] (He.ga K "record_octets") fd := c.d.def_ 9 (d := d9) rfl
theorem bind9 {fd : FuncData} (F : FunD K "record_octets" "record_octets" (defArgs s_record_octets) (defBody s_record_octets) (defScope s_record_octets) [] [] (He.ga K "record_octets") fd) : Binds K fd ["record", "base", "time"] [] := F.bindsN fun kV doc pm an cdv ct us hl => match us, hl with | [u0, u1, u2], _ => rfl
theorem fun10 (c : SX K h) : ∃ fd, FunD K "batch" "batch" (defArgs s_batch) (defBody s_batch) (defScope s_batch) [] [] (He.ga K "batch") fd := c.d.def_ 10 (d := d10) rfl
theorem bind10 {fd : FuncData} (F : FunD K "batch" "batch" (defArgs s_batch) (defBody s_batch) (defScope s_batch) [] [] (He.ga K "batch") fd) : Binds K fd ["records"] [] := F.bindsN fun kV doc pm an cdv ct us hl => match us, hl with | [u0], _ => rfl
theorem fun11 (c : SX K h) : ∃ fd, FunD K "read_batch" "read_batch" (defArgs s_read_batch) (defBody s_read_batch) (defScope s_read_batch) [] [] (He.ga K "read_batch") fd := c.d.def_ 11 (d := d11) rfl
theorem bind11 {fd : FuncData} (F : FunD K "read_batch" "read_batch" (defArgs s_read_batch) (defBody s_read_batch) (defScope s_read_batch) [] [] (He.ga K "read_batch") fd) : Binds K fd ["row", "place"] [] := F.bindsN fun kV doc pm an cdv ct us hl => match us, hl with | [u0, u1], _ => rfl
theorem fun12 (c : SX K h) : ∃ fd, FunD K "read_all" "read_all" (defArgs s_read_all) (defBody s_read_all) (defScope s_read_all) [] [] (He.ga K "read_all") fd := c.d.def_ 12 (d := d12) rfl
theorem bind12 {fd : FuncData} (F : FunD K "read_all" "read_all" (defArgs s_read_all) (defBody s_read_all) (defScope s_read_all) [] [] (He.ga K "read_all") fd) : Binds K fd ["row"] [] := F.bindsN fun kV doc pm an cdv ct us hl => match us, hl with | [u0], _ => rfl
theorem fun13 (c : SX K h) : ∃ fd, FunD K "_law_dice" "_law_dice" (defArgs s_law_dice) (defBody s_law_dice) (defScope s_law_dice) [] [] (He.ga K "_law_dice") fd := c.d.def_ 13 (d := d13) rfl
theorem bind13 {fd : FuncData} (F : FunD K "_law_dice" "_law_dice" (defArgs s_law_dice) (defBody s_law_dice) (defScope s_law_dice) [] [] (He.ga K "_law_dice") fd) : Binds K fd ["cell"] [] := F.bindsN fun kV doc pm an cdv ct us hl => match us, hl with | [u0], _ => rfl
theorem fun14 (c : SX K h) : ∃ fd, FunD K "_law_roll" "_law_roll" (defArgs s_law_roll) (defBody s_law_roll) (defScope s_law_roll) [] [] (He.ga K "_law_roll") fd := c.d.def_ 14 (d := d14) rfl
theorem bind14 {fd : FuncData} (F : FunD K "_law_roll" "_law_roll" (defArgs s_law_roll) (defBody s_law_roll) (defScope s_law_roll) [] [] (He.ga K "_law_roll") fd) : Binds K fd ["dice", "many"] [] := F.bindsN fun kV doc pm an cdv ct us hl => match us, hl with | [u0, u1], _ => rfl
theorem fun15 (c : SX K h) : ∃ fd, FunD K "_law_rounds" "_law_rounds" (defArgs s_law_rounds) (defBody s_law_rounds) (defScope s_law_rounds) [] [] (He.ga K "_law_rounds") fd := c.d.def_ 15 (d := d15) rfl
theorem bind15 {fd : FuncData} (F : FunD K "_law_rounds" "_law_rounds" (defArgs s_law_rounds) (defBody s_law_rounds) (defScope s_law_rounds) [] [] (He.ga K "_law_rounds") fd) : Binds K fd ["script", "most"] [] := F.bindsN fun kV doc pm an cdv ct us hl => match us, hl with | [u0, u1], _ => rfl
theorem fun16 (c : SX K h) : ∃ fd, FunD K "_law_told" "_law_told" (defArgs s_law_told) (defBody s_law_told) (defScope s_law_told) [] [] (He.ga K "_law_told") fd := c.d.def_ 16 (d := d16) rfl
theorem bind16 {fd : FuncData} (F : FunD K "_law_told" "_law_told" (defArgs s_law_told) (defBody s_law_told) (defScope s_law_told) [] [] (He.ga K "_law_told") fd) : Binds K fd ["what"] [] := F.bindsN fun kV doc pm an cdv ct us hl => match us, hl with | [u0], _ => rfl
theorem fun17 (c : SX K h) : ∃ fd, FunD K "law" "law" (defArgs s_law) (defBody s_law) (defScope s_law) [] [] (He.ga K "law") fd := c.d.def_ 17 (d := d17) rfl
theorem bind17 {fd : FuncData} (F : FunD K "law" "law" (defArgs s_law) (defBody s_law) (defScope s_law) [] [] (He.ga K "law") fd) : Binds K fd ["script"] [] := F.bindsN fun kV doc pm an cdv ct us hl => match us, hl with | [u0], _ => rfl
theorem h_free_int {hh : Heap} (c : SX K h) (X : K.In hh) (G : hh.Ns mainGlobals mg) : mg "int" = none := He.free_ok X G (c.d.fact 0 (f := .free "int") rfl)
theorem h_free_len {hh : Heap} (c : SX K h) (X : K.In hh) (G : hh.Ns mainGlobals mg) : mg "len" = none := He.free_ok X G (c.d.fact 1 (f := .free "len") rfl)
theorem h_free_super {hh : Heap} (c : SX K h) (X : K.In hh) (G : hh.Ns mainGlobals mg) : mg "super" = none := He.free_ok X G (c.d.fact 2 (f := .free "super") rfl)
theorem h_free_range {hh : Heap} (c : SX K h) (X : K.In hh) (G : hh.Ns mainGlobals mg) : mg "range" = none := He.free_ok X G (c.d.fact 3 (f := .free "range") rfl)
theorem h_free_tuple {hh : Heap} (c : SX K h) (X : K.In hh) (G : hh.Ns mainGlobals mg) : mg "tuple" = none := He.free_ok X G (c.d.fact 4 (f := .free "tuple") rfl)
theorem h_free_abs {hh : Heap} (c : SX K h) (X : K.In hh) (G : hh.Ns mainGlobals mg) : mg "abs" = none := He.free_ok X G (c.d.fact 5 (f := .free "abs") rfl)
theorem h_glo_BadRecord {hh : Heap} (c : SX K h) (X : K.In hh) (G : hh.Ns mainGlobals mg) : mg "BadRecord" = some (.ref (He.ga K "BadRecord")) := He.glo_ok X G (c.d.fact 6 (f := .glo "BadRecord") rfl)
theorem h_glo_OutOfLog {hh : Heap} (c : SX K h) (X : K.In hh) (G : hh.Ns mainGlobals mg) : mg "OutOfLog" = some (.ref (He.ga K "OutOfLog")) := He.glo_ok X G (c.d.fact 7 (f := .glo "OutOfLog") rfl)
theorem h_glo_Fenced {hh : Heap} (c : SX K h) (X : K.In hh) (G : hh.Ns mainGlobals mg) : mg "Fenced" = some (.ref (He.ga K "Fenced")) := He.glo_ok X G (c.d.fact 8 (f := .glo "Fenced") rfl)
theorem h_glo_OutOfOrder {hh : Heap} (c : SX K h) (X : K.In hh) (G : hh.Ns mainGlobals mg) : mg "OutOfOrder" = some (.ref (He.ga K "OutOfOrder")) := He.glo_ok X G (c.d.fact 9 (f := .glo "OutOfOrder") rfl)
theorem h_glo_NotDue {hh : Heap} (c : SX K h) (X : K.In hh) (G : hh.Ns mainGlobals mg) : mg "NotDue" = some (.ref (He.ga K "NotDue")) := He.glo_ok X G (c.d.fact 10 (f := .glo "NotDue") rfl)
theorem h_glo_BadPlan {hh : Heap} (c : SX K h) (X : K.In hh) (G : hh.Ns mainGlobals mg) : mg "BadPlan" = some (.ref (He.ga K "BadPlan")) := He.glo_ok X G (c.d.fact 11 (f := .glo "BadPlan") rfl)
theorem h_glo_BadText {hh : Heap} (c : SX K h) (X : K.In hh) (G : hh.Ns mainGlobals mg) : mg "BadText" = some (.ref (He.ga K "BadText")) := He.glo_ok X G (c.d.fact 12 (f := .glo "BadText") rfl)
theorem h_glo_TooLarge {hh : Heap} (c : SX K h) (X : K.In hh) (G : hh.Ns mainGlobals mg) : mg "TooLarge" = some (.ref (He.ga K "TooLarge")) := He.glo_ok X G (c.d.fact 13 (f := .glo "TooLarge") rfl)
theorem h_glo_Reader {hh : Heap} (c : SX K h) (X : K.In hh) (G : hh.Ns mainGlobals mg) : mg "Reader" = some (.ref (He.ga K "Reader")) := He.glo_ok X G (c.d.fact 14 (f := .glo "Reader") rfl)
theorem h_glo_law {hh : Heap} (c : SX K h) (X : K.In hh) (G : hh.Ns mainGlobals mg) : mg "law" = some (.ref (He.ga K "law")) := He.glo_ok X G (c.d.fact 15 (f := .glo "law") rfl)
theorem h_glo_folded {hh : Heap} (c : SX K h) (X : K.In hh) (G : hh.Ns mainGlobals mg) : mg "folded" = some (.ref (He.ga K "folded")) := He.glo_ok X G (c.d.fact 16 (f := .glo "folded") rfl)
theorem h_glo_unfolded {hh : Heap} (c : SX K h) (X : K.In hh) (G : hh.Ns mainGlobals mg) : mg "unfolded" = some (.ref (He.ga K "unfolded")) := He.glo_ok X G (c.d.fact 17 (f := .glo "unfolded") rfl)
theorem h_glo_number_octets {hh : Heap} (c : SX K h) (X : K.In hh) (G : hh.Ns mainGlobals mg) : mg "number_octets" = some (.ref (He.ga K "number_octets")) := He.glo_ok X G (c.d.fact 18 (f := .glo "number_octets") rfl)
theorem h_glo_text_octets {hh : Heap} (c : SX K h) (X : K.In hh) (G : hh.Ns mainGlobals mg) : mg "text_octets" = some (.ref (He.ga K "text_octets")) := He.glo_ok X G (c.d.fact 19 (f := .glo "text_octets") rfl)
theorem h_glo_sum_of {hh : Heap} (c : SX K h) (X : K.In hh) (G : hh.Ns mainGlobals mg) : mg "sum_of" = some (.ref (He.ga K "sum_of")) := He.glo_ok X G (c.d.fact 20 (f := .glo "sum_of") rfl)
theorem h_glo_record_octets {hh : Heap} (c : SX K h) (X : K.In hh) (G : hh.Ns mainGlobals mg) : mg "record_octets" = some (.ref (He.ga K "record_octets")) := He.glo_ok X G (c.d.fact 21 (f := .glo "record_octets") rfl)
theorem h_glo_batch {hh : Heap} (c : SX K h) (X : K.In hh) (G : hh.Ns mainGlobals mg) : mg "batch" = some (.ref (He.ga K "batch")) := He.glo_ok X G (c.d.fact 22 (f := .glo "batch") rfl)
theorem h_glo_read_batch {hh : Heap} (c : SX K h) (X : K.In hh) (G : hh.Ns mainGlobals mg) : mg "read_batch" = some (.ref (He.ga K "read_batch")) := He.glo_ok X G (c.d.fact 23 (f := .glo "read_batch") rfl)
theorem h_glo_read_all {hh : Heap} (c : SX K h) (X : K.In hh) (G : hh.Ns mainGlobals mg) : mg "read_all" = some (.ref (He.ga K "read_all")) := He.glo_ok X G (c.d.fact 24 (f := .glo "read_all") rfl)
theorem h_glo__law_dice {hh : Heap} (c : SX K h) (X : K.In hh) (G : hh.Ns mainGlobals mg) : mg "_law_dice" = some (.ref (He.ga K "_law_dice")) := He.glo_ok X G (c.d.fact 25 (f := .glo "_law_dice") rfl)
theorem h_glo__law_roll {hh : Heap} (c : SX K h) (X : K.In hh) (G : hh.Ns mainGlobals mg) : mg "_law_roll" = some (.ref (He.ga K "_law_roll")) := He.glo_ok X G (c.d.fact 26 (f := .glo "_law_roll") rfl)
theorem h_glo__law_rounds {hh : Heap} (c : SX K h) (X : K.In hh) (G : hh.Ns mainGlobals mg) : mg "_law_rounds" = some (.ref (He.ga K "_law_rounds")) := He.glo_ok X G (c.d.fact 27 (f := .glo "_law_rounds") rfl)
theorem h_glo__law_told {hh : Heap} (c : SX K h) (X : K.In hh) (G : hh.Ns mainGlobals mg) : mg "_law_told" = some (.ref (He.ga K "_law_told")) := He.glo_ok X G (c.d.fact 28 (f := .glo "_law_told") rfl)
theorem h_str_SIGNS {hh : Heap} (c : SX K h) (X : K.In hh) (G : hh.Ns mainGlobals mg) : ∃ t, mg "SIGNS" = some (.str "abcdefghijklmnopqrstuvwxyzABCDEFGHIJKLMNOPQRSTUVWXYZ0123456789 .,:;<>()-+_=/" t) := He.str_ok X G (c.d.fact 29 (f := .str "SIGNS" "abcdefghijklmnopqrstuvwxyzABCDEFGHIJKLMNOPQRSTUVWXYZ0123456789 .,:;<>()-+_=/") rfl)
theorem h_cls_Reader (c : SX K h) : Cls K (He.ga K "Reader") := He.cls_ok (c.d.fact 30 (f := .cls "Reader") rfl)
theorem h_noat_Reader_row (c : SX K h) : NoAttr K (He.ga K "Reader") "row" := He.noat_ok (c.d.fact 31 (f := .noat "Reader" "row") rfl)
theorem h_noat_Reader_place (c : SX K h) : NoAttr K (He.ga K "Reader") "place" := He.noat_ok (c.d.fact 32 (f := .noat "Reader" "place") rfl)
theorem h_noat_BadRecord_place (c : SX K h) : NoAttr K (He.ga K "BadRecord") "place" := He.noat_ok (c.d.fact 33 (f := .noat "BadRecord" "place") rfl)
theorem h_exm_BadRecord_BadRecord_true (c : SX K h) : PySem.W.exmOne K (.ref (He.ga K "BadRecord")) (.ref (He.ga K "BadRecord")) = some true := He.exm_ok (c.d.fact 34 (f := .exm "BadRecord" "BadRecord" true) rfl)
theorem h_keep_folded (c : SX K h) : PySem.W.keepIn K (.ref (He.ga K "folded")) = true := He.keep_ok (c.d.fact 35 (f := .keep "folded") rfl)
theorem h_keep_unfolded (c : SX K h) : PySem.W.keepIn K (.ref (He.ga K "unfolded")) = true := He.keep_ok (c.d.fact 36 (f := .keep "unfolded") rfl)
theorem h_keep_number_octets (c : SX K h) : PySem.W.keepIn K (.ref (He.ga K "number_octets")) = true := He.keep_ok (c.d.fact 37 (f := .keep "number_octets") rfl)
theorem h_keep_text_octets (c : SX K h) : PySem.W.keepIn K (.ref (He.ga K "text_octets")) = true := He.keep_ok (c.d.fact 38 (f := .keep "text_octets") rfl)
theorem h_mkr_Reader (c : SX K h) : Mk K (He.ga K "Reader") (He.ma K (He.ga K "Reader") "__init__") := He.mkr_ok (c.d.fact 39 (f := .mkr "Reader") rfl)
theorem h_meth_Reader_octet (c : SX K h) : Meth K (He.ga K "Reader") "octet" (He.ma K (He.ga K "Reader") "octet") := He.meth_ok (c.d.fact 40 (f := .meth "Reader" "octet") rfl)
theorem h_meth_Reader_whole (c : SX K h) : Meth K (He.ga K "Reader") "whole" (He.ma K (He.ga K "Reader") "whole") := He.meth_ok (c.d.fact 41 (f := .meth "Reader" "whole") rfl)
theorem h_meth_Reader_text (c : SX K h) : Meth K (He.ga K "Reader") "text" (He.ma K (He.ga K "Reader") "text") := He.meth_ok (c.d.fact 42 (f := .meth "Reader" "text") rfl)
theorem h_keep_sum_of (c : SX K h) : PySem.W.keepIn K (.ref (He.ga K "sum_of")) = true := He.keep_ok (c.d.fact 43 (f := .keep "sum_of") rfl)
theorem h_keep_record_octets (c : SX K h) : PySem.W.keepIn K (.ref (He.ga K "record_octets")) = true := He.keep_ok (c.d.fact 44 (f := .keep "record_octets") rfl)
theorem h_keep_batch (c : SX K h) : PySem.W.keepIn K (.ref (He.ga K "batch")) = true := He.keep_ok (c.d.fact 45 (f := .keep "batch") rfl)
theorem h_keep_read_batch (c : SX K h) : PySem.W.keepIn K (.ref (He.ga K "read_batch")) = true := He.keep_ok (c.d.fact 46 (f := .keep "read_batch") rfl)
theorem h_keep_read_all (c : SX K h) : PySem.W.keepIn K (.ref (He.ga K "read_all")) = true := He.keep_ok (c.d.fact 47 (f := .keep "read_all") rfl)
theorem h_keep__law_dice (c : SX K h) : PySem.W.keepIn K (.ref (He.ga K "_law_dice")) = true := He.keep_ok (c.d.fact 48 (f := .keep "_law_dice") rfl)
theorem h_keep__law_roll (c : SX K h) : PySem.W.keepIn K (.ref (He.ga K "_law_roll")) = true := He.keep_ok (c.d.fact 49 (f := .keep "_law_roll") rfl)
theorem h_keep__law_rounds (c : SX K h) : PySem.W.keepIn K (.ref (He.ga K "_law_rounds")) = true := He.keep_ok (c.d.fact 50 (f := .keep "_law_rounds") rfl)
theorem h_keep__law_told (c : SX K h) : PySem.W.keepIn K (.ref (He.ga K "_law_told")) = true := He.keep_ok (c.d.fact 51 (f := .keep "_law_told") rfl)
theorem h_keep_law (c : SX K h) : PySem.W.keepIn K (.ref (He.ga K "law")) = true := He.keep_ok (c.d.fact 52 (f := .keep "law") rfl)
theorem sx_BadRecord : SupScope ["self", "place"] (defScope s_BadRecord__init) := ⟨rfl, rfl, rfl, by decide +kernel, by decide +kernel, by decide +kernel, by decide +kernel, rfl, rfl⟩
theorem xi_BadRecord {hh base : Heap} (c : SX K h) (X : K.In hh) (G : hh.Ns mainGlobals mg) : ExiAt P w K mg base 1 "BadRecord" ["place"] := by
  obtain ⟨fd, F, iC, tI, hb⟩ := supB_ok (P := P) (d := ("BadRecord", defArgs s_BadRecord__init, defBody s_BadRecord__init, defScope s_BadRecord__init)) (ex0 c) (c.xi_at 0 (d := ("BadRecord", defArgs s_BadRecord__init, defBody s_BadRecord__init, defScope s_BadRecord__init)))
  exact ⟨⟨fd, ["self", "place"], ok_init1 F sx_BadRecord (h_free_super c X G) rfl rfl rfl rfl (h_noat_BadRecord_place c) rfl (fun _ => rfl), hb _ fun cl kV doc pm an cdv ct us hl => match us, hl with | [u0, u1], _ => rfl⟩, F.oex, iC, tI, h_glo_BadRecord c X G⟩
theorem fx_of {hh : Heap} (c : SX K h) (X : K.In hh) (G : hh.Ns mainGlobals mg) : Fx K mg where
  int := h_free_int c X G
  len := h_free_len c X G
  range := h_free_range c X G
  tuple := h_free_tuple c X G
  abs := h_free_abs c X G
  SG := h_str_SIGNS c X G
  cR := h_cls_Reader c
  n1 := h_noat_Reader_row c
  n2 := h_noat_Reader_place c
theorem cat_of (c : SX K h) : Cat K where
  br := fun P p => ⟨_, h_exm_BadRecord_BadRecord_true c, fun _ => p, nofun⟩
theorem lam_law (c : SX K h) {base : Heap} (TB : ∀ p ∈ tfl.map (He.cT K), LamX.TabB base mg p.1 p.2) {fd : FuncData} (F : FunD K "law" "law" (defArgs s_law) (defBody s_law) (defScope s_law) [] [] (He.ga K "law") fd) :
    ∀ A outer s H E, LamAt (TT K) (bx P w K mg base n_law "law" (defScope s_law) (He.ga K "law") fd.code A outer s H E) := fun A outer s H E =>
  ⟨(He.cT K ("law", none)).1, (He.cT K ("law", none)).2, TB _ (List.mem_cons_self), code_at (p := ("law", none)) F, List.mem_cons_self, fun p hp e => by
    have hp : p = _ := List.mem_singleton.mp hp
    subst hp; rfl⟩
theorem law_ok (c : SX K h) {base : Heap} (X : K.In base) (G : base.Ns mainGlobals mg) (TB : ∀ p ∈ tfl.map (He.cT K), LamX.TabB base mg p.1 p.2) {fd : FuncData} (F : FunD K "law" "law" (defArgs s_law) (defBody s_law) (defScope s_law) [] [] (He.ga K "law") fd) :
    FnOk P w K mg base (L2.CX P w) 13 (He.ga K "law") fd ["script"] (spOf (TT K) (spLaw K)) := by
  have fx := fx_of c X G
  have ca := cat_of c
  have br := xi_BadRecord (w := w) c X G (base := base)
  obtain ⟨_, F0⟩ := fun0 c
  obtain ⟨_, F1⟩ := fun1 c
  obtain ⟨_, F2⟩ := fun2 c
  obtain ⟨_, F3⟩ := fun3 c
  obtain ⟨_, F4⟩ := fun4 c
  obtain ⟨_, F5⟩ := fun5 c
  obtain ⟨_, F6⟩ := fun6 c
  obtain ⟨_, F7⟩ := fun7 c
  obtain ⟨_, F8⟩ := fun8 c
  obtain ⟨_, F9⟩ := fun9 c
  obtain ⟨_, F10⟩ := fun10 c
  obtain ⟨_, F11⟩ := fun11 c
  obtain ⟨_, F12⟩ := fun12 c
  obtain ⟨_, F13⟩ := fun13 c
  obtain ⟨_, F14⟩ := fun14 c
  obtain ⟨_, F15⟩ := fun15 c
  obtain ⟨_, F16⟩ := fun16 c
  have A0 : FnAt (TT K) P w K mg base 1 "folded" spFold := ⟨⟨_, _, ok_folded F0, bind0 F0⟩, h_glo_folded c X G, h_keep_folded c⟩
  have A1 : FnAt (TT K) P w K mg base 1 "unfolded" spUnf := ⟨⟨_, _, ok_unfolded F1, bind1 F1⟩, h_glo_unfolded c X G, h_keep_unfolded c⟩
  have A2 : FnAt (TT K) P w K mg base 3 "number_octets" (spNO K) := ⟨⟨_, _, ok_no fx br A0 F2, bind2 F2⟩, h_glo_number_octets c X G, h_keep_number_octets c⟩
  have A3 : FnAt (TT K) P w K mg base 4 "text_octets" spTO := ⟨⟨_, _, ok_to fx br A2 F3, bind3 F3⟩, h_glo_text_octets c X G, h_keep_text_octets c⟩
  have A4 : MkAt (TT K) P w K mg base 1 "Reader" (spRI K) := ⟨⟨_, _, ok_ri fx F4, bind4 F4⟩, h_mkr_Reader c, h_glo_Reader c X G⟩
  have A5 : MeAt (TT K) P w K mg base 3 "Reader" "octet" (spOct K) := ⟨⟨_, _, ok_oct fx br F5, bind5 F5⟩, h_cls_Reader c, h_meth_Reader_octet c⟩
  have A6 : MeAt (TT K) P w K mg base 4 "Reader" "whole" (spWh K) := ⟨⟨_, _, ok_wh fx br A1 A5 F6, bind6 F6⟩, h_cls_Reader c, h_meth_Reader_whole c⟩
  have A7 : MeAt (TT K) P w K mg base 5 "Reader" "text" (spTx K) := ⟨⟨_, _, ok_tx fx br A5 A6 F7, bind7 F7⟩, h_cls_Reader c, h_meth_Reader_text c⟩
  have A8 : FnAt (TT K) P w K mg base 1 "sum_of" spSum := ⟨⟨_, _, ok_sum F8, bind8 F8⟩, h_glo_sum_of c X G, h_keep_sum_of c⟩
  have A9 : FnAt (TT K) P w K mg base 5 "record_octets" spRO := ⟨⟨_, _, ok_ro A2 A3 F9, bind9 F9⟩, h_glo_record_octets c X G, h_keep_record_octets c⟩
  have A10 : FnAt (TT K) P w K mg base 6 "batch" (spBat K) := ⟨⟨_, _, ok_bat fx br A2 A9 A8 F10, bind10 F10⟩, h_glo_batch c X G, h_keep_batch c⟩
  have A11 : FnAt (TT K) P w K mg base 6 "read_batch" (spRB K) := ⟨⟨_, _, ok_rb fx br A4 A6 A7 A8 F11, bind11 F11⟩, h_glo_read_batch c X G, h_keep_read_batch c⟩
  have A12 : FnAt (TT K) P w K mg base 8 "read_all" (spRA K) := ⟨⟨_, _, ok_ra fx br (h_exm_BadRecord_BadRecord_true c) A11 F12, bind12 F12⟩, h_glo_read_all c X G, h_keep_read_all c⟩
  have B0 : FnAt (TT K) P w K mg base 1 "_law_dice" spDice := ⟨⟨_, _, ok_dice fx.int fx.abs F13, bind13 F13⟩, h_glo__law_dice c X G, h_keep__law_dice c⟩
  have B1 : FnAt (TT K) P w K mg base 1 "_law_roll" spRoll := ⟨⟨_, _, ok_roll fx.int F14, bind14 F14⟩, h_glo__law_roll c X G, h_keep__law_roll c⟩
  have B2 : FnAt (TT K) P w K mg base 2 "_law_rounds" (spRounds K) := ⟨⟨_, _, ok_rounds B0 F15, bind15 F15⟩, h_glo__law_rounds c X G, h_keep__law_rounds c⟩
  have D := told_at F16 (h_glo__law_told c X G) fun q hq => by
    simp only [cs8, List.mem_cons, List.not_mem_nil, or_false] at hq
    rcases hq with rfl | rfl | rfl | rfl | rfl | rfl | rfl | rfl
    · exact h_glo_BadRecord c X G
    · exact h_glo_OutOfLog c X G
    · exact h_glo_Fenced c X G
    · exact h_glo_OutOfOrder c X G
    · exact h_glo_NotDue c X G
    · exact h_glo_BadPlan c X G
    · exact h_glo_BadText c X G
    · exact h_glo_TooLarge c X G
  have me : Me (TT K) P w K mg base := ⟨A0, A1, A2, A3, A8, A9, A10, A11, A12⟩
  exact ok_law pure_law fx ca me B1 B2 D (lam_law c TB F) F
theorem law_start {H : Hp} {a : Addr} {ns : List Int} (hl : ns.length ≤ 63) (hT : ∀ p ∈ tfl.map (He.cT K), H p.2 = some (.tbl #[])) (hS : SqL K H a (ns.map V.int)) : spOf (TT K) (spLaw K) [.ref a] H (fun v _ => v = .bl true) fun _ _ _ => False := by
  refine ⟨[ScrP K a ns], fun v _ => v = .bl true, kx0, ⟨fun p hp => ?_, pcs_scr hS⟩, ⟨a, ns, [], rfl, rfl, by omega, fun _ => rfl⟩, fun v _ _ e _ => e, fun _ _ _ _ k _ => k.elim⟩
  have hz : ∃ q ∈ tfl.map (He.cT K), q.2 = p.1 := by
    unfold TT at hp
    have hp : p = _ := List.mem_singleton.mp hp
    subst hp
    exact ⟨_, List.mem_cons_self, rfl⟩
  obtain ⟨q, hq, e⟩ := hz
  exact LamX.TabS.nil (by rw [← e]; exact hT q hq)
end
end K01
open PySem PySem.W PySem.Calls PyProof.Rows
theorem PySem.Challenge.cw_brookhall_k01_records_as_octets_holds : PySem.Challenge.rw_brookhall_k01_records_as_octets.Holds := by
  w_on; o_law
  refine HandSHeadRun.head_any (r := OpenLaw.row PySem.Challenge.rw_brookhall_k01_records_as_octets) (q := view (OpenLaw.row PySem.Challenge.rw_brookhall_k01_records_as_octets).prog [27]) (H := K01.hk) (ob := K01.ob) (M := 4000) (loose := ["BrookFault", "BadRecord", "OutOfLog", "Fenced", "OutOfOrder", "NotDue", "BadPlan", "BadText", "TooLarge", "SIGNS", "Reader", "folded", "unfolded", "number_octets", "text_octets", "sum_of", "record_octets", "batch", "read_batch", "read_all", "_law_dice", "_law_roll", "_law_rounds", "_law_told"]) (d := HandSHeadRun.topDef (OpenLaw.row PySem.Challenge.rw_brookhall_k01_records_as_octets).prog 27) (kwd := []) K01.ob_eq
    (by kernel_rfl) (fun s => by kernel_rfl) K01.run (by kernel_rfl) (by kernel_rfl) (by kernel_rfl) (by rfl) (by first | assumption | decide +kernel) (by decide +kernel) ⟨rfl, rfl, rfl, rfl, rfl, by decide +kernel⟩ ?hw ?hc
  case hw => w_witness2
  case hc =>
    refine LamX.walk_ofTsE (l := PySem.Challenge.rw_brookhall_k01_records_as_octets) (n := 63) (k := 13) (x := "script") (CX := fun w => L2.CX (PySem.Challenge.rw_brookhall_k01_records_as_octets).prog w) rfl (by decide) (by kernel_rfl) ⟨rfl, by decide, by decide⟩ ?F (fun _ _ _ _ _ ⟨_, _, _, _, _, _, _, _, _, _, _, _, hE⟩ => hE)
    intro w mg fa h Y G hmg0
    obtain ⟨K, KX, c⟩ := Y
    have hmg : mg ("law" : PySem.Str) = some (.ref fa) := by
      have e : (HandSHeadRun.topDef (OpenLaw.row PySem.Challenge.rw_brookhall_k01_records_as_octets).prog 27).name = ("law" : PySem.Str) := by kernel_rfl
      rw [← e]
      exact hmg0
    have e := hmg.symm.trans (K01.h_glo_law c KX G)
    cases e
    obtain ⟨fd, F⟩ := K01.fun17 c
    have b := L2.FunD.bindsA (ps := ["script"]) F fun _ _ _ _ _ _ us hl => match us, hl with | [_], _ => rfl
    refine ⟨K, KX, fd, K01.tfl.map (He.cT K), SW.spOf (K01.TT K) (K01.spLaw K), fun p hp => ?_, fun p hp => ?_, fun p hp => ?_, fun s v => b s [v] rfl, fun H a ns hl hb hT hS => ?_, fun base KB GB TB => K01.law_ok c KB GB TB F⟩
    · obtain ⟨z, hz, rfl⟩ := List.mem_map.mp hp; exact c.empty z hz
    · obtain ⟨z, hz, rfl⟩ := List.mem_map.mp hp; exact c.out z hz
    · obtain ⟨z, hz, rfl⟩ := List.mem_map.mp hp; exact PySem.W.codeHd_of_K KX (c.hd z hz)
    · exact K01.law_start hl hT hS
