import PyProof.Rows.All
import Wide.All
import OpenK.AllK
import Wide.FinOn
import HandS.ForMost
import HandS.ForExc
import HandS.TryMany
import HandS.Lambda
import HandS.CallSlots
import HandS.Wide
import HandS.HeadHook4
import HandS.HeadWalk
import HandS.Head0
import HandS.Head1
import HandS.Head2
import HandS.Conv
import HandS.TupAny
import HandS.Deep
import HandS.SetFor
import HandS.Sort
import PyProof.ListRange
import PyProof.Rows.GenSrcRange
import PyProof.SumAnyB
import PySem.Challenge.RW_brookhall_k04_copies_of_a_log
set_option Elab.async false
set_option linter.all false
set_option maxRecDepth 100000
set_option maxHeartbeats 2000000
/-! Sw1: the abstract heap in pieces (rows of assertions); the judgements over them. -/
namespace SW
open PySem PySem.Spec L2
open PyProof.Rows hiding St
/-! ### rows of pieces -/
inductive A2 {α β : Type} (R : α → β → Prop) : List α → List β → Prop
  | nil : A2 R [] []
  | cons {a b l m} : R a b → A2 R l m → A2 R (a :: l) (b :: m)
theorem A2.mem {α β : Type} {R : α → β → Prop} {l : List α} {m : List β} (h : A2 R l m) {a : α} (ha : a ∈ l) : ∃ b, b ∈ m ∧ R a b := by
  induction h with
  | nil => cases ha
  | cons r t ih =>
    rcases List.mem_cons.mp ha with e | e
    · subst e; exact ⟨_, List.mem_cons_self, r⟩
    · obtain ⟨b, hb, q⟩ := ih e
      exact ⟨b, List.mem_cons_of_mem _ hb, q⟩
theorem A2.perm {α β : Type} {R : α → β → Prop} {l l' : List α} (p : l.Perm l') : ∀ {m : List β}, A2 R l m → ∃ m', A2 R l' m' ∧ m.Perm m' := by
  induction p with
  | nil => intro m h; exact ⟨m, h, List.Perm.refl _⟩
  | cons x _ ih =>
    intro m h
    cases h with
    | cons r t =>
      obtain ⟨m', h', q⟩ := ih t
      exact ⟨_, .cons r h', q.cons _⟩
  | swap x y l =>
    intro m h
    cases h with
    | cons r t =>
      cases t with
      | cons r2 t2 => exact ⟨_, .cons r2 (.cons r t2), List.Perm.swap _ _ _⟩
  | trans _ _ ih1 ih2 =>
    intro m h
    obtain ⟨m1, h1, q1⟩ := ih1 h
    obtain ⟨m2, h2, q2⟩ := ih2 h1
    exact ⟨m2, h2, q1.trans q2⟩
theorem A2.append {α β : Type} {R : α → β → Prop} {l1 : List α} {m1 : List β} (h : A2 R l1 m1) : ∀ {l2 : List α} {m2 : List β}, A2 R l2 m2 → A2 R (l1 ++ l2) (m1 ++ m2) := by
  induction h with
  | nil => intro l2 m2 h2; exact h2
  | cons r _ ih => intro l2 m2 h2; exact .cons r (ih h2)
theorem A2.split {α β : Type} {R : α → β → Prop} : ∀ {l1 l2 : List α} {m : List β}, A2 R (l1 ++ l2) m → ∃ m1 m2, m = m1 ++ m2 ∧ A2 R l1 m1 ∧ A2 R l2 m2
  | [], l2, m, h => ⟨[], m, rfl, .nil, h⟩
  | a :: l1, l2, _, .cons r t => by
    obtain ⟨m1, m2, e, h1, h2⟩ := A2.split t
    exact ⟨_ :: m1, m2, by rw [e]; rfl, .cons r h1, h2⟩
theorem A2.imp {α β : Type} {R R' : α → β → Prop} (f : ∀ a b, R a b → R' a b) {l : List α} {m : List β} (h : A2 R l m) : A2 R' l m := by
  induction h with
  | nil => exact .nil
  | cons r _ ih => exact .cons (f _ _ r) ih
theorem A2.length {α β : Type} {R : α → β → Prop} {l : List α} {m : List β} (h : A2 R l m) : l.length = m.length := by
  induction h with
  | nil => rfl
  | cons _ _ ih => simp [ih]
abbrev SA := Hp → Prop
def Sub (h H : Hp) : Prop := ∀ a o, h a = some o → H a = some o ∧ ∀ ps, o ≠ .tbl ps
def Apart (h g : Hp) : Prop := ∀ a o, h a = some o → g a = some o → ∃ xs, o = HO.tup xs
theorem Apart.symm {h g : Hp} (x : Apart h g) : Apart g h := fun a o e1 e2 => x a o e2 e1
theorem Sub.trans {f g h : Hp} (a : Sub f g) (b : Sub g h) : Sub f h := fun x o e => ⟨(b x o (a x o e).1).1, (a x o e).2⟩
/-- pieces -/
def Pcs (L : List SA) (H : Hp) : Prop := ∃ ps : List Hp, A2 (fun (A : SA) h => A h) L ps ∧ ps.Pairwise Apart ∧ ∀ h ∈ ps, Sub h H
structure Hs (T : List (Addr × Str)) (L : List SA) (H : Hp) : Prop where
  tabs : LamX.Tabs T H
  pcs : Pcs L H
def pt (a : Addr) (o : HO) : SA := fun h => h a = some o
section
variable {T : List (Addr × Str)} {L L' L1 R : List SA} {A B : SA} {H H' : Hp} {a p : Addr} {o o' : HO}
theorem Pcs.nil : Pcs [] H := ⟨[], .nil, List.Pairwise.nil, fun _ h => nomatch h⟩
theorem Pcs.perm (p : L.Perm L') (h : Pcs L H) : Pcs L' H := by
  obtain ⟨ps, h1, h2, h3⟩ := h
  obtain ⟨ps', h1', q⟩ := h1.perm p
  exact ⟨ps', h1', (q.pairwise_iff (fun x => Apart.symm x)).mp h2, fun g hg => h3 g (q.mem_iff.mpr hg)⟩
theorem Pcs.tail (h : Pcs (A :: L) H) : Pcs L H := by
  obtain ⟨ps, h1, h2, h3⟩ := h
  cases h1 with
  | cons r t => exact ⟨_, t, (List.pairwise_cons.mp h2).2, fun g hg => h3 g (List.mem_cons_of_mem _ hg)⟩
theorem Pcs.imp (f : ∀ h, A h → B h) (h : Pcs (A :: L) H) : Pcs (B :: L) H := by
  obtain ⟨ps, h1, h2, h3⟩ := h
  cases h1 with
  | cons r t => exact ⟨_, .cons (f _ r) t, h2, h3⟩
theorem Pcs.mono (e : Sub H H') (h : Pcs L H) : Pcs L H' := by
  obtain ⟨ps, h1, h2, h3⟩ := h
  exact ⟨ps, h1, h2, fun g hg => (h3 g hg).trans e⟩
/-- all pieces stand in H' -/
theorem Pcs.move (h : Pcs L H) (e : ∀ g, Sub g H → Sub g H') : Pcs L H' := by
  obtain ⟨ps, h1, h2, h3⟩ := h
  exact ⟨ps, h1, h2, fun g hg => e g (h3 g hg)⟩
theorem Pcs.get (h : Pcs (pt a o :: L) H) : H a = some o := by
  obtain ⟨ps, h1, h2, h3⟩ := h
  cases h1 with
  | cons r t => exact (h3 _ List.mem_cons_self a o r).1
/-- rows as one piece -/
theorem Pcs.fold (h : Pcs (L1 ++ L) H) : Pcs ((fun g => Pcs L1 g) :: L) H := by
  obtain ⟨ps, h1, h2, h3⟩ := h
  obtain ⟨m1, m2, rfl, k1, k2⟩ := h1.split
  obtain ⟨q1, q2, q3⟩ := List.pairwise_append.mp h2
  classical
  let u : Hp := fun a => if ∃ g ∈ m1, ∃ o, g a = some o then H a else none
  have hu : ∀ g ∈ m1, Sub g u := fun g hg a o e => by
    have s := h3 g (List.mem_append_left _ hg) a o e
    refine ⟨?_, s.2⟩
    show (if ∃ g ∈ m1, ∃ o, g a = some o then H a else none) = some o
    rw [if_pos ⟨g, hg, o, e⟩]; exact s.1
  have uo : ∀ a o, u a = some o → ∃ g ∈ m1, g a = some o := fun a o e => by
    have e' : (if ∃ g ∈ m1, ∃ o, g a = some o then H a else none) = some o := e
    by_cases c : ∃ g ∈ m1, ∃ o, g a = some o
    · rw [if_pos c] at e'
      obtain ⟨g, hg, o2, e2⟩ := c
      have s := (h3 g (List.mem_append_left _ hg) a o2 e2).1
      rw [e'] at s; cases s
      exact ⟨g, hg, e2⟩
    · rw [if_neg c] at e'; cases e'
  refine ⟨u :: m2, .cons ⟨m1, k1, q1, hu⟩ k2, List.pairwise_cons.mpr ⟨fun g hg a o e1 e2 => ?_, q2⟩, fun g hg => ?_⟩
  · obtain ⟨f, hf, e⟩ := uo a o e1
    exact q3 f hf g hg a o e e2
  · rcases List.mem_cons.mp hg with rfl | hg
    · intro a o e
      obtain ⟨f, hf, e'⟩ := uo a o e
      exact h3 f (List.mem_append_left _ hf) a o e'
    · exact h3 g (List.mem_append_right _ hg)
theorem Pcs.unf (h : Pcs ((fun g => Pcs L1 g) :: L) H) : Pcs (L1 ++ L) H := by
  obtain ⟨ps, h1, h2, h3⟩ := h
  cases h1 with
  | cons r t =>
    obtain ⟨m1, k1, k2, k3⟩ := r
    obtain ⟨q1, q2⟩ := List.pairwise_cons.mp h2
    refine ⟨m1 ++ _, k1.append t, List.pairwise_append.mpr ⟨k2, q2, fun f hf g hg a o e1 e2 => q1 g hg a o (k3 f hf a o e1).1 e2⟩, fun g hg => ?_⟩
    rcases List.mem_append.mp hg with hg | hg
    · exact (k3 g hg).trans (h3 _ List.mem_cons_self)
    · exact h3 g (List.mem_cons_of_mem _ hg)
theorem Pcs.of1 (h : Pcs [A] H) (mono : ∀ g, A g → Sub g H → A H) : A H := by
  obtain ⟨ps, h1, _, h3⟩ := h
  cases h1 with
  | cons r t => exact mono _ r (h3 _ List.mem_cons_self)
theorem Pcs.ex {α : Type} {F : α → SA} (h : Pcs ((fun g => ∃ x, F x g) :: L) H) : ∃ x, Pcs (F x :: L) H := by
  obtain ⟨ps, h1, h2, h3⟩ := h
  cases h1 with
  | cons r t =>
    obtain ⟨x, r⟩ := r
    exact ⟨x, _, .cons r t, h2, h3⟩
theorem Pcs.pure {φ : Prop} (h : Pcs ((fun g => φ ∧ A g) :: L) H) : φ ∧ Pcs (A :: L) H := by
  obtain ⟨ps, h1, h2, h3⟩ := h
  cases h1 with
  | cons r t => exact ⟨r.1, _, .cons r.2 t, h2, h3⟩
theorem Pcs.fact {φ : Prop} (f : ∀ g, A g → φ) (h : Pcs (A :: L) H) : φ := by
  obtain ⟨ps, h1, h2, h3⟩ := h
  cases h1 with
  | cons r t => exact f _ r
theorem Pcs.factH {φ : Prop} (f : ∀ g, A g → Sub g H → φ) (h : Pcs (A :: L) H) : φ := by
  obtain ⟨ps, h1, h2, h3⟩ := h
  cases h1 with
  | cons r t => exact f _ r (h3 _ List.mem_cons_self)
/-! ### a new object, an object written -/
def NoTbl (o : HO) : Prop := ∀ ps, o ≠ .tbl ps
def one (a : Addr) (o : HO) : Hp := fun b => if b = a then some o else none
theorem one_same : one a o a = some o := if_pos rfl
theorem one_of {b : Addr} {u : HO} (h : one a o b = some u) : b = a ∧ u = o := by
  unfold one at h
  by_cases e : b = a
  · rw [if_pos e] at h; exact ⟨e, (Option.some.inj h).symm⟩
  · rw [if_neg e] at h; cases h
theorem Pcs.new (hp : H p = none) (ho : NoTbl o) (h : Pcs L H) : Pcs (pt p o :: L) (upd H p o) := by
  obtain ⟨ps, h1, h2, h3⟩ := h
  refine ⟨one p o :: ps, .cons one_same h1, List.pairwise_cons.mpr ⟨fun g hg a u e1 e2 => ?_, h2⟩, fun g hg => ?_⟩
  · obtain ⟨rfl, rfl⟩ := one_of e1
    have := (h3 g hg a u e2).1
    rw [hp] at this; cases this
  · rcases List.mem_cons.mp hg with rfl | hg
    · intro a u e
      obtain ⟨rfl, rfl⟩ := one_of e
      exact ⟨upd_same, ho⟩
    · intro a u e
      have s := h3 g hg a u e
      exact ⟨by rw [upd_ne (ne_of_none s.1 hp)]; exact s.1, s.2⟩
/-- what may be written over -/
def Wr : HO → Prop
  | .lst _ | .dK _ | .dT _ | .set _ _ | .ins _ _ _ | .frz _ _ => True
  | _ => False
theorem Pcs.wr (ho : Wr o) (ho' : NoTbl o') (h : Pcs (pt a o :: L) H) : Pcs (pt a o' :: L) (upd H a o') := by
  have ha := h.get
  obtain ⟨ps, h1, h2, h3⟩ := h
  cases h1 with
  | @cons _ f _ m r t =>
    obtain ⟨q1, q2⟩ := List.pairwise_cons.mp h2
    have no : ∀ g : Hp, g ∈ m → ∀ u, g a = some u → False := fun g hg u e => by
      have s := (h3 g (List.mem_cons_of_mem _ hg) a u e).1
      rw [ha] at s; cases s
      obtain ⟨xs, e3⟩ := q1 g hg a o r e
      subst e3
      exact ho
    refine ⟨one a o' :: m, .cons one_same t, List.pairwise_cons.mpr ⟨fun g hg b u e1 e2 => ?_, q2⟩, fun g hg => ?_⟩
    · obtain ⟨rfl, rfl⟩ := one_of e1
      exact (no g hg u e2).elim
    · rcases List.mem_cons.mp hg with rfl | hg
      · intro b u e
        obtain ⟨rfl, rfl⟩ := one_of e
        exact ⟨upd_same, ho'⟩
      · intro b u e
        have s := h3 g (List.mem_cons_of_mem _ hg) b u e
        have nb : b ≠ a := fun z => no g hg u (z ▸ e)
        exact ⟨by rw [upd_ne nb]; exact s.1, s.2⟩
theorem Tabs.new {T : List (Addr × Str)} (hp : H p = none) (h : LamX.Tabs T H) : LamX.Tabs T (upd H p o) := h.ext fun b u e => by
  rw [upd_ne (ne_of_none e hp)]; exact e
theorem Tabs.wr {T : List (Addr × Str)} (ha : H a = some o) (ho : Wr o) (h : LamX.Tabs T H) : LamX.Tabs T (upd H a o') := fun p hp => by
  obtain ⟨ps, h1, h2, h3⟩ := h p hp
  refine ⟨ps, ?_, h2, fun pos cv hc => ?_⟩
  · rw [upd_ne (ne_of h1 ha (fun z => by subst z; exact ho))]; exact h1
  · obtain ⟨c, e1, e2⟩ := h3 pos cv hc
    refine ⟨c, e1, ?_⟩
    rw [upd_ne (ne_of e2 ha (fun z => by subst z; exact ho))]; exact e2
theorem Hs.new (hp : H p = none) (ho : NoTbl o) (h : Hs T L H) : Hs T (pt p o :: L) (upd H p o) := ⟨Tabs.new hp h.tabs, h.pcs.new hp ho⟩
theorem Hs.wr (ho : Wr o) (ho' : NoTbl o') (h : Hs T (pt a o :: L) H) : Hs T (pt a o' :: L) (upd H a o') := ⟨Tabs.wr h.pcs.get ho h.tabs, h.pcs.wr ho ho'⟩
theorem Hs.perm (p : L.Perm L') (h : Hs T L H) : Hs T L' H := ⟨h.tabs, h.pcs.perm p⟩
theorem Hs.get (h : Hs T (pt a o :: L) H) : H a = some o := h.pcs.get
theorem Hs.tail (h : Hs T (A :: L) H) : Hs T L H := ⟨h.tabs, h.pcs.tail⟩
theorem Hs.imp (f : ∀ h, A h → B h) (h : Hs T (A :: L) H) : Hs T (B :: L) H := ⟨h.tabs, h.pcs.imp f⟩
/-- a lambda was made: all but the tables stand -/
theorem Hs.extN (e : LamX.ExtN H H') (t : LamX.Tabs T H') (h : Hs T L H) : Hs T L H' := ⟨t, h.pcs.move fun g s a o q => ⟨e a o (s a o q).1 (s a o q).2, (s a o q).2⟩⟩
end
/-! ### to find, to put in place, to take out -/
inductive Sel : List SA → SA → List SA → Prop
  | here {A L} : Sel (A :: L) A L
  | there {A B L R} : Sel L A R → Sel (B :: L) A (B :: R)
inductive Rpl : List SA → SA → SA → List SA → Prop
  | here {A B L} : Rpl (A :: L) A B (B :: L)
  | there {A B C L L'} : Rpl L A B L' → Rpl (C :: L) A B (C :: L')
inductive Tk : List SA → List SA → List SA → Prop
  | nil {L} : Tk L [] L
  | cons {A L L1 W R} : Sel L A L1 → Tk L1 W R → Tk L (A :: W) R
theorem Sel.perm {L R : List SA} {A : SA} (h : Sel L A R) : L.Perm (A :: R) := by
  induction h with
  | here => exact List.Perm.refl _
  | there _ ih => exact (ih.cons _).trans (List.Perm.swap _ _ _)
theorem Rpl.perm {L L' : List SA} {A B : SA} (h : Rpl L A B L') : ∃ R, L.Perm (A :: R) ∧ L'.Perm (B :: R) := by
  induction h with
  | here => exact ⟨_, List.Perm.refl _, List.Perm.refl _⟩
  | there _ ih =>
    obtain ⟨R, p, q⟩ := ih
    exact ⟨_ :: R, (p.cons _).trans (List.Perm.swap _ _ _), (q.cons _).trans (List.Perm.swap _ _ _)⟩
theorem Tk.perm {L W R : List SA} (h : Tk L W R) : L.Perm (W ++ R) := by
  induction h with
  | nil => exact List.Perm.refl _
  | cons s _ ih => exact s.perm.trans (ih.cons _)
theorem Hs.take {T : List (Addr × Str)} {L W R : List SA} {H : Hp} (t : Tk L W R) (h : Hs T L H) : Hs T (W ++ R) H := h.perm t.perm
theorem Pcs.drop {H : Hp} : ∀ {W R : List SA}, Pcs (W ++ R) H → Pcs W H
  | W, [], h => by rw [List.append_nil] at h; exact h
  | W, A :: R, h => Pcs.drop (R := R) (Pcs.tail (h.perm List.perm_middle))
theorem Hs.only {T : List (Addr × Str)} {L W R : List SA} {H : Hp} (t : Tk L W R) (h : Hs T L H) : Hs T W H := ⟨h.tabs, Pcs.drop (h.pcs.perm t.perm)⟩
theorem Hs.sel {T : List (Addr × Str)} {L R : List SA} {A : SA} {H : Hp} (t : Sel L A R) (h : Hs T L H) : Hs T (A :: R) H := h.perm t.perm
theorem Hs.at {T : List (Addr × Str)} {L R : List SA} {a : Addr} {o : HO} {H : Hp} (t : Sel L (pt a o) R) (h : Hs T L H) : H a = some o := (h.sel t).get
theorem Hs.rpl {T : List (Addr × Str)} {L L' : List SA} {a : Addr} {o o' : HO} {H : Hp} (r : Rpl L (pt a o) (pt a o') L') (ho : Wr o) (ho' : NoTbl o') (h : Hs T L H) : Hs T L' (upd H a o') := by
  obtain ⟨R, p, q⟩ := r.perm
  exact ((h.perm p).wr ho ho').perm q.symm
theorem Rpl.sel {L L' : List SA} {A B : SA} (h : Rpl L A B L') : ∃ R, Sel L A R := by
  induction h with
  | here => exact ⟨_, .here⟩
  | there _ ih => obtain ⟨R, s⟩ := ih; exact ⟨_, .there s⟩
/-! ### the judgements over rows -/
abbrev GK := V → List SA → Prop
def WE (T : List (Addr × Str)) (te : TE) (σ : St) (L : List SA) (K : GK) : Prop := ∀ H, Hs T L H → ∀ Q : VK, (∀ v L' H', K v L' → Hs T L' H' → Q v H') → te σ H Q
def WT (T : List (Addr × Str)) (t : TT) (σ : St) (L : List SA) (K : Bool → List SA → Prop) : Prop := ∀ H, Hs T L H → ∀ Q : Bool → Hp → Prop, (∀ v L' H', K v L' → Hs T L' H' → Q v H') → t σ H Q
def WA (T : List (Addr × Str)) (ta : TA) (σ : St) (L : List SA) (K : List V → List SA → Prop) : Prop := ∀ H, Hs T L H → ∀ Q : List V → Hp → Prop, (∀ v L' H', K v L' → Hs T L' H' → Q v H') → ta σ H Q
def WR2 (T : List (Addr × Str)) (r : R2) (x y : V) (L : List SA) (K : GK) : Prop := ∀ H, Hs T L H → ∀ Q : VK, (∀ v L' H', K v L' → Hs T L' H' → Q v H') → r x y H Q
def WR1 (T : List (Addr × Str)) (r : V → Hp → VK → Prop) (x : V) (L : List SA) (K : GK) : Prop := ∀ H, Hs T L H → ∀ Q : VK, (∀ v L' H', K v L' → Hs T L' H' → Q v H') → r x H Q
def WRL (T : List (Addr × Str)) (r : List V → Hp → VK → Prop) (xs : List V) (L : List SA) (K : GK) : Prop := ∀ H, Hs T L H → ∀ Q : VK, (∀ v L' H', K v L' → Hs T L' H' → Q v H') → r xs H Q
def WRT (T : List (Addr × Str)) (r : V → Hp → (Bool → Hp → Prop) → Prop) (x : V) (L : List SA) (K : Bool → List SA → Prop) : Prop := ∀ H, Hs T L H → ∀ Q : Bool → Hp → Prop, (∀ v L' H', K v L' → Hs T L' H' → Q v H') → r x H Q
structure EndsL where
  nx : St → List SA → Prop
  rt : GK
  bk : St → List SA → Prop := fun _ _ => False
  ct : St → List SA → Prop := fun _ _ => False
structure EndsL.Le (T : List (Addr × Str)) (D : EndsL) (D0 : Ends) : Prop where
  nx : ∀ σ' L' H', D.nx σ' L' → Hs T L' H' → D0.nx σ' H'
  rt : ∀ v L' H', D.rt v L' → Hs T L' H' → D0.rt v H'
  bk : ∀ σ' L' H', D.bk σ' L' → Hs T L' H' → D0.bk σ' H'
  ct : ∀ σ' L' H', D.ct σ' L' → Hs T L' H' → D0.ct σ' H'
def WS (T : List (Addr × Str)) (t : TS) (D : EndsL) (σ : St) (L : List SA) : Prop := ∀ H, Hs T L H → ∀ D0 : Ends, D.Le T D0 → t D0 σ H
def WG (T : List (Addr × Str)) (t : TG) (v : V) (σ : St) (L : List SA) (K : St → List SA → Prop) : Prop := ∀ H, Hs T L H → ∀ Q : St → Hp → Prop, (∀ σ' L' H', K σ' L' → Hs T L' H' → Q σ' H') → t v σ H Q
def WGs (T : List (Addr × Str)) (t : TGs) (vs : List V) (σ : St) (L : List SA) (K : St → List SA → Prop) : Prop := ∀ H, Hs T L H → ∀ Q : St → Hp → Prop, (∀ σ' L' H', K σ' L' → Hs T L' H' → Q σ' H') → t vs σ H Q
/-! ### the weakest readings -/
def eW (X : Cx) (e : Expr) : TE := fun σ H Q => ∀ pins s, Inv X pins σ H s → wpAny (model X.prog X.w) X.A (eval e X.env) (EP X pins σ Q) X.xe s
def tW (X : Cx) (e : Expr) : TT := fun σ H Q => ∀ pins s, Inv X pins σ H s → wpAny (model X.prog X.w) X.A (isTrue e X.env (eval e X.env)) (TP X pins σ Q) X.xe s
def bW (X : Cx) (e : Expr) : TT := fun σ H Q => ∀ whole pins s, Inv X pins σ H s → wpAny (model X.prog X.w) X.A (isTrue e X.env whole) (TP X pins σ Q) X.xe s
def aW (X : Cx) (es : List Expr) : TA := fun σ H Q => ∀ pos pins s, Inv X pins σ H s → wpAny (model X.prog X.w) X.A (spliced (backTo pos (starEach es X.env))) (AP X pins σ Q) X.xe s
def sW (X : Cx) (st : Stmt) : TS := fun D σ H => ∀ pins s, Inv X pins σ H s → wpAny (model X.prog X.w) X.A (exec st X.env) (SP X pins D) X.xe s
def ssW (X : Cx) (st : List Stmt) : TS := fun D σ H => ∀ pins s, Inv X pins σ H s → wpAny (model X.prog X.w) X.A (execs st X.env) (SP X pins D) X.xe s
def gW (X : Cx) (tg : Expr) : TG := fun v σ H Q => ∀ pins s u, Inv X pins σ H s → RelV v u → wpAny (model X.prog X.w) X.A (assign tg X.env u) (fun _ s' => ∃ σ' H', Inv X pins σ' H' s' ∧ Q σ' H') X.xe s
def gsW (X : Cx) (ts : List Expr) : TGs := fun vs σ H Q => ∀ pins s us, Inv X pins σ H s → Vals vs us → wpAny (model X.prog X.w) X.A (assignInOrder ((assignEach ts X.env).map (·.2)) us) (fun _ s' => ∃ σ' H', Inv X pins σ' H' s' ∧ Q σ' H') X.xe s
def rW (X : Cx) (f : Value → Value → Sem Value) : R2 := fun x y H Q => ∀ pins s σ v u, Inv X pins σ H s → RelV x v → RelV y u → wpAny (model X.prog X.w) X.A (f v u) (EP X pins σ Q) X.xe s
def uW (X : Cx) (f : Value → Sem Value) : V → Hp → VK → Prop := fun x H Q => ∀ pins s σ v, Inv X pins σ H s → RelV x v → wpAny (model X.prog X.w) X.A (f v) (EP X pins σ Q) X.xe s
def cW (X : Cx) (f : Value) : List V → Hp → VK → Prop := fun xs H Q => ∀ pins s σ us, Inv X pins σ H s → Vals xs us → wpAny (model X.prog X.w) X.A (call f us) (EP X pins σ Q) X.xe s
def trW (X : Cx) : V → Hp → (Bool → Hp → Prop) → Prop := fun x H Q => ∀ pins s σ v, Inv X pins σ H s → RelV x v → wpAny (model X.prog X.w) X.A (truthy v) (TP X pins σ Q) X.xe s
section
variable {X : Cx} {e : Expr} {st : Stmt}
theorem peW : PE X e (eW X e) := ⟨fun pins s σ H Q I h => h pins s I⟩
theorem ptW : PT X e (tW X e) := ⟨fun pins s σ H Q I h => h pins s I⟩
theorem pwW : PW X e (bW X e) := ⟨fun wh pins s σ H Q I h => h wh pins s I⟩
theorem paW {es : List Expr} : PA X es (aW X es) := ⟨fun pos pins s σ H Q I h => h pos pins s I⟩
theorem psW : PS X st (sW X st) := ⟨fun pins s σ H D I h => h pins s I⟩
theorem pssW {sts : List Stmt} : PSs X sts (ssW X sts) := ⟨fun pins s σ H D I h => h pins s I⟩
theorem pgW : PG X e (gW X e) := ⟨fun pins s σ H v u Q I r h => h pins s u I r⟩
theorem pgsW {ts : List Expr} : PGs X ts (gsW X ts) := ⟨fun pins s σ H vs us Q I r h => h pins s us I r⟩
theorem opW {f : Value → Value → Sem Value} : OpR X f (rW X f) := fun pins s σ H x y v u Q I rx ry h => h pins s σ v u I rx ry
theorem unW {f : Value → Sem Value} : UnR X f (uW X f) := fun pins s σ H x v Q I rx h => h pins s σ v I rx
theorem caW {f : Value} : CallR X f (cW X f) := fun pins s σ H xs us Q I r h => h pins s σ us I r
end
def GE (T : List (Addr × Str)) (X : Cx) (e : Expr) (σ : St) (L : List SA) (K : GK) : Prop := WE T (eW X e) σ L K
def GT (T : List (Addr × Str)) (X : Cx) (e : Expr) (σ : St) (L : List SA) (K : Bool → List SA → Prop) : Prop := WT T (tW X e) σ L K
def GB (T : List (Addr × Str)) (X : Cx) (e : Expr) (σ : St) (L : List SA) (K : Bool → List SA → Prop) : Prop := WT T (bW X e) σ L K
def GA (T : List (Addr × Str)) (X : Cx) (es : List Expr) (σ : St) (L : List SA) (K : List V → List SA → Prop) : Prop := WA T (aW X es) σ L K
def GS (T : List (Addr × Str)) (X : Cx) (st : Stmt) (D : EndsL) (σ : St) (L : List SA) : Prop := WS T (sW X st) D σ L
def GSs (T : List (Addr × Str)) (X : Cx) (st : List Stmt) (D : EndsL) (σ : St) (L : List SA) : Prop := WS T (ssW X st) D σ L
def GG (T : List (Addr × Str)) (X : Cx) (tg : Expr) (v : V) (σ : St) (L : List SA) (K : St → List SA → Prop) : Prop := WG T (gW X tg) v σ L K
def GGs (T : List (Addr × Str)) (X : Cx) (ts : List Expr) (vs : List V) (σ : St) (L : List SA) (K : St → List SA → Prop) : Prop := WGs T (gsW X ts) vs σ L K
def GOp (T : List (Addr × Str)) (X : Cx) (f : Value → Value → Sem Value) (x y : V) (L : List SA) (K : GK) : Prop := WR2 T (rW X f) x y L K
def GU (T : List (Addr × Str)) (X : Cx) (f : Value → Sem Value) (x : V) (L : List SA) (K : GK) : Prop := WR1 T (uW X f) x L K
def GC (T : List (Addr × Str)) (X : Cx) (f : Value) (xs : List V) (L : List SA) (K : GK) : Prop := WRL T (cW X f) xs L K
def GTr (T : List (Addr × Str)) (X : Cx) (x : V) (L : List SA) (K : Bool → List SA → Prop) : Prop := WRT T (trW X) x L K
section
variable {T : List (Addr × Str)} {X : Cx} {e : Expr} {σ : St} {L : List SA} {K : GK}
theorem GE.of {t : TE} (h : PE X e t) (w : WE T t σ L K) : GE T X e σ L K := fun H hs Q q pins s I => h.run pins s σ H Q I (w H hs Q q)
theorem GT.of {t : TT} {K : Bool → List SA → Prop} (h : PT X e t) (w : WT T t σ L K) : GT T X e σ L K := fun H hs Q q pins s I => h.run pins s σ H Q I (w H hs Q q)
theorem GB.of {t : TT} {K : Bool → List SA → Prop} (h : PW X e t) (w : WT T t σ L K) : GB T X e σ L K := fun H hs Q q wh pins s I => h.run wh pins s σ H Q I (w H hs Q q)
theorem GA.of {es : List Expr} {t : TA} {K : List V → List SA → Prop} (h : PA X es t) (w : WA T t σ L K) : GA T X es σ L K := fun H hs Q q pos pins s I => h.run pos pins s σ H Q I (w H hs Q q)
theorem GS.of {st : Stmt} {t : TS} {D : EndsL} (h : PS X st t) (w : WS T t D σ L) : GS T X st D σ L := fun H hs D0 q pins s I => h.run pins s σ H D0 I (w H hs D0 q)
theorem GSs.of {st : List Stmt} {t : TS} {D : EndsL} (h : PSs X st t) (w : WS T t D σ L) : GSs T X st D σ L := fun H hs D0 q pins s I => h.run pins s σ H D0 I (w H hs D0 q)
theorem GG.of {tg : Expr} {t : TG} {v : V} {K : St → List SA → Prop} (h : PG X tg t) (w : WG T t v σ L K) : GG T X tg v σ L K := fun H hs Q q pins s u I r => h.run pins s σ H v u Q I r (w H hs Q q)
theorem GGs.of {ts : List Expr} {t : TGs} {vs : List V} {K : St → List SA → Prop} (h : PGs X ts t) (w : WGs T t vs σ L K) : GGs T X ts vs σ L K := fun H hs Q q pins s us I r => h.run pins s σ H vs us Q I r (w H hs Q q)
theorem GOp.of {f : Value → Value → Sem Value} {r : R2} {x y : V} (h : OpR X f r) (w : WR2 T r x y L K) : GOp T X f x y L K := fun H hs Q q pins s σ v u I rx ry => h pins s σ H x y v u Q I rx ry (w H hs Q q)
theorem GU.of {f : Value → Sem Value} {r : V → Hp → VK → Prop} {x : V} (h : UnR X f r) (w : WR1 T r x L K) : GU T X f x L K := fun H hs Q q pins s σ v I rx => h pins s σ H x v Q I rx (w H hs Q q)
theorem GC.of {f : Value} {r : List V → Hp → VK → Prop} {xs : List V} (h : CallR X f r) (w : WRL T r xs L K) : GC T X f xs L K := fun H hs Q q pins s σ us I r => h pins s σ H xs us Q I r (w H hs Q q)
theorem GTr.of {r : V → Hp → (Bool → Hp → Prop) → Prop} {x : V} {K : Bool → List SA → Prop} (h : TruR X r) (w : WRT T r x L K) : GTr T X x L K := fun H hs Q q pins s σ v I rx => h pins s σ H x v Q I rx (w H hs Q q)
theorem EndsL.Le.with {D : EndsL} {D0 : Ends} (l : D.Le T D0) {n : St → List SA → Prop} {n0 : St → Hp → Prop} (h : ∀ σ' L' H', n σ' L' → Hs T L' H' → n0 σ' H') : EndsL.Le T { D with nx := n } { D0 with nx := n0 } := ⟨h, l.rt, l.bk, l.ct⟩
/-- weaker ends -/
theorem GE.mono {K' : GK} (h : GE T X e σ L K) (q : ∀ v L', K v L' → K' v L') : GE T X e σ L K' := fun H hs Q k => h H hs Q fun v L' H' x => k v L' H' (q v L' x)
theorem GE.weak {L' W R : List SA} (t : Tk L W R) (h : GE T X e σ W K) : GE T X e σ L K := fun H hs Q k => h H (hs.only t) Q k
theorem GSs.weak {st : List Stmt} {D : EndsL} {W R : List SA} (t : Tk L W R) (h : GSs T X st D σ W) : GSs T X st D σ L := fun H hs Q k => h H (hs.only t) Q k
theorem GSs.perm {st : List Stmt} {D : EndsL} {W : List SA} (t : L.Perm W) (h : GSs T X st D σ W) : GSs T X st D σ L := fun H hs Q k => h H (hs.perm t) Q k
end
end SW
set_option Elab.async false
set_option linter.all false
set_option maxRecDepth 100000
set_option maxHeartbeats 2000000
/-! Sw2: the rules over rows: expressions, statements, calls. -/
namespace SW
open PySem PySem.Spec L2
open PyProof.Rows hiding St
section
variable {T : List (Addr × Str)} {X : Cx} {σ : St} {L : List SA} {K : GK} {e a b c : Expr} {es rest : List Expr} {x f : Str} {p pos p2 : Pos} {v : V} {i j : Nat}
/-! ### names, constants -/
theorem ge_var (hN : X.N[i]? = some x) (hv : Vis X.env.scope x) (hs : σ[i]? = some (some v)) (k : K v L) (hd : (x == ("__debug__" : Str)) = false) (hcd : (x == ("__classdict__" : Str)) = false) : GE T X (.Name x pos) σ L K :=
  GE.of (pe_var hN hv hd hcd) fun H hs' Q q => ⟨v, hs, q v L H k hs'⟩
theorem ge_int {i : Int} {j : Nat} (k : K (.int i) L) : GE T X (.Constant (.int i) j pos) σ L K := GE.of pe_int fun H h Q q => q _ L H k h
theorem ge_bl {b : Bool} {j : Nat} (k : K (.bl b) L) : GE T X (.Constant (.bool b) j pos) σ L K := GE.of pe_bl fun H h Q q => q _ L H k h
theorem ge_none {j : Nat} (k : K .non L) : GE T X (.Constant .none j pos) σ L K := GE.of pe_non fun H h Q q => q _ L H k h
theorem ge_str {x : Str} {j : Nat} (k : K (.str x) L) : GE T X (.Constant (.str x) j pos) σ L K := GE.of pe_str fun H h Q q => q _ L H k h
theorem ge_glob {u : Value} (hg : Gl X x) (hm : X.mg x = some u) (r : RelV v u) (k : K v L) (hd : (x == ("__debug__" : Str)) = false) : GE T X (.Name x pos) σ L K := GE.of (pe_glob hg hm r hd) fun H h Q q => q _ L H k h
/-! ### operators -/
theorem ge_bin {op : Operator} (h : GE T X a σ L fun x L1 => GE T X b σ L1 fun y L2 => GOp T X (binaryOp op) x y L2 K) : GE T X (.BinOp a op b pos) σ L K :=
  GE.of (pe_op opW peW peW) fun H hs Q q => h H hs _ fun x L1 H1 k1 h1 => k1 H1 h1 _ fun y L2 H2 k2 h2 => k2 H2 h2 Q q
theorem ge_un {op : UnaryOp} (h : GE T X a σ L fun x L1 => GU T X (unaryOp op) x L1 K) : GE T X (.UnaryOp op a pos) σ L K :=
  GE.of (pe_un unW peW) fun H hs Q q => h H hs _ fun x L1 H1 k1 h1 => k1 H1 h1 Q q
theorem ge_cmp {op : CmpOp} (hm : behindInMarks op b = false) (h : GE T X a σ L fun x L1 => GE T X b σ L1 fun y L2 => GOp T X (compareOp op) x y L2 K) : GE T X (.Compare a [op] [b] pos) σ L K :=
  GE.of (pe_cmpR opW peW peW hm) fun H hs Q q => h H hs _ fun x L1 H1 k1 h1 => k1 H1 h1 _ fun y L2 H2 k2 h2 => k2 H2 h2 Q q
def KB (K : Bool → List SA → Prop) : GK := fun z L => ∃ b, z = .bl b ∧ K b L
theorem KB.mk {K : Bool → List SA → Prop} {b : Bool} {L : List SA} (k : K b L) : KB K (.bl b) L := ⟨b, rfl, k⟩
theorem gt_cmp {op : CmpOp} {K : Bool → List SA → Prop} (hm : behindInMarks op b = false) (h : GE T X a σ L fun x L1 => GE T X b σ L1 fun y L2 => GOp T X (compareOp op) x y L2 (KB K)) : GT T X (.Compare a [op] [b] pos) σ L K :=
  GT.of (pt_cmpR opW peW peW hm) fun H hs Q q => h H hs _ fun x L1 H1 k1 h1 => k1 H1 h1 _ fun y L2 H2 k2 h2 => k2 H2 h2 _ fun z L3 H3 ⟨b, e, k3⟩ h3 => ⟨b, e, q b L3 H3 k3 h3⟩
/-- a expression that gives a bool, as a test -/
theorem gt_val {K : Bool → List SA → Prop} (he : ∀ whole, isTrue e X.env whole = (do let v ← whole; standAt e.pos; holding [v] (truthy v))) (h : GE T X e σ L (KB K)) : GT T X e σ L K :=
  GT.of (pt_val peW he) fun H hs Q q => h H hs _ fun z L3 H3 ⟨b, e, k3⟩ h3 => ⟨b, e, q b L3 H3 k3 h3⟩
theorem gt_bool {K : Bool → List SA → Prop} (h : GB T X e σ L K) : GT T X e σ L K := fun H hs Q q pins s I => h H hs Q q _ pins s I
theorem gb_and1 {K : Bool → List SA → Prop} (h : GT T X a σ L K) : GB T X (.BoolOp .And [a] pos) σ L K := GB.of (pw_and1 ptW) h
theorem gb_or1 {K : Bool → List SA → Prop} (h : GT T X a σ L K) : GB T X (.BoolOp .Or [a] pos) σ L K := GB.of (pw_or1 ptW) h
theorem gb_and {K : Bool → List SA → Prop} (h : GT T X a σ L fun c L1 => if c = true then GB T X (.BoolOp .And (b :: rest) pos) σ L1 K else K false L1) : GB T X (.BoolOp .And (a :: b :: rest) pos) σ L K :=
  GB.of (pw_and ptW pwW) fun H hs Q q => h H hs _ fun c L1 H1 k1 h1 => by
    cases c with
    | true => rw [if_pos rfl] at k1 ⊢; exact k1 H1 h1 Q q
    | false => rw [if_neg Bool.false_ne_true] at k1 ⊢; exact q _ L1 H1 k1 h1
theorem gb_or {K : Bool → List SA → Prop} (h : GT T X a σ L fun c L1 => if c = true then K true L1 else GB T X (.BoolOp .Or (b :: rest) pos) σ L1 K) : GB T X (.BoolOp .Or (a :: b :: rest) pos) σ L K :=
  GB.of (pw_or ptW pwW) fun H hs Q q => h H hs _ fun c L1 H1 k1 h1 => by
    cases c with
    | false => rw [if_neg Bool.false_ne_true] at k1 ⊢; exact k1 H1 h1 Q q
    | true => rw [if_pos rfl] at k1 ⊢; exact q _ L1 H1 k1 h1
theorem gt_not {K : Bool → List SA → Prop} (h : GT T X a σ L fun c L1 => K (!c) L1) : GT T X (.UnaryOp .Not a pos) σ L K :=
  GT.of (pt_not ptW) fun H hs Q q => h H hs _ fun c L1 H1 k1 h1 => q _ L1 H1 k1 h1
theorem ge_one {op : BoolOp} (h : GE T X a σ L K) : GE T X (.BoolOp op [a] pos) σ L K := GE.of (pe_one peW) h
theorem ge_and (h : GE T X a σ L fun x L1 => ∃ c, x = .bl c ∧ if c = true then GE T X (.BoolOp .And (b :: rest) pos) σ L1 K else K (.bl false) L1) : GE T X (.BoolOp .And (a :: b :: rest) pos) σ L K :=
  GE.of (pe_and peW peW) fun H hs Q q => h H hs _ fun x L1 H1 ⟨c, e, k1⟩ h1 => ⟨c, e, by
    cases c with
    | true => rw [if_pos rfl] at k1 ⊢; exact k1 H1 h1 Q q
    | false => rw [if_neg Bool.false_ne_true] at k1 ⊢; exact q _ L1 H1 k1 h1⟩
theorem ge_or (h : GE T X a σ L fun x L1 => ∃ c, x = .bl c ∧ if c = true then K (.bl true) L1 else GE T X (.BoolOp .Or (b :: rest) pos) σ L1 K) : GE T X (.BoolOp .Or (a :: b :: rest) pos) σ L K :=
  GE.of (pe_or peW peW) fun H hs Q q => h H hs _ fun x L1 H1 ⟨c, e, k1⟩ h1 => ⟨c, e, by
    cases c with
    | false => rw [if_neg Bool.false_ne_true] at k1 ⊢; exact k1 H1 h1 Q q
    | true => rw [if_pos rfl] at k1 ⊢; exact q _ L1 H1 k1 h1⟩
theorem ge_not (h : GE T X a σ L fun x L1 => ∃ c, x = .bl c ∧ K (.bl (!c)) L1) : GE T X (.UnaryOp .Not a pos) σ L K :=
  GE.of (pe_not peW) fun H hs Q q => h H hs _ fun x L1 H1 ⟨c, e, k1⟩ h1 => ⟨c, e, q _ L1 H1 k1 h1⟩
theorem ge_if (h : GT T X c σ L fun d L1 => if d = true then GE T X a σ L1 K else GE T X b σ L1 K) : GE T X (.IfExp c a b pos) σ L K :=
  GE.of (pe_ifExp ptW peW peW) fun H hs Q q => h H hs _ fun d L1 H1 k1 h1 => by
    cases d with
    | true => rw [if_pos rfl] at k1 ⊢; exact k1 H1 h1 Q q
    | false => rw [if_neg Bool.false_ne_true] at k1 ⊢; exact k1 H1 h1 Q q
theorem ge_chain {op op' : CmpOp} (hm : lastMarks [op, op'] [b, c] = false) (h : GE T X a σ L fun x L1 => GE T X b σ L1 fun y L2 => GOp T X (compareOp op) x y L2 fun z L3 => ∃ k, z = .bl k ∧
    if k = true then GE T X c σ L3 fun w L4 => GOp T X (compareOp op') y w L4 K else K (.bl false) L3) : GE T X (.Compare a [op, op'] [b, c] pos) σ L K :=
  GE.of (pe_chain opW opW peW peW peW hm) fun H hs Q q => h H hs _ fun x L1 H1 k1 h1 => k1 H1 h1 _ fun y L2 H2 k2 h2 => k2 H2 h2 _ fun z L3 H3 ⟨k, e, k3⟩ h3 => ⟨k, e, by
    cases k with
    | true => rw [if_pos rfl] at k3 ⊢; exact k3 H3 h3 _ fun w L4 H4 k4 h4 => k4 H4 h4 Q q
    | false => rw [if_neg Bool.false_ne_true] at k3 ⊢; exact q _ L3 H3 k3 h3⟩
theorem gt_chain {op op' : CmpOp} {K : Bool → List SA → Prop} (hm : lastMarks [op, op'] [b, c] = false) (h : GE T X a σ L fun x L1 => GE T X b σ L1 fun y L2 => GOp T X (compareOp op) x y L2 fun z L3 => ∃ k, z = .bl k ∧
    if k = true then GE T X c σ L3 fun w L4 => GOp T X (compareOp op') y w L4 (KB K) else K false L3) : GT T X (.Compare a [op, op'] [b, c] pos) σ L K :=
  GT.of (pt_chain opW opW peW peW peW hm) fun H hs Q q => h H hs _ fun x L1 H1 k1 h1 => k1 H1 h1 _ fun y L2 H2 k2 h2 => k2 H2 h2 _ fun z L3 H3 ⟨k, e, k3⟩ h3 => ⟨k, e, by
    cases k with
    | true =>
      rw [if_pos rfl] at k3 ⊢
      exact k3 H3 h3 _ fun w L4 H4 k4 h4 => k4 H4 h4 _ fun z L5 H5 ⟨b, e, k5⟩ h5 => ⟨b, e, q b L5 H5 k5 h5⟩
    | false =>
      rw [if_neg Bool.false_ne_true] at k3 ⊢
      exact ⟨false, rfl, q _ L3 H3 k3 h3⟩⟩
/-! ### leaves: ints, truth values, texts -/
theorem wr_I0 {g : Int → Int → V} {i j : Int} (k : K (g i j) L) : WR2 T (rI0 g) (.int i) (.int j) L K := fun H hs Q q => ⟨i, j, rfl, rfl, q _ L H k hs⟩
theorem wr_I {C : Int → Int → Prop} {g : Int → Int → V} {i j : Int} (c : C i j) (k : K (g i j) L) : WR2 T (rI C g) (.int i) (.int j) L K := fun H hs Q q => ⟨i, j, rfl, rfl, c, q _ L H k hs⟩
theorem go_add {i j : Int} (k : K (.int (i + j)) L) : GOp T X (binaryOp .Add) (.int i) (.int j) L K := GOp.of op_add (wr_I0 k)
theorem go_sub {i j : Int} (k : K (.int (i - j)) L) : GOp T X (binaryOp .Sub) (.int i) (.int j) L K := GOp.of op_sub (wr_I0 k)
theorem go_mul {i j : Int} (c : (-(2 ^ 64) < i ∧ i < 2 ^ 64) ∨ (-(2 ^ 64) < j ∧ j < 2 ^ 64)) (k : K (.int (i * j)) L) : GOp T X (binaryOp .Mult) (.int i) (.int j) L K := GOp.of op_mul (wr_I c k)
theorem go_div {i j : Int} (c : 0 < j ∧ j < 1073741824) (k : K (.int (i / j)) L) : GOp T X (binaryOp .FloorDiv) (.int i) (.int j) L K := GOp.of op_fdiv (wr_I c k)
theorem go_mod {i j : Int} (c : 0 < j) (k : K (.int (i % j)) L) : GOp T X (binaryOp .Mod) (.int i) (.int j) L K := GOp.of op_mod (wr_I c k)
theorem go_pow {i j : Int} (c : 0 ≤ j ∧ j ≤ 1000000 ∧ i.natAbs < 2 ^ 64) (k : K (.int (i ^ j.toNat)) L) : GOp T X (binaryOp .Pow) (.int i) (.int j) L K := GOp.of op_pow (wr_I c k)
theorem go_lt {i j : Int} (k : K (.bl (decide (i < j))) L) : GOp T X (compareOp .Lt) (.int i) (.int j) L K := GOp.of op_lt (wr_I0 k)
theorem go_le {i j : Int} (k : K (.bl (decide (i ≤ j))) L) : GOp T X (compareOp .LtE) (.int i) (.int j) L K := GOp.of op_le (wr_I0 k)
theorem go_gt {i j : Int} (k : K (.bl (decide (j < i))) L) : GOp T X (compareOp .Gt) (.int i) (.int j) L K := GOp.of op_gt (wr_I0 k)
theorem go_ge {i j : Int} (k : K (.bl (decide (j ≤ i))) L) : GOp T X (compareOp .GtE) (.int i) (.int j) L K := GOp.of op_ge (wr_I0 k)
theorem go_eqS {x y : V} (hx : scal x y = true) (k : K (.bl (decide (x = y))) L) : GOp T X (compareOp .Eq) x y L K := GOp.of op_eq fun H hs Q q => ⟨hx, q _ L H k hs⟩
theorem go_neS {x y : V} (hx : scal x y = true) (k : K (.bl (!decide (x = y))) L) : GOp T X (compareOp .NotEq) x y L K := GOp.of op_ne fun H hs Q q => ⟨hx, q _ L H k hs⟩
theorem dec_int (i j : Int) : decide (V.int i = V.int j) = decide (i = j) := by
  by_cases h : i = j
  · subst h; simp
  · rw [decide_eq_false h, decide_eq_false fun z => h (V.int.inj z)]
theorem dec_str (i j : Str) : decide (V.str i = V.str j) = decide (i = j) := by
  by_cases h : i = j
  · subst h; simp
  · rw [decide_eq_false h, decide_eq_false fun z => h (V.str.inj z)]
theorem dec_bl (i j : Bool) : decide (V.bl i = V.bl j) = decide (i = j) := by
  cases i <;> cases j <;> decide
theorem go_eqI {i j : Int} (k : K (.bl (decide (i = j))) L) : GOp T X (compareOp .Eq) (.int i) (.int j) L K := go_eqS rfl (by rw [dec_int]; exact k)
theorem go_neI {i j : Int} (k : K (.bl (!decide (i = j))) L) : GOp T X (compareOp .NotEq) (.int i) (.int j) L K := go_neS rfl (by rw [dec_int]; exact k)
theorem go_eqT {i j : Str} (k : K (.bl (decide (i = j))) L) : GOp T X (compareOp .Eq) (.str i) (.str j) L K := go_eqS rfl (by rw [dec_str]; exact k)
theorem go_neT {i j : Str} (k : K (.bl (!decide (i = j))) L) : GOp T X (compareOp .NotEq) (.str i) (.str j) L K := go_neS rfl (by rw [dec_str]; exact k)
theorem go_eqB {i j : Bool} (k : K (.bl (decide (i = j))) L) : GOp T X (compareOp .Eq) (.bl i) (.bl j) L K := go_eqS rfl (by rw [dec_bl]; exact k)
theorem go_neB {i j : Bool} (k : K (.bl (!decide (i = j))) L) : GOp T X (compareOp .NotEq) (.bl i) (.bl j) L K := go_neS rfl (by rw [dec_bl]; exact k)
theorem go_isN {x : V} (k : K (.bl (decide (x = .non))) L) : GOp T X (compareOp .Is) x .non L K := GOp.of op_isN fun H hs Q q => ⟨rfl, q _ L H k hs⟩
theorem go_notN {x : V} (k : K (.bl (!decide (x = .non))) L) : GOp T X (compareOp .IsNot) x .non L K := GOp.of op_notN fun H hs Q q => ⟨rfl, q _ L H k hs⟩
theorem gu_neg {i : Int} (k : K (.int (-i)) L) : GU T X (unaryOp .USub) (.int i) L K := GU.of un_neg fun H hs Q q => ⟨i, rfl, q _ L H k hs⟩
theorem go_addS {i j : Str} (hz : i.length + j.length ≤ sizeLine) (k : K (.str (i ++ j)) L) : GOp T X (binaryOp .Add) (.str i) (.str j) L K := GOp.of op_add_str fun H hs Q q => ⟨i, j, rfl, rfl, hz, q _ L H k hs⟩
/-! ### displays, subscripts, attributes -/
theorem ga_nil {K : List V → List SA → Prop} (k : K [] L) : GA T X [] σ L K := GA.of pa_nil fun H h Q q => q _ L H k h
theorem ga_cons {K : List V → List SA → Prop} (hst : starEach (e :: es) X.env = (false, eval e X.env) :: starEach es X.env) (h : GE T X e σ L fun x L1 => GA T X es σ L1 fun xs L2 => K (x :: xs) L2) : GA T X (e :: es) σ L K :=
  GA.of (pa_cons peW paW hst) fun H hs Q q => h H hs _ fun x L1 H1 k1 h1 => k1 H1 h1 _ fun xs L2 H2 k2 h2 => q _ L2 H2 k2 h2
theorem ge_tup {x1} (h : GA T X es σ L fun xs L1 => xs.length ≤ sizeLine ∧ ∀ p, K (.ref p) (pt p (.tup xs) :: L1)) : GE T X (.Tuple es x1 pos) σ L K :=
  GE.of (pe_tup paW) fun H hs Q q => h H hs _ fun xs L1 H1 k1 h1 => ⟨k1.1, fun p hp => q _ _ _ (k1.2 p) (h1.new hp fun _ => nofun)⟩
theorem ge_lst (h : GA T X es σ L fun xs L1 => xs.length ≤ sizeLine ∧ ∀ p, K (.ref p) (pt p (.lst xs) :: L1)) : GE T X (.List es pos) σ L K :=
  GE.of (pe_lst paW) fun H hs Q q => h H hs _ fun xs L1 H1 k1 h1 => ⟨k1.1, fun p hp => q _ _ _ (k1.2 p) (h1.new hp fun _ => nofun)⟩
/-- a[b] by values -/
def ixW (X : Cx) : R2 := fun x y H Q => ∀ (value slice : Expr) (pins : List (Addr × Obj)) (s : Shared) (σ : St) (v u : Value), Inv X pins σ H s → RelV x v → RelV y u → subscripted slice false v u = operate [v, u] (getItem v u) → wpAny (model X.prog X.w) X.A (subscriptTail value slice v u) (EP X pins σ Q) X.xe s
theorem ixWr : IxR X (ixW X) := fun value slice pins s σ H x y v u Q I rx ry h hs => h value slice pins s σ v u I rx ry hs
def GIx (T : List (Addr × Str)) (X : Cx) (x y : V) (L : List SA) (K : GK) : Prop := WR2 T (ixW X) x y L K
theorem GIx.of {r : R2} {x y : V} (h : IxR X r) (w : WR2 T r x y L K) : GIx T X x y L K := fun H hs Q q value slice pins s σ v u I rx ry z => h value slice pins s σ H x y v u Q I rx ry (w H hs Q q) z
theorem ge_sub (hs : PlainIx b) (h : GE T X a σ L fun x L1 => GE T X b σ L1 fun y L2 => GIx T X x y L2 K) : GE T X (.Subscript a b pos) σ L K :=
  GE.of (pe_ix ixWr peW peW hs) fun H hs Q q => h H hs _ fun x L1 H1 k1 h1 => k1 H1 h1 _ fun y L2 H2 k2 h2 => k2 H2 h2 Q q
theorem gi_lst {p : Addr} {xs : List V} {i : Int} {R : List SA} (s : Sel L (pt p (.lst xs)) R) (ha : atI xs i = some v) (k : K v L) : GIx T X (.ref p) (.int i) L K :=
  GIx.of ix_list fun H hs Q q => ⟨p, xs, i, v, rfl, rfl, SqL.of (hs.at s), ha, q _ L H k hs⟩
theorem gi_tup {p : Addr} {xs : List V} {i : Int} {R : List SA} (s : Sel L (pt p (.tup xs)) R) (ha : atI xs i = some v) (k : K v L) : GIx T X (.ref p) (.int i) L K :=
  GIx.of ix_tup fun H hs Q q => ⟨p, xs, i, v, rfl, rfl, SqT.of (hs.at s), ha, q _ L H k hs⟩
theorem gi_str {z : Str} {i : Int} {c : Nat} (hz : z.length ≤ sizeLine) (ha : atI z.cps.toList i = some c) (k : K (.str ⟨#[c]⟩) L) : GIx T X (.str z) (.int i) L K :=
  GIx.of ix_str fun H hs Q q => ⟨z, i, c, rfl, rfl, hz, ha, q _ L H k hs⟩
def GF (T : List (Addr × Str)) (KK : PySem.W.Frag) (x : V) (f : Str) (L : List SA) (K : GK) : Prop := ∃ a C dx fs v R, x = .ref a ∧ Sel L (pt a (.ins C dx fs)) R ∧ Cls KK C ∧ NoAttr KK C f ∧ fs.lookup f = some v ∧ K v L
theorem ge_fld (hb : attributeBase e f X.env (eval e X.env) = eval e X.env) (h : GE T X e σ L fun x L1 => GF T X.K x f L1 K) : GE T X (.Attribute e f pos) σ L K :=
  GE.of (pe_fld peW hb) fun H hs Q q => h H hs _ fun x L1 H1 ⟨a, C, dx, fs, v, R, ex, s, c, n, l, k⟩ h1 => ⟨a, C, dx, fs, v, ex, h1.at s, c, n, l, q _ L1 H1 k h1⟩
/-! ### calls of built-ins by their names -/
theorem ge_callB {id : String} (hg : Gl X x) (hm : X.mg x = none) (hv : bootBuiltins x = some (.builtin id)) (hn : x ≠ "__name__") (hdb : (x == ("__debug__" : Str)) = false) (he : starEach (e :: es) X.env = (false, eval e X.env) :: starEach es X.env) (hpl : (backTo pos (starEach es X.env)).any (·.1) = false)
    (h : GA T X (e :: es) σ L fun vs L1 => GC T X (.builtin id) vs L1 K) : GE T X (.Call (.Name x p) (e :: es) [] pos) σ L K :=
  GE.of (pe_callB caW hg hm hv paW hn hdb he hpl) fun H hs Q q => h H hs _ fun vs L1 H1 k1 h1 => k1 H1 h1 Q q
theorem ge_callTy {id : String} (hg : Gl X x) (hm : X.mg x = none) (hv : bootBuiltins x = some (.type id)) (hn : x ≠ "__name__") (hdb : (x == ("__debug__" : Str)) = false) (he : starEach (e :: es) X.env = (false, eval e X.env) :: starEach es X.env) (hpl : (backTo pos (starEach es X.env)).any (·.1) = false)
    (h : GA T X (e :: es) σ L fun vs L1 => GC T X (.type id) vs L1 K) : GE T X (.Call (.Name x p) (e :: es) [] pos) σ L K :=
  GE.of (pe_callTy caW hg hm hv paW hn hdb he hpl) fun H hs Q q => h H hs _ fun vs L1 H1 k1 h1 => k1 H1 h1 Q q
theorem ge_callTy0 {id : String} (hg : Gl X x) (hm : X.mg x = none) (hv : bootBuiltins x = some (.type id)) (hn : x ≠ "__name__") (hdb : (x == ("__debug__" : Str)) = false)
    (h : GC T X (.type id) [] L K) : GE T X (.Call (.Name x p) [] [] pos) σ L K :=
  GE.of (pe_callTy0 caW hg hm hv hn hdb) fun H hs Q q => h H hs Q q
theorem gc_abs {i : Int} (k : K (.int (if i < 0 then -i else i)) L) : GC T X (.builtin "abs") [.int i] L K := GC.of call_abs fun H hs Q q => ⟨i, rfl, q _ L H k hs⟩
theorem gc_intI {i : Int} (k : K (.int i) L) : GC T X (.type "int") [.int i] L K := GC.of call_int1 fun H hs Q q => .inl ⟨i, rfl, q _ L H k hs⟩
theorem gc_intB {b : Bool} (k : K (.int (if b then 1 else 0)) L) : GC T X (.type "int") [.bl b] L K := GC.of call_int1 fun H hs Q q => .inr ⟨b, rfl, q _ L H k hs⟩
theorem gc_len {p : Addr} {xs : List V} {R : List SA} (s : Sel L (pt p (.lst xs)) R) (k : K (.int xs.length) L) : GC T X (.builtin "len") [.ref p] L K := GC.of call_len_seq fun H hs Q q => ⟨p, xs, rfl, .inl (SqL.of (hs.at s)), q _ L H k hs⟩
theorem gc_lenT {p : Addr} {xs : List V} {R : List SA} (s : Sel L (pt p (.tup xs)) R) (k : K (.int xs.length) L) : GC T X (.builtin "len") [.ref p] L K := GC.of call_len_seq fun H hs Q q => ⟨p, xs, rfl, .inr (SqT.of (hs.at s)), q _ L H k hs⟩
theorem gc_lenS {z : Str} (hz : z.length ≤ sizeLine) (k : K (.int z.length) L) : GC T X (.builtin "len") [.str z] L K := GC.of call_len_str fun H hs Q q => ⟨z, rfl, hz, q _ L H k hs⟩
end
/-! ### own defs -/
abbrev KX := Value → Option Addr → List SA → Prop
abbrev SpL := List V → List SA → GK → KX → Prop
def spOf (T : List (Addr × Str)) (S : SpL) : Sp := fun vs H Q E => ∃ L K kx, Hs T L H ∧ S vs L K kx ∧ (∀ v L' H', K v L' → Hs T L' H' → Q v H') ∧ ∀ cls d L' H', kx cls d L' → Hs T L' H' → E cls d H'
def Xok (T : List (Addr × Str)) (X : Cx) (kx : KX) : Prop := ∃ W : WX, Takes X W ∧ ∀ cls d σ L H, kx cls d L → Hs T L H → W cls d σ H
def kx0 : KX := fun _ _ _ => False
theorem xok0 {T : List (Addr × Str)} {X : Cx} : Xok T X kx0 := ⟨_, takes0, fun _ _ _ _ _ h _ => h.elim⟩
def EX (T : List (Addr × Str)) (kx : KX) : XK := fun cls d H => ∃ L, kx cls d L ∧ Hs T L H
theorem Xok.pass {T : List (Addr × Str)} {X : Cx} {kx : KX} (h : Xok T X kx) : Passes (L2.CX X.prog X.w) X (EX T kx) := by
  obtain ⟨W, tk, hW⟩ := h
  exact passes_call tk fun cls d σ H ⟨L, k, hs⟩ => hW cls d σ L H k hs
theorem Xok.imp {T : List (Addr × Str)} {X : Cx} {kx kx' : KX} (h : Xok T X kx) (f : ∀ c d L, kx' c d L → kx c d L) : Xok T X kx' := by
  obtain ⟨W, tk, hW⟩ := h
  exact ⟨W, tk, fun cls d σ L H k hs => hW cls d σ L H (f _ _ _ k) hs⟩
theorem spOf_of {T : List (Addr × Str)} {S : SpL} {vs : List V} {L : List SA} {K : GK} {kx : KX} {H : Hp} {Q : VK} (h : S vs L K kx) (hs : Hs T L H) (q : ∀ v L' H', K v L' → Hs T L' H' → Q v H') : spOf T S vs H Q (EX T kx) :=
  ⟨L, K, kx, hs, h, q, fun cls d L' H' k h' => ⟨L', k, h'⟩⟩
/-- a def of the module, callable -/
structure FnAt (T : List (Addr × Str)) (P : Program) (w : World) (K : PySem.W.Frag) (mg : Str → Option Value) (base : Heap) (k : Nat) (x : Str) (S : SpL) : Prop where
  ex : ∃ (fd : FuncData) (ps : List Str), FnOk P w K mg base (L2.CX P w) k (He.ga K x) fd ps (spOf T S) ∧ Binds K fd ps []
  mgx : mg x = some (.ref (He.ga K x))
  kp : PySem.W.keepIn K (.ref (He.ga K x)) = true
/-- a method -/
structure MeAt (T : List (Addr × Str)) (P : Program) (w : World) (K : PySem.W.Frag) (mg : Str → Option Value) (base : Heap) (k : Nat) (C m : Str) (S : SpL) : Prop where
  ex : ∃ (fd : FuncData) (ps : List Str), FnOk P w K mg base (L2.CX P w) k (He.ma K (He.ga K C) m) fd ps (spOf T S) ∧ Binds K fd ps []
  cls : Cls K (He.ga K C)
  me : Meth K (He.ga K C) m (He.ma K (He.ga K C) m)
/-- a class that is made by its __init__ -/
structure MkAt (T : List (Addr × Str)) (P : Program) (w : World) (K : PySem.W.Frag) (mg : Str → Option Value) (base : Heap) (k : Nat) (C : Str) (S : SpL) : Prop where
  ex : ∃ (fd : FuncData) (ps : List Str), FnOk P w K mg base (L2.CX P w) k (He.ma K (He.ga K C) "__init__") fd ps (spOf T S) ∧ Binds K fd ps []
  mkr : Mk K (He.ga K C) (He.ma K (He.ga K C) "__init__")
  mgx : mg C = some (.ref (He.ga K C))
section
variable {T : List (Addr × Str)} {X : Cx} {σ : St} {L : List SA} {K : GK} {kx : KX} {S : SpL} {e o : Expr} {es : List Expr} {x m : Str} {p pos apos : Pos} {k : Nat}
theorem ge_call (F : FnAt T X.prog X.w X.K X.mg X.base k x S) (hr : Room k X.A) (hx : Xok T X kx) (hg : Gl X x) (hdb : (x == ("__debug__" : Str)) = false) (he : starEach (e :: es) X.env = (false, eval e X.env) :: starEach es X.env) (hpl : (backTo pos (starEach es X.env)).any (·.1) = false)
    (h : GA T X (e :: es) σ L fun vs L1 => S vs L1 K kx) : GE T X (.Call (.Name x p) (e :: es) [] pos) σ L K := by
  obtain ⟨fd, ps, F1, hb⟩ := F.ex
  refine GE.of (pe_call F1 hr hg F.mgx F.kp hb .nil hx.pass paW hdb he hpl) fun H hs Q q => h H hs _ fun vs L1 H1 k1 h1 => ?_
  rw [List.append_nil]
  exact spOf_of k1 h1 q
theorem ge_call0 (F : FnAt T X.prog X.w X.K X.mg X.base k x S) (hr : Room k X.A) (hx : Xok T X kx) (hg : Gl X x) (hdb : (x == ("__debug__" : Str)) = false)
    (h : S [] L K kx) : GE T X (.Call (.Name x p) [] [] pos) σ L K := by
  obtain ⟨fd, ps, F1, hb⟩ := F.ex
  exact GE.of (pe_call0 F1 hr hg F.mgx F.kp hb .nil hx.pass hdb) fun H hs Q q => spOf_of h hs q
def IsIns (T : List (Addr × Str)) (C : Addr) (x : V) (m : Str) (L : List SA) : Prop := ∃ a, x = .ref a ∧ ∀ H, Hs T L H → ∃ dx fs, H a = some (.ins C dx fs) ∧ fs.lookup m = none
theorem ge_meth {Cn : Str} (F : MeAt T X.prog X.w X.K X.mg X.base k Cn m S) (hr : Room k X.A) (hx : Xok T X kx) (hst : starEach (e :: es) X.env = (false, eval e X.env) :: starEach es X.env) (hpl : (backTo pos (starEach es X.env)).any (·.1) = false)
    (ht : ∃ pl : Sem Bool, eval (.Call (.Attribute o m apos) (e :: es) [] pos) X.env = (do
      let ov ← eval o X.env
      standAt apos.atName
      let (f, first) ← holding [ov] (getMethod ov m pl)
      callWith pos f first (backTo pos (starEach (e :: es) X.env)) (backToKw pos (keywordEach [] X.env))))
    (h : GE T X o σ L fun v L0 => IsIns T (He.ga X.K Cn) v m L0 ∧ GA T X (e :: es) σ L0 fun vs L1 => S (v :: vs) L1 K kx) : GE T X (.Call (.Attribute o m apos) (e :: es) [] pos) σ L K := by
  obtain ⟨fd, ps, F1, hb⟩ := F.ex
  obtain ⟨pl, ht⟩ := ht
  refine GE.of (pe_meth (pl := pl) peW F.cls F.me F1 hr hb .nil hx.pass paW hst hpl ht) fun H hs Q q => h H hs _ fun v L0 H0 ⟨⟨a, ev, fi⟩, k0⟩ h0 => ?_
  subst ev
  obtain ⟨dx, fs, hi, l⟩ := fi H0 h0
  refine ⟨a, dx, fs, rfl, hi, l, k0 H0 h0 _ fun vs L1 H1 k1 h1 => ?_⟩
  rw [List.append_nil]
  exact spOf_of k1 h1 q
theorem ge_meth0 {Cn : Str} (F : MeAt T X.prog X.w X.K X.mg X.base k Cn m S) (hr : Room k X.A) (hx : Xok T X kx)
    (ht : ∃ pl : Sem Bool, eval (.Call (.Attribute o m apos) [] [] pos) X.env = (do
      let ov ← eval o X.env
      standAt apos.atName
      let (f, first) ← holding [ov] (getMethod ov m pl)
      callWith pos f first (backTo pos (starEach [] X.env)) (backToKw pos (keywordEach [] X.env))))
    (h : GE T X o σ L fun v L0 => IsIns T (He.ga X.K Cn) v m L0 ∧ S [v] L0 K kx) : GE T X (.Call (.Attribute o m apos) [] [] pos) σ L K := by
  obtain ⟨fd, ps, F1, hb⟩ := F.ex
  obtain ⟨pl, ht⟩ := ht
  refine GE.of (pe_meth0 (pl := pl) peW F.cls F.me F1 hr hb .nil hx.pass ht) fun H hs Q q => h H hs _ fun v L0 H0 ⟨⟨a, ev, fi⟩, k0⟩ h0 => ?_
  subst ev
  obtain ⟨dx, fs, hi, l⟩ := fi H0 h0
  exact ⟨a, dx, fs, rfl, hi, l, spOf_of k0 h0 q⟩
theorem hs_made {H : Hp} {x dx C : Addr} (h : Hs T L H) (hx : H x = none) (hd : H dx = none) (ne : dx ≠ x) : Hs T (pt x (.ins C dx []) :: L) (upd (upd H dx (.own x)) x (.ins C dx [])) := by
  have h1 : Hs T (pt dx (.own x) :: L) (upd H dx (.own x)) := h.new hd fun _ => nofun
  exact h1.tail.new (by rw [upd_ne ne.symm]; exact hx) fun _ => nofun
theorem ge_make (F : MkAt T X.prog X.w X.K X.mg X.base k x S) (hr : Room (k + 1) X.A) (hx : Xok T X kx) (hg : Gl X x) (hdb : (x == ("__debug__" : Str)) = false) (he : starEach (e :: es) X.env = (false, eval e X.env) :: starEach es X.env) (hpl : (backTo pos (starEach es X.env)).any (·.1) = false)
    (h : GA T X (e :: es) σ L fun vs L1 => ∀ a dx, S (.ref a :: vs) (pt a (.ins (He.ga X.K x) dx []) :: L1) (fun v L2 => v = .non ∧ K (.ref a) L2) kx) : GE T X (.Call (.Name x p) (e :: es) [] pos) σ L K := by
  obtain ⟨fd, ps, F1, hb⟩ := F.ex
  refine GE.of (pe_make F.mkr F1 hr hg F.mgx hb .nil hx.pass paW hdb he hpl) fun H hs Q q => h H hs _ fun vs L1 H1 k1 h1 => fun a dx ha hd ne => ?_
  rw [List.append_nil]
  exact spOf_of (k1 a dx) (hs_made h1 ha hd ne) fun v L2 H2 ⟨e, k2⟩ h2 => ⟨e, q _ L2 H2 k2 h2⟩
theorem ge_make0 (F : MkAt T X.prog X.w X.K X.mg X.base k x S) (hr : Room (k + 1) X.A) (hx : Xok T X kx) (hg : Gl X x) (hdb : (x == ("__debug__" : Str)) = false)
    (h : ∀ a dx, S [.ref a] (pt a (.ins (He.ga X.K x) dx []) :: L) (fun v L2 => v = .non ∧ K (.ref a) L2) kx) : GE T X (.Call (.Name x p) [] [] pos) σ L K := by
  obtain ⟨fd, ps, F1, hb⟩ := F.ex
  refine GE.of (pe_make0 F.mkr F1 hr hg F.mgx hb .nil hx.pass hdb) fun H hs Q q => fun a dx ha hd ne => ?_
  exact spOf_of (h a dx) (hs_made hs ha hd ne) fun v L2 H2 ⟨e, k2⟩ h2 => ⟨e, q _ L2 H2 k2 h2⟩
end
/-! ### statements -/
section
variable {T : List (Addr × Str)} {X : Cx} {σ : St} {L : List SA} {D : EndsL} {e o a c : Expr} {st : Stmt} {rest body orelse : List Stmt} {x f : Str} {pos p pos' : Pos} {i j : Nat}
theorem gss_nil (h : D.nx σ L) : GSs T X [] D σ L := GSs.of pss_nil fun H hs D0 l => l.nx _ _ _ h hs
theorem gss_cons (h : GS T X st { D with nx := fun σ' L' => GSs T X rest D σ' L' } σ L) : GSs T X (st :: rest) D σ L :=
  GSs.of (pss_cons psW pssW) fun H hs D0 l => h H hs _ ⟨fun σ' L' H' k h' => k H' h' D0 l, l.rt, l.bk, l.ct⟩
theorem gss_one (h : GS T X st D σ L) : GSs T X [st] D σ L := GSs.of (pss_one psW) h
theorem gs_pass (h : D.nx σ L) : GS T X (.Pass pos) D σ L := GS.of ps_pass fun H hs D0 l => l.nx _ _ _ h hs
theorem gs_break (h : D.bk σ L) : GS T X (.Break pos) D σ L := GS.of ps_break fun H hs D0 l => l.bk _ _ _ h hs
theorem gs_continue (h : D.ct σ L) : GS T X (.Continue pos) D σ L := GS.of ps_continue fun H hs D0 l => l.ct _ _ _ h hs
theorem gs_doc {j} {z : Str} (h : D.nx σ L) : GS T X (.Expr (.Constant (.str z) j p) pos) D σ L := GS.of ps_doc fun H hs D0 l => l.nx _ _ _ h hs
theorem gs_expr (hsw : swapsWith e none pos.line X.env = pure false) (h : GE T X e σ L fun _ L1 => D.nx σ L1) : GS T X (.Expr e pos) D σ L :=
  GS.of (ps_expr peW hsw) fun H hs D0 l => h H hs _ fun v L1 H1 k h1 => l.nx _ _ _ k h1
theorem gs_ret (h : GE T X e σ L D.rt) : GS T X (.Return (some e) pos) D σ L := GS.of (ps_ret peW) fun H hs D0 l => h H hs _ l.rt
theorem gs_retN (h : D.rt .non L) : GS T X (.Return none pos) D σ L := GS.of ps_retN fun H hs D0 l => l.rt _ _ _ h hs
theorem gs_if (h : GT T X c σ L fun b L1 => if b = true then GSs T X body D σ L1 else GSs T X orelse D σ L1) : GS T X (.If c body orelse pos) D σ L :=
  GS.of (ps_if ptW pssW pssW) fun H hs D0 l => h H hs _ fun b L1 H1 k1 h1 => by
    cases b with
    | true => rw [if_pos rfl] at k1 ⊢; exact k1 H1 h1 D0 l
    | false => rw [if_neg Bool.false_ne_true] at k1 ⊢; exact k1 H1 h1 D0 l
theorem gs_set (hN : X.N.Nodup) (hi : X.N[i]? = some x) (hx : Loc X.env.scope x) (hsw : swapsWith e (some (.Name x pos')) pos.line X.env = pure false) (hf : X.fn x = true ∨ X.env.scope.names.lookup x = some .local)
    (h : GE T X e σ L fun v L1 => D.nx (σ.set i (some v)) L1) : GS T X (.Assign [.Name x pos'] e pos) D σ L :=
  GS.of (ps_set hN hi hx peW hsw hf) fun H hs D0 l => h H hs _ fun v L1 H1 k h1 => l.nx _ _ _ k h1
theorem gs_asg {tg : Expr} (hsw : swapsWithSole [tg] e pos.line X.env = pure false) (hw : swappedStores [tg] e X.env = pure none) (h1 : (assignEach [tg] X.env).map (·.2) = [assign tg X.env])
    (h : GE T X e σ L fun v L1 => GG T X tg v σ L1 D.nx) : GS T X (.Assign [tg] e pos) D σ L :=
  GS.of (ps_asg peW pgW hsw hw h1) fun H hs D0 l => h H hs _ fun v L1 H1 k h1 => k H1 h1 _ l.nx
theorem gs_par {y : Str} {b : Expr} {px py p3 : Pos} {kt k2 p4} (hc : X.calm = true) (hN : X.N.Nodup) (hi : X.N[i]? = some x) (hj : X.N[j]? = some y) (hij : i ≠ j)
    (hx : X.env.scope.names.lookup x = some .local) (hy : X.env.scope.names.lookup y = some .local)
    (hw : swappedStores [.Tuple [.Name x px, .Name y py] kt p3] (.Tuple [a, b] k2 p4) X.env = pure (some [x, y]))
    (hs : swapsWithSole [.Tuple [.Name x px, .Name y py] kt p3] (.Tuple [a, b] k2 p4) pos.line X.env = pure false)
    (h : GA T X [a, b] σ L fun vs L1 => ∃ v w, vs = [v, w] ∧ D.nx ((σ.set i (some v)).set j (some w)) L1) :
    GS T X (.Assign [.Tuple [.Name x px, .Name y py] kt p3] (.Tuple [a, b] k2 p4) pos) D σ L :=
  GS.of (ps_par hc hN hi hj hij hx hy paW hw hs) fun H hs D0 l => h H hs _ fun vs L1 H1 ⟨v, w, e, k⟩ h1 => ⟨v, w, e, l.nx _ _ _ k h1⟩
def GFS (KK : PySem.W.Frag) (x : V) (f : Str) (y : V) (L : List SA) (N : List SA → Prop) : Prop := ∃ a C dx fs L', x = .ref a ∧ Rpl L (pt a (.ins C dx fs)) (pt a (.ins C dx (putF f y fs))) L' ∧ Cls KK C ∧ NoAttr KK C f ∧ fs.length < 1000 ∧ N L'
theorem gs_fld (hsw : swapsWith e (some (.Attribute o f pos')) pos.line X.env = pure false) (h : GE T X e σ L fun y L1 => GE T X o σ L1 fun x L2 => GFS X.K x f y L2 (D.nx σ)) : GS T X (.Assign [.Attribute o f pos'] e pos) D σ L :=
  GS.of (ps_fld peW peW hsw) fun H hs D0 l => h H hs _ fun y L1 H1 k1 h1 => k1 H1 h1 _ fun x L2 H2 ⟨a, C, dx, fs, L', ex, r, c, n, z, k⟩ h2 => by
    obtain ⟨R, s⟩ := r.sel
    exact ⟨a, C, dx, fs, ex, h2.at s, c, n, z, l.nx _ _ _ k (h2.rpl r True.intro fun _ => nofun)⟩
end
end SW
set_option Elab.async false
set_option linter.all false
set_option maxRecDepth 100000
set_option maxHeartbeats 2000000
/-! Sw3: names by search, the entry of a def, stores. -/
namespace SW
open PySem PySem.Spec L2
open PyProof.Rows hiding St
/-- the value that a name holds, found along the rows -/
inductive At : List Str → St → Str → V → Prop
  | here {x N v σ} : At (x :: N) (some v :: σ) x v
  | there {x y N s σ v} : At N σ x v → At (y :: N) (s :: σ) x v
theorem At.ix {N : List Str} {σ : St} {x : Str} {v : V} (h : At N σ x v) : ∃ i : Nat, N[i]? = some x ∧ σ[i]? = some (some v) := by
  induction h with
  | here => exact ⟨0, rfl, rfl⟩
  | there _ ih => obtain ⟨i, a, b⟩ := ih; exact ⟨i + 1, by simpa using a, by simpa using b⟩
/-- a name is stored -/
inductive Put : List Str → St → Str → V → St → Prop
  | here {x N s v σ} : Put (x :: N) (s :: σ) x v (some v :: σ)
  | there {x y N s σ σ' v} : Put N σ x v σ' → Put (y :: N) (s :: σ) x v (s :: σ')
theorem Put.ix {N : List Str} {σ σ' : St} {x : Str} {v : V} (h : Put N σ x v σ') : ∃ i : Nat, N[i]? = some x ∧ σ' = σ.set i (some v) := by
  induction h with
  | here => exact ⟨0, rfl, rfl⟩
  | there _ ih => obtain ⟨i, a, b⟩ := ih; exact ⟨i + 1, by simpa using a, by simp [b]⟩
/-- what is stored stands behind: for a value not yet known -/
inductive Slot : List Str → St → Str → (V → St) → Prop
  | here {x N s σ} : Slot (x :: N) (s :: σ) x (fun v => some v :: σ)
  | there {x y N s σ f} : Slot N σ x f → Slot (y :: N) (s :: σ) x (fun v => s :: f v)
theorem Slot.ix {N : List Str} {σ : St} {x : Str} {f : V → St} (h : Slot N σ x f) : ∃ i : Nat, N[i]? = some x ∧ ∀ v, f v = σ.set i (some v) := by
  induction h with
  | here => exact ⟨0, rfl, fun _ => rfl⟩
  | there _ ih => obtain ⟨i, a, b⟩ := ih; exact ⟨i + 1, by simpa using a, fun v => by simp [b]⟩
/-- the kinds of names -/
inductive Kd : List (Str × NameKind) → Str → NameKind → Prop
  | here {x k l} : Kd ((x, k) :: l) x k
  | there {x k p l} : Kd l x k → Kd (p :: l) x k
theorem Kd.mem {l : List (Str × NameKind)} {x : Str} {k : NameKind} (h : Kd l x k) : (x, k) ∈ l := by
  induction h with
  | here => exact List.mem_cons_self
  | there _ ih => exact List.mem_cons_of_mem _ ih
theorem lookup_nodup {l : List (Str × NameKind)} {x : Str} {k : NameKind} (nd : (l.map (·.1)).Nodup) (h : (x, k) ∈ l) : l.lookup x = some k := by
  induction l with
  | nil => cases h
  | cons p l ih =>
    obtain ⟨y, m⟩ := p
    rw [List.map_cons, List.nodup_cons] at nd
    rcases List.mem_cons.mp h with e | e
    · cases e; simp [List.lookup]
    · have ne : x ≠ y := fun z => nd.1 (by rw [← z]; exact List.mem_map.mpr ⟨_, e, rfl⟩)
      rw [List.lookup_cons, show (x == y) = false from beq_eq_false_iff_ne.mpr ne]
      exact ih nd.2 e
/-- the names of the code at hand, their kinds -/
structure Nm (X : Cx) (N : List Str) (ks : List (Str × NameKind)) : Prop where
  nn : X.N = N
  kk : X.env.scope.names = ks
  nd : N.Nodup
  kd : (ks.map (·.1)).Nodup
/-- xs[k] = v -/
structure PutAt (xs : List V) (k : Int) (v : V) (ys : List V) : Prop where
  ex : ∃ j, ixN xs.length k = some j ∧ ys = xs.set j v
inductive SetR : List V → Nat → V → List V → Prop
  | here {x v : V} {xs : List V} : SetR (x :: xs) 0 v (v :: xs)
  | there {x v : V} {xs ys : List V} {n : Nat} : SetR xs n v ys → SetR (x :: xs) (n + 1) v (x :: ys)
theorem SetR.eq {xs ys : List V} {n : Nat} {v : V} (h : SetR xs n v ys) : ys = xs.set n v := by
  induction h with
  | here => rfl
  | there _ ih => rw [ih]; rfl
theorem PutAt.c {xs ys : List V} {k : Int} {v : V} (j : Nat) (h : ixN xs.length k = some j) (s : SetR xs j v ys) : PutAt xs k v ys := ⟨j, h, s.eq⟩
def GPutL (o i v : V) (L : List SA) (N : List SA → Prop) : Prop := ∃ p xs k ys L', o = .ref p ∧ i = .int k ∧ Rpl L (pt p (.lst xs)) (pt p (.lst ys)) L' ∧ PutAt xs k v ys ∧ N L'
theorem gput {p : Addr} {xs ys : List V} {k : Int} {v : V} {L L' : List SA} {N : List SA → Prop} (r : Rpl L (pt p (.lst xs)) (pt p (.lst ys)) L') (e : PutAt xs k v ys) (h : N L') : GPutL (.ref p) (.int k) v L N := ⟨p, xs, k, ys, L', rfl, rfl, r, e, h⟩
section
variable {T : List (Addr × Str)} {X : Cx} {σ : St} {L : List SA} {K : GK} {D : EndsL} {N : List Str} {ks : List (Str × NameKind)} {e : Expr} {x : Str} {pos pos' : Pos} {v : V}
theorem Nm.look (n : Nm X N ks) {k : NameKind} (h : Kd ks x k) : X.env.scope.names.lookup x = some k := by rw [n.kk]; exact lookup_nodup n.kd h.mem
theorem Nm.gl (n : Nm X N ks) (h : Kd ks x .globalImplicit) : Gl X x := n.look h
inductive Vk : NameKind → Prop
  | l : Vk .local
  | c : Vk .cell
  | f : Vk .free
theorem Nm.vis (n : Nm X N ks) {k : NameKind} (h : Kd ks x k) (v : Vk k) : Vis X.env.scope x := by
  cases v with
  | l => exact .inl (n.look h)
  | c => exact .inr (.inl (n.look h))
  | f => exact .inr (.inr (n.look h))
def dbg (x : Str) : Bool := (x == ("__debug__" : Str)) || (x == ("__classdict__" : Str))
theorem dbg1 (h : dbg x = false) : (x == ("__debug__" : Str)) = false := (Bool.or_eq_false_iff.mp h).1
theorem dbg2 (h : dbg x = false) : (x == ("__classdict__" : Str)) = false := (Bool.or_eq_false_iff.mp h).2
theorem ge_name {k : NameKind} (n : Nm X N ks) (a : At N σ x v) (h : Kd ks x k) (vk : Vk k) (hd : dbg x = false) (q : K v L) : GE T X (.Name x pos) σ L K := by
  obtain ⟨i, h1, h2⟩ := a.ix
  exact ge_var (i := i) (by rw [n.nn]; exact h1) (n.vis h vk) h2 q (dbg1 hd) (dbg2 hd)
inductive Lk : NameKind → Prop
  | l : Lk .local
  | c : Lk .cell
theorem Nm.loc (n : Nm X N ks) {k : NameKind} (h : Kd ks x k) (v : Lk k) : Loc X.env.scope x := by
  cases v with
  | l => exact .inl (n.look h)
  | c => exact .inr (n.look h)
theorem gs_name {k : NameKind} {f : V → St} (n : Nm X N ks) (s : Slot N σ x f) (h : Kd ks x k) (lk : Lk k) (hf : k = .local ∨ X.fn x = true) (hsw : swapsWith e (some (.Name x pos')) pos.line X.env = pure false)
    (q : GE T X e σ L fun v L1 => D.nx (f v) L1) : GS T X (.Assign [.Name x pos'] e pos) D σ L := by
  obtain ⟨i, h1, h2⟩ := s.ix
  have e1 : (fun (v : V) (L1 : List SA) => D.nx (f v) L1) = fun v L1 => D.nx (σ.set i (some v)) L1 := by funext v L1; rw [h2]
  rw [e1] at q
  refine gs_set (i := i) (by rw [n.nn]; exact n.nd) (by rw [n.nn]; exact h1) (n.loc h lk) hsw ?_ q
  rcases hf with rfl | hf
  · exact .inr (n.look h)
  · exact .inl hf
/-- a target that is a name -/
theorem gg_name {k : NameKind} {f : V → St} {K : St → List SA → Prop} (n : Nm X N ks) (s : Slot N σ x f) (h : Kd ks x k) (lk : Lk k) (hf : k = .local ∨ X.fn x = true) (q : K (f v) L) : GG T X (.Name x pos) v σ L K := by
  obtain ⟨i, h1, h2⟩ := s.ix
  refine GG.of (pg_name (i := i) (by rw [n.nn]; exact n.nd) (by rw [n.nn]; exact h1) (n.loc h lk) ?_) fun H hs Q q' => q' _ _ _ ?_ hs
  · rcases hf with rfl | hf
    · exact .inr (n.look h)
    · exact .inl hf
  · rw [← h2]; exact q
theorem gg_sub {o i : Expr} {K : St → List SA → Prop}
    (ha : ∀ v, assign (.Subscript o i pos) X.env v = (do
      let ov ← holding [v] (eval o X.env)
      let iv ← holding [v, ov] (eval i X.env)
      standAt pos
      holding [v, ov, iv] (setItem ov iv v)
      release [v, ov, iv] []))
    (h : GE T X o σ L fun ov L1 => GE T X i σ L1 fun iv L2 => GPutL ov iv v L2 (K σ)) : GG T X (.Subscript o i pos) v σ L K :=
  GG.of (pg_sub peW peW set_list ha) fun H hs Q q => h H hs _ fun ov L1 H1 k1 h1 => k1 H1 h1 _ fun iv L2 H2 ⟨p, xs, k, ys, L', e1, e2, r, ⟨j, e3, e4⟩, k2⟩ h2 => by
    obtain ⟨R, s⟩ := r.sel
    subst e4
    exact ⟨p, xs, k, j, e1, e2, h2.at s, e3, q _ _ _ k2 (h2.rpl r True.intro fun _ => nofun)⟩
end
theorem ite_dec {p A B : Prop} [Decidable p] (h1 : p → A) (h2 : ¬p → B) : if decide p = true then A else B := by
  by_cases h : p
  · rw [decide_eq_true h, if_pos rfl]; exact h1 h
  · rw [decide_eq_false h, if_neg Bool.false_ne_true]; exact h2 h
theorem ite_ndec {p A B : Prop} [Decidable p] (h1 : ¬p → A) (h2 : p → B) : if (!decide p) = true then A else B := by
  by_cases h : p
  · rw [decide_eq_true h]; exact h2 h
  · rw [decide_eq_false h]; exact h1 h
theorem ite_b {b : Bool} {A B : Prop} (h1 : b = true → A) (h2 : b = false → B) : if b = true then A else B := by
  cases b with
  | true => exact h1 rfl
  | false => exact h2 rfl
/-! ### filters -/
section
variable {T : List (Addr × Str)} {X : Cx} {σ : St} {L : List SA} {K : GK}
theorem GE.id {e : Expr} (h : GE T X e σ L K) : GE T X e σ L K := h
theorem GE.idCall {f : Expr} {es kw p} (h : GE T X (.Call f es kw p) σ L K) : GE T X (.Call f es kw p) σ L K := h
theorem GT.id {e : Expr} {K : Bool → List SA → Prop} (h : GT T X e σ L K) : GT T X e σ L K := h
theorem GB.id {e : Expr} {K : Bool → List SA → Prop} (h : GB T X e σ L K) : GB T X e σ L K := h
theorem GA.id {es : List Expr} {K : List V → List SA → Prop} (h : GA T X es σ L K) : GA T X es σ L K := h
theorem GS.id {st : Stmt} {D : EndsL} (h : GS T X st D σ L) : GS T X st D σ L := h
theorem GSs.id {st : List Stmt} {D : EndsL} (h : GSs T X st D σ L) : GSs T X st D σ L := h
theorem GG.id {tg : Expr} {v : V} {K : St → List SA → Prop} (h : GG T X tg v σ L K) : GG T X tg v σ L K := h
theorem GOp.id {f : Value → Value → Sem Value} {x y : V} (h : GOp T X f x y L K) : GOp T X f x y L K := h
theorem GC.id {f : Value} {xs : List V} (h : GC T X f xs L K) : GC T X f xs L K := h
theorem GIx.id {x y : V} (h : GIx T X x y L K) : GIx T X x y L K := h
end
/-! ### built-ins by name -/
section
variable {T : List (Addr × Str)} {X : Cx} {σ : St} {L : List SA} {K : GK} {N : List Str} {ks : List (Str × NameKind)} {e : Expr} {es : List Expr} {p pos : Pos}
theorem gb_int (n : Nm X N ks) (h : Kd ks "int" .globalImplicit) (hm : X.mg "int" = none) (he : starEach (e :: es) X.env = (false, eval e X.env) :: starEach es X.env) (hpl : (backTo pos (starEach es X.env)).any (·.1) = false)
    (q : GA T X (e :: es) σ L fun vs L1 => GC T X (.type "int") vs L1 K) : GE T X (.Call (.Name "int" p) (e :: es) [] pos) σ L K := ge_callTy (n.gl h) hm (by decide +kernel) (by decide) rfl he hpl q
theorem gb_str (n : Nm X N ks) (h : Kd ks "str" .globalImplicit) (hm : X.mg "str" = none) (he : starEach (e :: es) X.env = (false, eval e X.env) :: starEach es X.env) (hpl : (backTo pos (starEach es X.env)).any (·.1) = false)
    (q : GA T X (e :: es) σ L fun vs L1 => GC T X (.type "str") vs L1 K) : GE T X (.Call (.Name "str" p) (e :: es) [] pos) σ L K := ge_callTy (n.gl h) hm (by decide +kernel) (by decide) rfl he hpl q
theorem gb_list (n : Nm X N ks) (h : Kd ks "list" .globalImplicit) (hm : X.mg "list" = none) (he : starEach (e :: es) X.env = (false, eval e X.env) :: starEach es X.env) (hpl : (backTo pos (starEach es X.env)).any (·.1) = false)
    (q : GA T X (e :: es) σ L fun vs L1 => GC T X (.type "list") vs L1 K) : GE T X (.Call (.Name "list" p) (e :: es) [] pos) σ L K := ge_callTy (n.gl h) hm (by decide +kernel) (by decide) rfl he hpl q
theorem gb_tuple (n : Nm X N ks) (h : Kd ks "tuple" .globalImplicit) (hm : X.mg "tuple" = none) (he : starEach (e :: es) X.env = (false, eval e X.env) :: starEach es X.env) (hpl : (backTo pos (starEach es X.env)).any (·.1) = false)
    (q : GA T X (e :: es) σ L fun vs L1 => GC T X (.type "tuple") vs L1 K) : GE T X (.Call (.Name "tuple" p) (e :: es) [] pos) σ L K := ge_callTy (n.gl h) hm (by decide +kernel) (by decide) rfl he hpl q
theorem gb_dict (n : Nm X N ks) (h : Kd ks "dict" .globalImplicit) (hm : X.mg "dict" = none) (he : starEach (e :: es) X.env = (false, eval e X.env) :: starEach es X.env) (hpl : (backTo pos (starEach es X.env)).any (·.1) = false)
    (q : GA T X (e :: es) σ L fun vs L1 => GC T X (.type "dict") vs L1 K) : GE T X (.Call (.Name "dict" p) (e :: es) [] pos) σ L K := ge_callTy (n.gl h) hm (by decide +kernel) (by decide) rfl he hpl q
theorem gb_set (n : Nm X N ks) (h : Kd ks "set" .globalImplicit) (hm : X.mg "set" = none) (he : starEach (e :: es) X.env = (false, eval e X.env) :: starEach es X.env) (hpl : (backTo pos (starEach es X.env)).any (·.1) = false)
    (q : GA T X (e :: es) σ L fun vs L1 => GC T X (.type "set") vs L1 K) : GE T X (.Call (.Name "set" p) (e :: es) [] pos) σ L K := ge_callTy (n.gl h) hm (by decide +kernel) (by decide) rfl he hpl q
theorem gb_bool (n : Nm X N ks) (h : Kd ks "bool" .globalImplicit) (hm : X.mg "bool" = none) (he : starEach (e :: es) X.env = (false, eval e X.env) :: starEach es X.env) (hpl : (backTo pos (starEach es X.env)).any (·.1) = false)
    (q : GA T X (e :: es) σ L fun vs L1 => GC T X (.type "bool") vs L1 K) : GE T X (.Call (.Name "bool" p) (e :: es) [] pos) σ L K := ge_callTy (n.gl h) hm (by decide +kernel) (by decide) rfl he hpl q
theorem gb_range (n : Nm X N ks) (h : Kd ks "range" .globalImplicit) (hm : X.mg "range" = none) (he : starEach (e :: es) X.env = (false, eval e X.env) :: starEach es X.env) (hpl : (backTo pos (starEach es X.env)).any (·.1) = false)
    (q : GA T X (e :: es) σ L fun vs L1 => GC T X (.type "range") vs L1 K) : GE T X (.Call (.Name "range" p) (e :: es) [] pos) σ L K := ge_callTy (n.gl h) hm (by decide +kernel) (by decide) rfl he hpl q
theorem gb_abs (n : Nm X N ks) (h : Kd ks "abs" .globalImplicit) (hm : X.mg "abs" = none) (he : starEach (e :: es) X.env = (false, eval e X.env) :: starEach es X.env) (hpl : (backTo pos (starEach es X.env)).any (·.1) = false)
    (q : GA T X (e :: es) σ L fun vs L1 => GC T X (.builtin "abs") vs L1 K) : GE T X (.Call (.Name "abs" p) (e :: es) [] pos) σ L K := ge_callB (n.gl h) hm (by decide +kernel) (by decide) rfl he hpl q
theorem gb_len (n : Nm X N ks) (h : Kd ks "len" .globalImplicit) (hm : X.mg "len" = none) (he : starEach (e :: es) X.env = (false, eval e X.env) :: starEach es X.env) (hpl : (backTo pos (starEach es X.env)).any (·.1) = false)
    (q : GA T X (e :: es) σ L fun vs L1 => GC T X (.builtin "len") vs L1 K) : GE T X (.Call (.Name "len" p) (e :: es) [] pos) σ L K := ge_callB (n.gl h) hm (by decide +kernel) (by decide) rfl he hpl q
theorem gb_min (n : Nm X N ks) (h : Kd ks "min" .globalImplicit) (hm : X.mg "min" = none) (he : starEach (e :: es) X.env = (false, eval e X.env) :: starEach es X.env) (hpl : (backTo pos (starEach es X.env)).any (·.1) = false)
    (q : GA T X (e :: es) σ L fun vs L1 => GC T X (.builtin "min") vs L1 K) : GE T X (.Call (.Name "min" p) (e :: es) [] pos) σ L K := ge_callB (n.gl h) hm (by decide +kernel) (by decide) rfl he hpl q
theorem gb_max (n : Nm X N ks) (h : Kd ks "max" .globalImplicit) (hm : X.mg "max" = none) (he : starEach (e :: es) X.env = (false, eval e X.env) :: starEach es X.env) (hpl : (backTo pos (starEach es X.env)).any (·.1) = false)
    (q : GA T X (e :: es) σ L fun vs L1 => GC T X (.builtin "max") vs L1 K) : GE T X (.Call (.Name "max" p) (e :: es) [] pos) σ L K := ge_callB (n.gl h) hm (by decide +kernel) (by decide) rfl he hpl q
theorem gb_sum (n : Nm X N ks) (h : Kd ks "sum" .globalImplicit) (hm : X.mg "sum" = none) (he : starEach (e :: es) X.env = (false, eval e X.env) :: starEach es X.env) (hpl : (backTo pos (starEach es X.env)).any (·.1) = false)
    (q : GA T X (e :: es) σ L fun vs L1 => GC T X (.builtin "sum") vs L1 K) : GE T X (.Call (.Name "sum" p) (e :: es) [] pos) σ L K := ge_callB (n.gl h) hm (by decide +kernel) (by decide) rfl he hpl q
theorem gb_sorted (n : Nm X N ks) (h : Kd ks "sorted" .globalImplicit) (hm : X.mg "sorted" = none) (he : starEach (e :: es) X.env = (false, eval e X.env) :: starEach es X.env) (hpl : (backTo pos (starEach es X.env)).any (·.1) = false)
    (q : GA T X (e :: es) σ L fun vs L1 => GC T X (.builtin "sorted") vs L1 K) : GE T X (.Call (.Name "sorted" p) (e :: es) [] pos) σ L K := ge_callB (n.gl h) hm (by decide +kernel) (by decide) rfl he hpl q
theorem gb_any (n : Nm X N ks) (h : Kd ks "any" .globalImplicit) (hm : X.mg "any" = none) (he : starEach (e :: es) X.env = (false, eval e X.env) :: starEach es X.env) (hpl : (backTo pos (starEach es X.env)).any (·.1) = false)
    (q : GA T X (e :: es) σ L fun vs L1 => GC T X (.builtin "any") vs L1 K) : GE T X (.Call (.Name "any" p) (e :: es) [] pos) σ L K := ge_callB (n.gl h) hm (by decide +kernel) (by decide) rfl he hpl q
theorem gb_all (n : Nm X N ks) (h : Kd ks "all" .globalImplicit) (hm : X.mg "all" = none) (he : starEach (e :: es) X.env = (false, eval e X.env) :: starEach es X.env) (hpl : (backTo pos (starEach es X.env)).any (·.1) = false)
    (q : GA T X (e :: es) σ L fun vs L1 => GC T X (.builtin "all") vs L1 K) : GE T X (.Call (.Name "all" p) (e :: es) [] pos) σ L K := ge_callB (n.gl h) hm (by decide +kernel) (by decide) rfl he hpl q
theorem gb_ord (n : Nm X N ks) (h : Kd ks "ord" .globalImplicit) (hm : X.mg "ord" = none) (he : starEach (e :: es) X.env = (false, eval e X.env) :: starEach es X.env) (hpl : (backTo pos (starEach es X.env)).any (·.1) = false)
    (q : GA T X (e :: es) σ L fun vs L1 => GC T X (.builtin "ord") vs L1 K) : GE T X (.Call (.Name "ord" p) (e :: es) [] pos) σ L K := ge_callB (n.gl h) hm (by decide +kernel) (by decide) rfl he hpl q
end
/-! ### the entry of a def -/
section
variable {T : List (Addr × Str)} {P : Program} {w : World} {K : PySem.W.Frag} {mg : Str → Option Value} {base : Heap} {x qual : Str} {pa : Arguments} {bd : List Stmt} {sc : Scope} {f : Addr} {fd : FuncData} {N ps : List Str} {ks : List (Str × NameKind)} {k : Nat} {S : SpL}
abbrev bx (P : Program) (w : World) (K : PySem.W.Frag) (mg : Str → Option Value) (base : Heap) (N : List Str) (qual : Str) (sc : Scope) (f : Addr) (cdv : Value) (A : Around) (outer : List Env) (s : Shared) (H : Hp) (E : XK) : Cx := cxOf (L2.CX P w) P w K mg base N qual sc f cdv A outer s H E
structure DefSc (N ps : List Str) (ks : List (Str × NameKind)) (sc : Scope) : Prop where
  fs : FnScope N ps sc
  kseq : sc.names = ks
  kd : (ks.map (·.1)).Nodup
theorem def_ok (F : FunD K x qual pa bd sc [] [] f fd) (S0 : DefSc N ps ks sc) (hl : ∀ vs L K kx, S vs L K kx → vs.length = ps.length)
    (hb : ∀ (cdv : Value) (A : Around) (outer : List Env) (s : Shared) (H : Hp) (E : XK), Room k (bx P w K mg base N qual sc f cdv A outer s H E).A → Nm (bx P w K mg base N qual sc f cdv A outer s H E) N ks → ∀ (vs : List V) (L : List SA) (KK : GK) (kx : KX), S vs L KK kx →
      Xok T (bx P w K mg base N qual sc f cdv A outer s H E) kx → ∀ σ, σ = start N vs → GSs T (bx P w K mg base N qual sc f cdv A outer s H E) bd { nx := fun _ L => KK .non L, rt := KK } σ L) :
    FnOk P w K mg base (L2.CX P w) (k + 1) f fd ps (spOf T S) := by
  refine F.ok S0.fs (fun vs H Q E ⟨L, KK, kx, _, h, _⟩ => hl vs L KK kx h) fun cdv A outer s H vs Q E hr hsp => ?_
  obtain ⟨L, KK, kx, hs, h, q, qx⟩ := hsp
  have hx : Xok T (bx P w K mg base N qual sc f cdv A outer s H E) kx := ⟨fun cls d _ H => E cls d H, takes_of rfl rfl rfl rfl, fun cls d σ L H k h => qx cls d L H k h⟩
  have g := hb cdv A outer s H E hr ⟨rfl, S0.kseq, S0.fs.nd, S0.kd⟩ vs L KK kx h hx _ rfl
  exact ⟨_, pssW, g H hs _ ⟨fun σ' L' H' k h => q _ _ _ k h, q, fun _ _ _ k => k.elim, fun _ _ _ k => k.elim⟩⟩
theorem binds1 {a : Str} (F : FunD K x qual pa bd sc [] [] f fd)
    (h : ∀ (kV doc pm : Value) (an : Option Addr) (cdv ct u : Value), bindArgs (PySem.W.fnOf x qual pa bd sc .none kV doc pm an cdv ct) ⟨[u], []⟩ = pure [(a, u)]) : Binds K fd [a] [] :=
  F.bindsN fun kV doc pm an cdv ct us hl => match us, hl with | [u], _ => h kV doc pm an cdv ct u
end
end SW
set_option Elab.async false
set_option linter.all false
set_option maxRecDepth 100000
set_option maxHeartbeats 2000000
/-! Sw4: data that never changes (tuples), lists of such. -/
namespace SW
open PySem PySem.Spec L2
open PyProof.Rows hiding St
/-- all tuples of h are tuples of h' -/
def TupLe (h h' : Hp) : Prop := ∀ a xs, h a = some (.tup xs) → h' a = some (.tup xs)
theorem Sub.tup {h H : Hp} (s : Sub h H) : TupLe h H := fun a xs e => (s a _ e).1
def tupOf (H : Hp) : Hp := fun a => match H a with | some (.tup xs) => some (.tup xs) | _ => none
theorem tupOf_some {H : Hp} {a : Addr} {o : HO} (e : tupOf H a = some o) : ∃ xs, o = .tup xs ∧ H a = some (.tup xs) := by
  unfold tupOf at e
  split at e
  · rename_i xs q; cases e; exact ⟨xs, rfl, q⟩
  · cases e
theorem tupOf_le (H : Hp) : TupLe H (tupOf H) := fun a xs e => by unfold tupOf; rw [e]
theorem tupOf_sub (H : Hp) : Sub (tupOf H) H := fun a o e => by
  obtain ⟨xs, rfl, q⟩ := tupOf_some e
  exact ⟨q, fun _ => nofun⟩
/-- what speaks of tuples alone -/
def Pers (F : SA) : Prop := ∀ h h', TupLe h h' → F h → F h'
section
variable {T : List (Addr × Str)} {L : List SA} {A F : SA} {H : Hp}
theorem Pcs.addP (hF : Pers F) (h : Pcs L H) (f : F H) : Pcs (F :: L) H := by
  obtain ⟨ps, h1, h2, h3⟩ := h
  refine ⟨tupOf H :: ps, .cons (hF _ _ (tupOf_le H) f) h1, List.pairwise_cons.mpr ⟨fun g hg a o e1 e2 => ?_, h2⟩, fun g hg => ?_⟩
  · obtain ⟨xs, e, _⟩ := tupOf_some e1
    exact ⟨xs, e⟩
  · rcases List.mem_cons.mp hg with rfl | hg
    · exact tupOf_sub H
    · exact h3 g hg
theorem Hs.addP (hF : Pers F) (h : Hs T L H) (f : F H) : Hs T (F :: L) H := ⟨h.tabs, h.pcs.addP hF f⟩
theorem Hs.getP {R : List SA} (hF : Pers F) (s : Sel L F R) (h : Hs T L H) : F H := by
  obtain ⟨ps, h1, _, h3⟩ := (h.sel s).pcs
  cases h1 with
  | cons r t => exact hF _ _ (h3 _ List.mem_cons_self).tup r
/-- a fact that a piece tells -/
theorem Hs.factP {R : List SA} {φ : Prop} (f : ∀ g, A g → Sub g H → φ) (s : Sel L A R) (h : Hs T L H) : φ := (h.sel s).pcs.factH f
end
/-! ### representations -/
structure PRep (α : Type) where
  rel : Hp → V → α → Prop
  mono : ∀ {h h' : Hp} {v : V} {d : α}, TupLe h h' → rel h v d → rel h' v d
  enc : α → PyData
  dp : ∀ {K : PySem.W.Frag} {h : Hp} {v : V} {d : α}, rel h v d → Dp K h v (enc d)
  ok : ∀ {h : Hp} {v : V} {d : α}, rel h v d → (enc d).canLay0 = true
  dep : Nat
  hdep : ∀ d, (enc d).depth ≤ dep
  eqv : ∀ a b, PyData.eqv (enc a) (enc b) = true ↔ a = b
/-- the value is told by the datum alone -/
structure SRep {α : Type} (R : PRep α) (f : α → V) : Prop where
  to : ∀ {h : Hp} {v : V} {d : α}, R.rel h v d → v = f d
def A2r {α : Type} (R : PRep α) (h : Hp) (xs : List V) (ds : List α) : Prop := A2 (fun v d => R.rel h v d) xs ds
theorem A2r.mono {α : Type} {R : PRep α} {h h' : Hp} {xs : List V} {ds : List α} (t : TupLe h h') (a : A2r R h xs ds) : A2r R h' xs ds := A2.imp (fun _ _ r => R.mono t r) a
theorem A2r.dp {α : Type} {R : PRep α} {K : PySem.W.Frag} {h : Hp} {xs : List V} {ds : List α} (a : A2r R h xs ds) : DpAll K h xs (ds.map R.enc) := by
  induction a with
  | nil => exact .nil
  | cons r _ ih => exact .cons (R.dp r) ih
theorem A2r.ok {α : Type} {R : PRep α} {h : Hp} {xs : List V} {ds : List α} (a : A2r R h xs ds) : PyData.canLayAll0 (ds.map R.enc) = true := by
  induction a with
  | nil => rfl
  | cons r _ ih =>
    show PyData.canLayAll0 (R.enc _ :: _) = true
    simp only [PyData.canLayAll0, R.ok r, Bool.true_and]
    exact ih
theorem depthAll_le {α : Type} {R : PRep α} (ds : List α) : PyData.depthAll (ds.map R.enc) ≤ R.dep := by
  induction ds with
  | nil => exact Nat.zero_le _
  | cons d ds ih =>
    show PyData.depthAll (R.enc d :: ds.map R.enc) ≤ _
    simp only [PyData.depthAll]
    exact Nat.max_le.mpr ⟨R.hdep d, ih⟩
theorem eqvAll_iff {α : Type} {R : PRep α} : ∀ as bs : List α, PyData.eqvAll (as.map R.enc) (bs.map R.enc) = true ↔ as = bs
  | [], [] => by simp [PyData.eqvAll]
  | [], b :: bs => by simp [PyData.eqvAll]
  | a :: as, [] => by simp [PyData.eqvAll]
  | a :: as, b :: bs => by
    simp only [List.map_cons, PyData.eqvAll, Bool.and_eq_true, R.eqv, eqvAll_iff as bs, List.cons.injEq]
theorem A2r.length {α : Type} {R : PRep α} {h : Hp} {xs : List V} {ds : List α} (a : A2r R h xs ds) : xs.length = ds.length := A2.length a
theorem A2r.get {α : Type} {R : PRep α} {h : Hp} {xs : List V} {ds : List α} (a : A2r R h xs ds) : ∀ {i : Nat} {d : α}, ds[i]? = some d → ∃ x, xs[i]? = some x ∧ R.rel h x d := by
  induction a with
  | nil => intro i d e; simp at e
  | cons r t ih =>
    intro i d e
    cases i with
    | zero => simp at e; subst e; exact ⟨_, rfl, r⟩
    | succ i => obtain ⟨x, e1, e2⟩ := ih (by simpa using e); exact ⟨x, by simpa using e1, e2⟩
theorem A2r.get' {α : Type} {R : PRep α} {h : Hp} {xs : List V} {ds : List α} (a : A2r R h xs ds) : ∀ {i : Nat} {x : V}, xs[i]? = some x → ∃ d, ds[i]? = some d ∧ R.rel h x d := by
  induction a with
  | nil => intro i d e; simp at e
  | cons r t ih =>
    intro i d e
    cases i with
    | zero => simp at e; subst e; exact ⟨_, rfl, r⟩
    | succ i => obtain ⟨x, e1, e2⟩ := ih (by simpa using e); exact ⟨x, by simpa using e1, e2⟩
theorem A2r.take {α : Type} {R : PRep α} {h : Hp} {xs : List V} {ds : List α} (a : A2r R h xs ds) : ∀ n, A2r R h (xs.take n) (ds.take n) := by
  induction a with
  | nil => intro n; simp; exact .nil
  | cons r t ih => intro n; cases n with
    | zero => exact .nil
    | succ n => exact .cons r (ih n)
theorem A2r.drop {α : Type} {R : PRep α} {h : Hp} {xs : List V} {ds : List α} (a : A2r R h xs ds) : ∀ n, A2r R h (xs.drop n) (ds.drop n) := by
  induction a with
  | nil => intro n; simp; exact .nil
  | cons r t ih => intro n; cases n with
    | zero => exact .cons r t
    | succ n => exact ih n
theorem A2r.snoc {α : Type} {R : PRep α} {h : Hp} {xs : List V} {ds : List α} {x : V} {d : α} (a : A2r R h xs ds) (r : R.rel h x d) : A2r R h (xs ++ [x]) (ds ++ [d]) := A2.append a (.cons r .nil)
theorem A2r.app {α : Type} {R : PRep α} {h : Hp} {xs ys : List V} {ds es : List α} (a : A2r R h xs ds) (r : A2r R h ys es) : A2r R h (xs ++ ys) (ds ++ es) := A2.append a r
def rInt : PRep Int where
  rel := fun _ v d => v = .int d
  mono := fun _ h => h
  enc := .int
  dp := fun h => by subst h; exact .int _
  ok := fun _ => rfl
  dep := 0
  hdep := fun _ => Nat.le_refl _
  eqv := fun a b => by simp [PyData.eqv]
def rBl : PRep Bool where
  rel := fun _ v d => v = .bl d
  mono := fun _ h => h
  enc := .bool
  dp := fun h => by subst h; exact .bl _
  ok := fun _ => rfl
  dep := 0
  hdep := fun _ => Nat.le_refl _
  eqv := fun a b => by simp [PyData.eqv]
def rStr : PRep Str where
  rel := fun _ v d => v = .str d ∧ PySem.PyData.canLay0 (.str d) = true
  mono := fun _ h => h
  enc := .str
  dp := fun h => by obtain ⟨h, _⟩ := h; subst h; exact .str _
  ok := fun h => h.2
  dep := 0
  hdep := fun _ => Nat.le_refl _
  eqv := fun a b => by simp [PyData.eqv]
def vOpt : Option Str → V | none => .non | some s => .str s
def eOpt : Option Str → PyData | none => .none | some s => .str s
def rOpt : PRep (Option Str) where
  rel := fun _ v d => v = vOpt d ∧ PySem.PyData.canLay0 (eOpt d) = true
  mono := fun _ h => h
  enc := eOpt
  dp := fun {K h v d} q => by obtain ⟨q, _⟩ := q; subst q; cases d with
    | none => exact .non
    | some s => exact .str _
  ok := fun h => h.2
  dep := 0
  hdep := fun d => by cases d <;> exact Nat.le_refl _
  eqv := fun a b => by cases a <;> cases b <;> simp [PyData.eqv, eOpt]
theorem sInt : SRep rInt V.int := ⟨fun h => h⟩
theorem sBl : SRep rBl V.bl := ⟨fun h => h⟩
theorem sStr : SRep rStr V.str := ⟨fun h => h.1⟩
theorem sOpt : SRep rOpt vOpt := ⟨fun h => h.1⟩
theorem depth_tup {ds : List PyData} {n : Nat} (h : PyData.depthAll ds ≤ n) : (PyData.tuple ds).depth ≤ n + 1 := by simp only [PyData.depth]; omega
section
variable {α β γ δ : Type}
def rPair (R : PRep α) (S : PRep β) : PRep (α × β) where
  rel := fun h v d => ∃ a x y, v = .ref a ∧ h a = some (.tup [x, y]) ∧ R.rel h x d.1 ∧ S.rel h y d.2
  mono := fun t ⟨a, x, y, e, h, r, s⟩ => ⟨a, x, y, e, t _ _ h, R.mono t r, S.mono t s⟩
  enc := fun d => .tuple [R.enc d.1, S.enc d.2]
  dp := fun ⟨a, x, y, e, h, r, s⟩ => by subst e; exact .tup (SqT.of h) (.cons (R.dp r) (.cons (S.dp s) .nil))
  ok := fun ⟨a, x, y, e, h, r, s⟩ => by simp only [PyData.canLay0, PyData.canLayAll0, R.ok r, S.ok s, Bool.and_self]
  dep := max R.dep S.dep + 1
  hdep := fun d => depth_tup (by simp only [PyData.depthAll]; have := R.hdep d.1; have := S.hdep d.2; omega)
  eqv := fun a b => by simp only [PyData.eqv, PyData.eqvAll, Bool.and_true, Bool.and_eq_true, R.eqv, S.eqv]; exact ⟨fun ⟨x, y⟩ => Prod.ext x y, fun e => by subst e; exact ⟨rfl, rfl⟩⟩
def rTri (R : PRep α) (S : PRep β) (U : PRep γ) : PRep (α × β × γ) where
  rel := fun h v d => ∃ a x y z, v = .ref a ∧ h a = some (.tup [x, y, z]) ∧ R.rel h x d.1 ∧ S.rel h y d.2.1 ∧ U.rel h z d.2.2
  mono := fun t ⟨a, x, y, z, e, h, r, s, u⟩ => ⟨a, x, y, z, e, t _ _ h, R.mono t r, S.mono t s, U.mono t u⟩
  enc := fun d => .tuple [R.enc d.1, S.enc d.2.1, U.enc d.2.2]
  dp := fun ⟨a, x, y, z, e, h, r, s, u⟩ => by subst e; exact .tup (SqT.of h) (.cons (R.dp r) (.cons (S.dp s) (.cons (U.dp u) .nil)))
  ok := fun ⟨a, x, y, z, e, h, r, s, u⟩ => by simp only [PyData.canLay0, PyData.canLayAll0, R.ok r, S.ok s, U.ok u, Bool.and_self]
  dep := max R.dep (max S.dep U.dep) + 1
  hdep := fun d => depth_tup (by simp only [PyData.depthAll]; have := R.hdep d.1; have := S.hdep d.2.1; have := U.hdep d.2.2; omega)
  eqv := fun a b => by
    simp only [PyData.eqv, PyData.eqvAll, Bool.and_true, Bool.and_eq_true, R.eqv, S.eqv, U.eqv]
    exact ⟨fun ⟨x, y, z⟩ => Prod.ext x (Prod.ext y z), fun e => by subst e; exact ⟨rfl, rfl, rfl⟩⟩
def rQuad (R : PRep α) (S : PRep β) (U : PRep γ) (W : PRep δ) : PRep (α × β × γ × δ) where
  rel := fun h v d => ∃ a x y z w, v = .ref a ∧ h a = some (.tup [x, y, z, w]) ∧ R.rel h x d.1 ∧ S.rel h y d.2.1 ∧ U.rel h z d.2.2.1 ∧ W.rel h w d.2.2.2
  mono := fun t ⟨a, x, y, z, w, e, h, r, s, u, k⟩ => ⟨a, x, y, z, w, e, t _ _ h, R.mono t r, S.mono t s, U.mono t u, W.mono t k⟩
  enc := fun d => .tuple [R.enc d.1, S.enc d.2.1, U.enc d.2.2.1, W.enc d.2.2.2]
  dp := fun ⟨a, x, y, z, w, e, h, r, s, u, k⟩ => by subst e; exact .tup (SqT.of h) (.cons (R.dp r) (.cons (S.dp s) (.cons (U.dp u) (.cons (W.dp k) .nil))))
  ok := fun ⟨a, x, y, z, w, e, h, r, s, u, k⟩ => by simp only [PyData.canLay0, PyData.canLayAll0, R.ok r, S.ok s, U.ok u, W.ok k, Bool.and_self]
  dep := max R.dep (max S.dep (max U.dep W.dep)) + 1
  hdep := fun d => depth_tup (by simp only [PyData.depthAll]; have := R.hdep d.1; have := S.hdep d.2.1; have := U.hdep d.2.2.1; have := W.hdep d.2.2.2; omega)
  eqv := fun a b => by
    simp only [PyData.eqv, PyData.eqvAll, Bool.and_true, Bool.and_eq_true, R.eqv, S.eqv, U.eqv, W.eqv]
    exact ⟨fun ⟨x, y, z, w⟩ => Prod.ext x (Prod.ext y (Prod.ext z w)), fun e => by subst e; exact ⟨rfl, rfl, rfl, rfl⟩⟩
/-- a tuple of any number of such -/
def rTl (R : PRep α) : PRep (List α) where
  rel := fun h v ds => ∃ a xs, v = .ref a ∧ h a = some (.tup xs) ∧ A2r R h xs ds
  mono := fun t ⟨a, xs, e, h, r⟩ => ⟨a, xs, e, t _ _ h, r.mono t⟩
  enc := fun ds => .tuple (ds.map R.enc)
  dp := fun ⟨a, xs, e, h, r⟩ => by subst e; exact .tup (SqT.of h) r.dp
  ok := fun ⟨a, xs, e, h, r⟩ => by simp only [PyData.canLay0]; exact r.ok
  dep := R.dep + 1
  hdep := fun ds => depth_tup (depthAll_le ds)
  eqv := fun a b => by simp only [PyData.eqv]; exact eqvAll_iff a b
/-- a list of such, in one piece -/
def LstR (R : PRep α) (l : Addr) (ds : List α) : SA := fun h => ∃ xs, h l = some (.lst xs) ∧ A2r R h xs ds
def Val (R : PRep α) (v : V) (d : α) : SA := fun h => R.rel h v d
theorem Val.pers {R : PRep α} {v : V} {d : α} : Pers (Val R v d) := fun _ _ t r => R.mono t r
end
/-! ### rows entailed -/
def Ent (T : List (Addr × Str)) (L L' : List SA) : Prop := ∀ H, Hs T L H → Hs T L' H
section
variable {T : List (Addr × Str)} {L L' L1 L2 R W : List SA} {A B : SA}
theorem Ent.refl : Ent T L L := fun _ h => h
theorem Ent.trans (a : Ent T L L1) (b : Ent T L1 L2) : Ent T L L2 := fun H h => b H (a H h)
theorem Ent.tk (t : Tk L W R) : Ent T L (W ++ R) := fun _ h => h.take t
theorem Ent.only (t : Tk L W R) : Ent T L W := fun _ h => h.only t
theorem Ent.perm (p : L.Perm L') : Ent T L L' := fun _ h => h.perm p
theorem Ent.imp (f : ∀ h, A h → B h) : Ent T (A :: L) (B :: L) := fun H h => h.imp f
theorem Ent.fold : Ent T (L1 ++ L) ((fun g => Pcs L1 g) :: L) := fun H h => ⟨h.tabs, h.pcs.fold⟩
theorem Ent.unf : Ent T ((fun g => Pcs L1 g) :: L) (L1 ++ L) := fun H h => ⟨h.tabs, h.pcs.unf⟩
/-- a rewriting of what was taken out -/
theorem Ent.at (t : Tk L W R) (e : Ent T (W ++ R) L') : Ent T L L' := fun H h => e H (h.take t)
end
/-- rows that the rows at hand hold, found piece by piece -/
def Fit (L W : List SA) : Prop := ∀ H, Pcs L H → Pcs W H
def Cv (A B : SA) : Prop := ∀ h, A h → B h
theorem Cv.id {A : SA} : Cv A A := fun _ h => h
theorem Cv.pt {a : Addr} {o o' : HO} (e : o = o') : Cv (pt a o) (pt a o') := fun _ h => by rw [← e]; exact h
theorem Cv.lst {α : Type} {R : PRep α} {a : Addr} {ds ds' : List α} (e : ds = ds') : Cv (LstR R a ds) (LstR R a ds') := fun _ h => by rw [← e]; exact h
theorem Cv.val {α : Type} {R : PRep α} {v : V} {d d' : α} (e : d = d') : Cv (Val R v d) (Val R v d') := fun _ h => by rw [← e]; exact h
theorem Cv.lst0 {α : Type} {R : PRep α} {a : Addr} : Cv (SW.pt a (.lst [])) (LstR R a []) := fun h e => ⟨[], e, .nil⟩
theorem Cv.fold {L W : List SA} (f : Fit L W) : Cv (fun g => Pcs L g) (fun g => Pcs W g) := fun h p => f h p
theorem Pcs.cons2 {A B : SA} {L W : List SA} {H : Hp} (c : Cv A B) (t : Fit L W) (h : Pcs (A :: L) H) : Pcs (B :: W) H := by
  have k : Pcs (L ++ [A]) H := h.perm (List.perm_append_comm (l₁ := [A]) (l₂ := L))
  have k2 : Pcs ((fun g => Pcs L g) :: [A]) H := k.fold
  have k3 : Pcs ((fun g => Pcs W g) :: [A]) H := k2.imp fun g hg => t g hg
  have k4 := k3.unf.perm (List.perm_append_comm (l₁ := W) (l₂ := [A]))
  exact Pcs.imp (fun g x => c g x) k4
theorem Fit.refl {L : List SA} : Fit L L := fun _ h => h
theorem Fit.nil {L : List SA} : Fit L [] := fun _ _ => Pcs.nil
theorem Fit.drop {A : SA} {L W : List SA} (t : Fit L W) : Fit (A :: L) W := fun H h => t H h.tail
theorem Fit.cons {L R W : List SA} {A B : SA} (s : Sel L A R) (c : Cv A B) (t : Fit R W) : Fit L (B :: W) := fun H h => (h.perm s.perm).cons2 c t
theorem Fit.ent {T : List (Addr × Str)} {L W : List SA} (f : Fit L W) : Ent T L W := fun H h => ⟨h.tabs, f H h.pcs⟩
/-- one wished for piece, found -/
inductive SelC : List SA → SA → List SA → Prop
  | here {A B L} (c : Cv A B) : SelC (A :: L) B L
  | there {A B L R} (s : SelC L B R) : SelC (A :: L) B (A :: R)
theorem SelC.ex {L R : List SA} {B : SA} (h : SelC L B R) : ∃ A, Sel L A R ∧ Cv A B := by
  induction h with
  | here c => exact ⟨_, .here, c⟩
  | there _ ih => obtain ⟨A, s, c⟩ := ih; exact ⟨A, .there s, c⟩
theorem Fit.find {L R W : List SA} {B : SA} (s : SelC L B R) (t : Fit R W) : Fit L (B :: W) := by
  obtain ⟨A, s, c⟩ := s.ex
  exact .cons s c t
end SW
set_option Elab.async false
set_option linter.all false
set_option maxRecDepth 100000
set_option maxHeartbeats 2000000
/-! Sw5: what values stand for; lists, tuples, targets, loops, comprehensions. -/
namespace SW
open PySem PySem.Spec L2
open PyProof.Rows hiding St
/-! ### v stands for d -/
def Rv (T : List (Addr × Str)) (L : List SA) {α : Type} (v : V) (R : PRep α) (d : α) : Prop := ∀ H, Hs T L H → R.rel H v d
structure Scal {α : Type} (R : PRep α) (f : α → V) (good : α → Prop) : Prop where
  to : ∀ {h : Hp} {v : V} {d : α}, R.rel h v d → v = f d ∧ good d
  of : ∀ {h : Hp} {d : α}, good d → R.rel h (f d) d
def strGood (s : Str) : Prop := PyData.canLay0 (.str s) = true
def optGood (s : Option Str) : Prop := PyData.canLay0 (eOpt s) = true
theorem cInt : Scal rInt V.int (fun _ => True) := ⟨fun h => ⟨h, True.intro⟩, fun _ => rfl⟩
theorem cBl : Scal rBl V.bl (fun _ => True) := ⟨fun h => ⟨h, True.intro⟩, fun _ => rfl⟩
theorem cStr : Scal rStr V.str strGood := ⟨fun h => h, fun h => ⟨rfl, h⟩⟩
theorem cOpt : Scal rOpt vOpt optGood := ⟨fun h => h, fun h => ⟨rfl, h⟩⟩
section
variable {T : List (Addr × Str)} {L L' R' : List SA} {α β γ δ : Type} {R : PRep α} {S : PRep β} {U : PRep γ} {W : PRep δ} {v x y z w : V} {a : Addr}
theorem rv_val {d : α} (s : Sel L (Val R v d) R') : Rv T L v R d := fun H h => h.getP Val.pers s
theorem rv_scal {f : α → V} {g : α → Prop} {d : α} (c : Scal R f g) (h : g d) : Rv T L (f d) R d := fun _ _ => c.of h
theorem rv_int {i : Int} : Rv T L (.int i) rInt i := fun _ _ => rfl
theorem rv_bl {i : Bool} : Rv T L (.bl i) rBl i := fun _ _ => rfl
theorem rv_str {s : Str} (h : strGood s) : Rv T L (.str s) rStr s := fun _ _ => ⟨rfl, h⟩
theorem rv_pair {d : α} {e : β} (s : Sel L (pt a (.tup [x, y])) R') (h1 : Rv T L x R d) (h2 : Rv T L y S e) : Rv T L (.ref a) (rPair R S) (d, e) := fun H h => ⟨a, x, y, rfl, h.at s, h1 H h, h2 H h⟩
theorem rv_tri {d : α} {e : β} {c : γ} (s : Sel L (pt a (.tup [x, y, z])) R') (h1 : Rv T L x R d) (h2 : Rv T L y S e) (h3 : Rv T L z U c) : Rv T L (.ref a) (rTri R S U) (d, e, c) := fun H h => ⟨a, x, y, z, rfl, h.at s, h1 H h, h2 H h, h3 H h⟩
theorem rv_quad {d : α} {e : β} {c : γ} {b : δ} (s : Sel L (pt a (.tup [x, y, z, w])) R') (h1 : Rv T L x R d) (h2 : Rv T L y S e) (h3 : Rv T L z U c) (h4 : Rv T L w W b) : Rv T L (.ref a) (rQuad R S U W) (d, e, c, b) :=
  fun H h => ⟨a, x, y, z, w, rfl, h.at s, h1 H h, h2 H h, h3 H h, h4 H h⟩
theorem rv_tl0 {R : PRep α} (s : Sel L (pt a (.tup [])) R') : Rv T L (.ref a) (rTl R) [] := fun H h => ⟨a, [], rfl, h.at s, .nil⟩
/-- keep a fact -/
theorem GE.note {X : Cx} {e : Expr} {σ : St} {K : GK} {d : α} (r : Rv T L v R d) (h : GE T X e σ (Val R v d :: L) K) : GE T X e σ L K := fun H hs Q q => h H (hs.addP Val.pers (r H hs)) Q q
/-! ### equality of data -/
def Sees (T : List (Addr × Str)) (KK : PySem.W.Frag) (L : List SA) (v : V) (d : PyData) : Prop := ∀ H, Hs T L H → Dp KK H v d ∧ SeqAt.shaped d = true
theorem shaped_of {d : PyData} (h : d.canLay0 = true) (n : d.depth ≤ 64) : SeqAt.shaped d = true := by unfold SeqAt.shaped; rw [h, Bool.true_and]; exact decide_eq_true n
theorem sees_rv {KK : PySem.W.Frag} {d : α} (r : Rv T L v R d) (n : R.dep ≤ 64) : Sees T KK L v (R.enc d) := fun H h => ⟨R.dp (r H h), shaped_of (R.ok (r H h)) (Nat.le_trans (R.hdep d) n)⟩
theorem depth_lst {ds : List PyData} {n : Nat} (h : PyData.depthAll ds ≤ n) : (PyData.list ds).depth ≤ n + 1 := by simp only [PyData.depth]; omega
theorem sees_lst {KK : PySem.W.Frag} {l : Addr} {ds : List α} (s : Sel L (LstR R l ds) R') (n : R.dep ≤ 63) : Sees T KK L (.ref l) (.list (ds.map R.enc)) := fun H h =>
  h.factP (fun g ⟨xs, e, r⟩ sub => ⟨.lst (SqL.of (sub l _ e).1) (r.mono sub.tup).dp, shaped_of (by simp only [PyData.canLay0]; exact r.ok) (Nat.le_trans (depth_lst (depthAll_le ds)) (by omega))⟩) s
theorem a2_map {f : α → V} {g : α → Prop} (c : Scal R f g) {h : Hp} {ds : List α} (k : ∀ d ∈ ds, g d) : A2r R h (ds.map f) ds := by
  induction ds with
  | nil => exact .nil
  | cons d ds ih => exact .cons (c.of (k d List.mem_cons_self)) (ih fun e he => k e (List.mem_cons_of_mem _ he))
theorem a2_scal {f : α → V} {g : α → Prop} (c : Scal R f g) {h : Hp} {xs : List V} {ds : List α} (k : A2r R h xs ds) : xs = ds.map f ∧ ∀ d ∈ ds, g d := by
  induction k with
  | nil => exact ⟨rfl, fun _ h => nomatch h⟩
  | cons r _ ih =>
    obtain ⟨e, q⟩ := c.to r
    refine ⟨by rw [e, ih.1]; rfl, fun d hd => ?_⟩
    rcases List.mem_cons.mp hd with rfl | hd
    · exact q
    · exact ih.2 d hd
theorem lstR_pt {f : α → V} {g : α → Prop} (c : Scal R f g) {l : Addr} {ds : List α} (k : ∀ d ∈ ds, g d) (h : Hp) (e : pt l (.lst (ds.map f)) h) : LstR R l ds h := ⟨_, e, a2_map c k⟩
theorem sees_pt {KK : PySem.W.Frag} {f : α → V} {g : α → Prop} (c : Scal R f g) {l : Addr} {ds : List α} (s : Sel L (pt l (.lst (ds.map f))) R') (k : ∀ d ∈ ds, g d) (n : R.dep ≤ 63) : Sees T KK L (.ref l) (.list (ds.map R.enc)) := fun H h => by
  have r : A2r R H (ds.map f) ds := a2_map c k
  exact ⟨.lst (SqL.of (h.at s)) r.dp, shaped_of (by simp only [PyData.canLay0]; exact r.ok) (Nat.le_trans (depth_lst (depthAll_le ds)) (by omega))⟩
theorem sees_nil {KK : PySem.W.Frag} {l : Addr} (s : Sel L (pt l (.lst [])) R') : Sees T KK L (.ref l) (.list []) := fun H h => ⟨.lst (SqL.of (h.at s)) .nil, rfl⟩
theorem sees_nilT {KK : PySem.W.Frag} {l : Addr} (s : Sel L (pt l (.tup [])) R') : Sees T KK L (.ref l) (.tuple []) := fun H h => ⟨.tup (SqT.of (h.at s)) .nil, rfl⟩
variable {X : Cx} {K : GK} {D : EndsL} {σ : St}
theorem go_eqE {dx dy : PyData} {b : Bool} {k : Nat} (hr : Room k X.A) (h1 : Sees T X.K L x dx) (h2 : Sees T X.K L y dy) (e : PyData.eqv dx dy = b) (q : K (.bl b) L) : GOp T X (compareOp .Eq) x y L K :=
  GOp.of (op_eqD hr.units) fun H hs Q q' => ⟨dx, dy, (h1 H hs).1, (h2 H hs).1, (h1 H hs).2, (h2 H hs).2, q' _ _ _ (by rw [e]; exact q) hs⟩
theorem go_neE {dx dy : PyData} {b : Bool} {k : Nat} (hr : Room k X.A) (h1 : Sees T X.K L x dx) (h2 : Sees T X.K L y dy) (e : PyData.eqv dx dy = b) (q : K (.bl (!b)) L) : GOp T X (compareOp .NotEq) x y L K :=
  GOp.of (op_neD hr.units) fun H hs Q q' => ⟨dx, dy, (h1 H hs).1, (h2 H hs).1, (h1 H hs).2, (h2 H hs).2, q' _ _ _ (by rw [e]; exact q) hs⟩
theorem bool_dec {b : Bool} {p : Prop} [Decidable p] (h : b = true ↔ p) : b = decide p := by
  cases b with
  | true => exact (decide_eq_true (h.mp rfl)).symm
  | false => exact (decide_eq_false fun q => by have := h.mpr q; cases this).symm
theorem eqv_lst [DecidableEq α] (as bs : List α) : PyData.eqv (.list (as.map R.enc)) (.list (bs.map R.enc)) = decide (as = bs) := bool_dec (by simp only [PyData.eqv]; exact eqvAll_iff as bs)
theorem eqv_enc [DecidableEq α] (a b : α) : PyData.eqv (R.enc a) (R.enc b) = decide (a = b) := bool_dec (R.eqv a b)
theorem eqv_nil [DecidableEq α] (as : List α) : PyData.eqv (.list (as.map R.enc)) (.list []) = decide (as = []) := by
  cases as with
  | nil => rfl
  | cons a as => rfl
theorem eqv_nilT [DecidableEq α] (as : List α) : PyData.eqv (.tuple (as.map R.enc)) (.tuple []) = decide (as = []) := by
  cases as with
  | nil => rfl
  | cons a as => rfl
/-! ### items of tuples -/
theorem GIx.fact {φ : Prop} {i : V} (f : ∀ H, Hs T L H → φ) (h : φ → GIx T X x i L K) : GIx T X x i L K := fun H hs Q q => h (f H hs) H hs Q q
theorem gi_of {p : Addr} {xs : List V} {i : Int} {v : V} (f : ∀ H, Hs T L H → H p = some (.tup xs)) (ha : atI xs i = some v) (k : K v L) : GIx T X (.ref p) (.int i) L K :=
  GIx.of ix_tup fun H hs Q q => ⟨p, xs, i, v, rfl, rfl, SqT.of (f H hs), ha, q _ L H k hs⟩
theorem gi_pair {f : α → V} {g : β → V} {cf : α → Prop} {cg : β → Prop} (c1 : Scal R f cf) (c2 : Scal S g cg) {d : α × β} {i : Int} {u : V} (r : Rv T L v (rPair R S) d) (ha : atI [f d.1, g d.2] i = some u) (k : K u L) : GIx T X v (.int i) L K := by
  intro H hs Q q
  obtain ⟨a, x, y, rfl, e, h1, h2⟩ := r H hs
  obtain ⟨rfl, _⟩ := c1.to h1
  obtain ⟨rfl, _⟩ := c2.to h2
  exact GIx.of ix_tup (fun H' hs' Q' (q' : ∀ v L' H', K v L' → Hs T L' H' → Q' v H') => by
    obtain ⟨a', x', y', ea, e', h1', h2'⟩ := r H' hs'
    cases ea
    obtain ⟨rfl, _⟩ := c1.to h1'
    obtain ⟨rfl, _⟩ := c2.to h2'
    exact ⟨a, _, i, u, rfl, rfl, SqT.of e', ha, q' _ _ _ k hs'⟩) H hs Q q
theorem gi_tri {f : α → V} {g : β → V} {j : γ → V} {cf : α → Prop} {cg : β → Prop} {cj : γ → Prop} (c1 : Scal R f cf) (c2 : Scal S g cg) (c3 : Scal U j cj) {d : α × β × γ} {i : Int} {u : V} (r : Rv T L v (rTri R S U) d) (ha : atI [f d.1, g d.2.1, j d.2.2] i = some u) (k : K u L) : GIx T X v (.int i) L K := by
  intro H hs Q q
  obtain ⟨a, x, y, z, rfl, _⟩ := r H hs
  exact GIx.of ix_tup (fun H' hs' Q' (q' : ∀ v L' H', K v L' → Hs T L' H' → Q' v H') => by
    obtain ⟨a', x', y', z', ea, e', h1', h2', h3'⟩ := r H' hs'
    cases ea
    obtain ⟨rfl, _⟩ := c1.to h1'
    obtain ⟨rfl, _⟩ := c2.to h2'
    obtain ⟨rfl, _⟩ := c3.to h3'
    exact ⟨a, _, i, u, rfl, rfl, SqT.of e', ha, q' _ _ _ k hs'⟩) H hs Q q
theorem gi_quad {f : α → V} {g : β → V} {j : γ → V} {m : δ → V} {cf : α → Prop} {cg : β → Prop} {cj : γ → Prop} {cm : δ → Prop} (c1 : Scal R f cf) (c2 : Scal S g cg) (c3 : Scal U j cj) (c4 : Scal W m cm) {d : α × β × γ × δ} {i : Int} {u : V} (r : Rv T L v (rQuad R S U W) d)
    (ha : atI [f d.1, g d.2.1, j d.2.2.1, m d.2.2.2] i = some u) (k : K u L) : GIx T X v (.int i) L K := by
  intro H hs Q q
  obtain ⟨a, x, y, z, w, rfl, _⟩ := r H hs
  exact GIx.of ix_tup (fun H' hs' Q' (q' : ∀ v L' H', K v L' → Hs T L' H' → Q' v H') => by
    obtain ⟨a', x', y', z', w', ea, e', h1', h2', h3', h4'⟩ := r H' hs'
    cases ea
    obtain ⟨rfl, _⟩ := c1.to h1'
    obtain ⟨rfl, _⟩ := c2.to h2'
    obtain ⟨rfl, _⟩ := c3.to h3'
    obtain ⟨rfl, _⟩ := c4.to h4'
    exact ⟨a, _, i, u, rfl, rfl, SqT.of e', ha, q' _ _ _ k hs'⟩) H hs Q q
/-- an item of a list of data -/
theorem gi_lstR {l : Addr} {ds : List α} {n : Nat} {d : α} (s : Sel L (LstR R l ds) R') (e : ds[n]? = some d) (k : ∀ v, K v (Val R v d :: L)) : GIx T X (.ref l) (.int (n : Int)) L K := by
  intro H hs Q q
  obtain ⟨xs, x, h1, h2, h3⟩ : ∃ xs x, H l = some (.lst xs) ∧ xs[n]? = some x ∧ R.rel H x d := hs.factP (fun g ⟨xs, e1, r⟩ sub => by
    obtain ⟨x, e2, r2⟩ := r.get e
    exact ⟨xs, x, (sub l _ e1).1, e2, R.mono sub.tup r2⟩) s
  intro value slice pins s' σ v u I rx ry z
  exact ix_list value slice pins s' σ H (.ref l) (.int n) v u Q I rx ry ⟨l, xs, (n : Int), x, rfl, rfl, SqL.of h1, atI_nat h2, q _ _ _ (k x) (hs.addP Val.pers h3)⟩ z
theorem gi_lstS {f : α → V} {l : Addr} {ds : List α} {n : Nat} {d : α} (s : Sel L (pt l (.lst (ds.map f))) R') (e : ds[n]? = some d) (k : K (f d) L) : GIx T X (.ref l) (.int (n : Int)) L K :=
  gi_lst s (atI_nat (by rw [List.getElem?_map, e]; rfl)) k
/-! ### targets -/
theorem ggs_nil {K : St → List SA → Prop} (k : K σ L) : GGs T X [] [] σ L K := GGs.of pgs_nil fun H hs Q q => ⟨rfl, q _ _ _ k hs⟩
theorem ggs_cons {e : Expr} {es : List Expr} {vs : List V} {K : St → List SA → Prop} (hst : (assignEach (e :: es) X.env).map (·.2) = assign e X.env :: (assignEach es X.env).map (·.2))
    (h : GG T X e v σ L fun σ1 L1 => GGs T X es vs σ1 L1 K) : GGs T X (e :: es) (v :: vs) σ L K :=
  GGs.of (pgs_cons pgW pgsW hst) fun H hs Q q => ⟨v, vs, rfl, h H hs _ fun σ1 L1 H1 k1 h1 => k1 H1 h1 Q q⟩
theorem gg_tupF {es : List Expr} {k : Nat} {p : Pos} {xs : List V} {K : St → List SA → Prop} (hc : X.calm = true) (hn : (assignEach es X.env).length = xs.length) (hst : (assignEach es X.env).findIdx? (·.1) = none)
    (f : ∀ H, Hs T L H → H a = some (.tup xs)) (h : GGs T X es xs σ L K) : GG T X (.Tuple es k p) (.ref a) σ L K :=
  GG.of (pg_tup hc pgsW hn hst) fun H hs Q q => ⟨a, xs, rfl, SqT.of (f H hs), rfl, h H hs Q q⟩
theorem gg_tup {es : List Expr} {k : Nat} {p : Pos} {xs : List V} {K : St → List SA → Prop} (hc : X.calm = true) (s : Sel L (pt a (.tup xs)) R') (hn : (assignEach es X.env).length = xs.length) (hst : (assignEach es X.env).findIdx? (·.1) = none)
    (h : GGs T X es xs σ L K) : GG T X (.Tuple es k p) (.ref a) σ L K := gg_tupF hc hn hst (fun H hs => hs.at s) h
theorem gg_pair {f : α → V} {g : β → V} {cf : α → Prop} {cg : β → Prop} {es : List Expr} {k : Nat} {p : Pos} {K : St → List SA → Prop} (c1 : Scal R f cf) (c2 : Scal S g cg) {d : α × β} (r : Rv T L v (rPair R S) d) (hc : X.calm = true) (hn : (assignEach es X.env).length = 2) (hst : (assignEach es X.env).findIdx? (·.1) = none)
    (h : cf d.1 → cg d.2 → GGs T X es [f d.1, g d.2] σ L K) : GG T X (.Tuple es k p) v σ L K := by
  intro H hs Q q
  obtain ⟨a, x, y, rfl, e, h1, h2⟩ := r H hs
  obtain ⟨rfl, k1⟩ := c1.to h1
  obtain ⟨rfl, k2⟩ := c2.to h2
  refine gg_tupF hc (xs := [f d.1, g d.2]) hn hst (fun H' hs' => ?_) (h k1 k2) H hs Q q
  obtain ⟨a', x', y', ea, e', h1', h2'⟩ := r H' hs'
  cases ea
  obtain ⟨rfl, _⟩ := c1.to h1'
  obtain ⟨rfl, _⟩ := c2.to h2'
  exact e'
theorem gg_tri {f : α → V} {g : β → V} {j : γ → V} {cf : α → Prop} {cg : β → Prop} {cj : γ → Prop} {es : List Expr} {k : Nat} {p : Pos} {K : St → List SA → Prop} (c1 : Scal R f cf) (c2 : Scal S g cg) (c3 : Scal U j cj) {d : α × β × γ} (r : Rv T L v (rTri R S U) d) (hc : X.calm = true) (hn : (assignEach es X.env).length = 3) (hst : (assignEach es X.env).findIdx? (·.1) = none)
    (h : cf d.1 → cg d.2.1 → cj d.2.2 → GGs T X es [f d.1, g d.2.1, j d.2.2] σ L K) : GG T X (.Tuple es k p) v σ L K := by
  intro H hs Q q
  obtain ⟨a, x, y, z, rfl, e, h1, h2, h3⟩ := r H hs
  obtain ⟨rfl, k1⟩ := c1.to h1
  obtain ⟨rfl, k2⟩ := c2.to h2
  obtain ⟨rfl, k3⟩ := c3.to h3
  refine gg_tupF hc (xs := [f d.1, g d.2.1, j d.2.2]) hn hst (fun H' hs' => ?_) (h k1 k2 k3) H hs Q q
  obtain ⟨a', x', y', z', ea, e', h1', h2', h3'⟩ := r H' hs'
  cases ea
  obtain ⟨rfl, _⟩ := c1.to h1'
  obtain ⟨rfl, _⟩ := c2.to h2'
  obtain ⟨rfl, _⟩ := c3.to h3'
  exact e'
theorem gg_quad {f : α → V} {g : β → V} {j : γ → V} {m : δ → V} {cf : α → Prop} {cg : β → Prop} {cj : γ → Prop} {cm : δ → Prop} {es : List Expr} {k : Nat} {p : Pos} {K : St → List SA → Prop} (c1 : Scal R f cf) (c2 : Scal S g cg) (c3 : Scal U j cj) (c4 : Scal W m cm) {d : α × β × γ × δ} (r : Rv T L v (rQuad R S U W) d) (hc : X.calm = true) (hn : (assignEach es X.env).length = 4) (hst : (assignEach es X.env).findIdx? (·.1) = none)
    (h : cf d.1 → cg d.2.1 → cj d.2.2.1 → cm d.2.2.2 → GGs T X es [f d.1, g d.2.1, j d.2.2.1, m d.2.2.2] σ L K) : GG T X (.Tuple es k p) v σ L K := by
  intro H hs Q q
  obtain ⟨a, x, y, z, w, rfl, e, h1, h2, h3, h4⟩ := r H hs
  obtain ⟨rfl, k1⟩ := c1.to h1
  obtain ⟨rfl, k2⟩ := c2.to h2
  obtain ⟨rfl, k3⟩ := c3.to h3
  obtain ⟨rfl, k4⟩ := c4.to h4
  refine gg_tupF hc (xs := [f d.1, g d.2.1, j d.2.2.1, m d.2.2.2]) hn hst (fun H' hs' => ?_) (h k1 k2 k3 k4) H hs Q q
  obtain ⟨a', x', y', z', w', ea, e', h1', h2', h3', h4'⟩ := r H' hs'
  cases ea
  obtain ⟨rfl, _⟩ := c1.to h1'
  obtain ⟨rfl, _⟩ := c2.to h2'
  obtain ⟨rfl, _⟩ := c3.to h3'
  obtain ⟨rfl, _⟩ := c4.to h4'
  exact e'
end
/-! ### loops -/
section
variable {T : List (Addr × Str)} {X : Cx} {σ : St} {L R' : List SA} {D : EndsL} {tg iter : Expr} {body : List Stmt} {pos : Pos} {α : Type} {R : PRep α}
/-- weaken to an invariant -/
def Fits (T : List (Addr × Str)) (inv : St → List SA → Prop) : St → List SA → Prop := fun σ L => ∃ W, Ent T L W ∧ inv σ W
theorem Fits.mk {inv : St → List SA → Prop} {W : List SA} (h : inv σ W) (t : Ent T L W) : Fits T inv σ L := ⟨W, t, h⟩
theorem fits_hs {inv : St → List SA → Prop} {H : Hp} (f : Fits T inv σ L) (h : Hs T L H) : ∃ W, inv σ W ∧ Hs T W H := by
  obtain ⟨W, t, i⟩ := f
  exact ⟨W, i, t H h⟩
/-- the walk of any iterator -/
theorem wfor (J : It) (n : Nat) (inv : Nat → St → List SA → Prop) (hstop : ∀ σ L H, inv n σ L → Hs T L H → J.stop n H) (hgo : ∀ i σ L H, i < n → inv i σ L → Hs T L H → J.go i H)
    (hstep : ∀ i σ L H, i < n → inv i σ L → Hs T L H → ∀ x H', J.yld i H x H' → ∃ L', Hs T L' H' ∧ GG T X tg x σ L' fun σ2 L2 => GSs T X body { D with nx := Fits T (inv (i + 1)), ct := Fits T (inv (i + 1)), bk := D.nx } σ2 L2)
    (hend : ∀ σ L, inv n σ L → D.nx σ L) {H : Hp} (hs : Hs T L H) (h0 : inv 0 σ L) {D0 : Ends} (l : D.Le T D0) :
    ∃ W : Nat → Nat → St → Hp → Prop, (∃ m, W 0 m σ H) ∧ ∀ i m σ H, W i m σ H →
      (J.stop i H ∧ D0.nx σ H) ∨ (J.go i H ∧ ∃ N : St → Hp → Prop, (∀ σ' H', N σ' H' → ∃ m', m' < m ∧ W (i + 1) m' σ' H') ∧ ∀ x H', J.yld i H x H' → gW X tg x σ H' fun σ2 H2 => ssW X body { D0 with nx := N, ct := N, bk := D0.nx } σ2 H2) := by
  refine ⟨fun i m σ H => m = n - i ∧ i ≤ n ∧ ∃ L, inv i σ L ∧ Hs T L H, ⟨n, by simp, Nat.zero_le _, L, h0, hs⟩, ?_⟩
  rintro i m σ H ⟨rfl, hi, L, iv, hs⟩
  by_cases hlt : i < n
  · refine .inr ⟨hgo i σ L H hlt iv hs, fun σ' H' => ∃ L', inv (i + 1) σ' L' ∧ Hs T L' H', fun σ' H' ⟨L', q, h'⟩ => ⟨n - (i + 1), by omega, rfl, hlt, L', q, h'⟩, fun x H' y => ?_⟩
    obtain ⟨L', h', g⟩ := hstep i σ L H hlt iv hs x H' y
    exact g H' h' _ fun σ2 L2 H2 k2 h2 => k2 H2 h2 _ ⟨fun σ3 L3 H3 k3 h3 => fits_hs k3 h3, l.rt, l.nx, fun σ3 L3 H3 k3 h3 => fits_hs k3 h3⟩
  · have e : i = n := by omega
    subst e
    exact .inl ⟨hstop σ L H iv hs, l.nx _ _ _ (hend σ L iv) hs⟩
/-- over a list, plain -/
theorem gs_forL (inv : Nat → St → List SA → Prop) (l : Addr) (xs : List V) (hp : PassesOwn (model X.prog X.w) X.A X.env X.xe) (hc : X.calm = true) (hf : ∀ x, foldedSetIterable iter X.env x = pure x)
    (h0 : GE T X iter σ L fun v L1 => v = .ref l ∧ inv 0 σ L1) (hl : ∀ i σ' L', inv i σ' L' → ∃ R, Sel L' (pt l (.lst xs)) R)
    (hs : ∀ i x σ' L', xs[i]? = some x → inv i σ' L' → GG T X tg x σ' L' fun σ2 L2 => GSs T X body { D with nx := Fits T (inv (i + 1)), ct := Fits T (inv (i + 1)), bk := D.nx } σ2 L2)
    (hd : ∀ σ' L', inv xs.length σ' L' → D.nx σ' L') : GS T X (.For tg iter body [] pos) D σ L := by
  refine GS.of (ps_for hp hc (pi_list peW) pgW pssW hf) fun H hh D0 le => h0 H hh _ fun v L1 H1 ⟨ev, iv⟩ h1 => ?_
  obtain ⟨R1, s1⟩ := hl _ _ _ iv
  refine ⟨l, ev, ⟨xs, SqL.of (h1.at s1)⟩, wfor (Itl X.K l) xs.length inv (fun σ L H i h => ?_) (fun i σ L H hi iv h => ?_) (fun i σ L H hi iv h x H' y => ?_) hd h1 iv le⟩
  · obtain ⟨R, s⟩ := hl _ _ _ i
    exact ⟨xs, SqL.of (h.at s), Nat.le_refl _⟩
  · obtain ⟨R, s⟩ := hl _ _ _ iv
    exact ⟨xs, xs[i], SqL.of (h.at s), by simp [hi]⟩
  · obtain ⟨R, s⟩ := hl _ _ _ iv
    obtain ⟨e, y⟩ := y
    subst e
    exact ⟨L, h, hs i x σ L (y xs (SqL.of (h.at s))) iv⟩
/-- over a list of data -/
theorem gs_forR (inv : Nat → St → List SA → Prop) (l : Addr) (R : PRep α) (ds : List α) (hp : PassesOwn (model X.prog X.w) X.A X.env X.xe) (hc : X.calm = true) (hf : ∀ x, foldedSetIterable iter X.env x = pure x)
    (h0 : GE T X iter σ L fun v L1 => v = .ref l ∧ inv 0 σ L1) (hl : ∀ i σ' L', inv i σ' L' → ∃ R0, Sel L' (LstR R l ds) R0)
    (hs : ∀ i d x σ' L', ds[i]? = some d → inv i σ' L' → GG T X tg x σ' (Val R x d :: L') fun σ2 L2 => GSs T X body { D with nx := Fits T (inv (i + 1)), ct := Fits T (inv (i + 1)), bk := D.nx } σ2 L2)
    (hd : ∀ σ' L', inv ds.length σ' L' → D.nx σ' L') : GS T X (.For tg iter body [] pos) D σ L := by
  have get : ∀ {i σ L H}, inv i σ L → Hs T L H → ∃ xs, H l = some (.lst xs) ∧ A2r R H xs ds := fun {i σ L H} iv h => by
    obtain ⟨R0, s⟩ := hl _ _ _ iv
    exact h.factP (fun g ⟨xs, e, r⟩ sub => ⟨xs, (sub l _ e).1, r.mono sub.tup⟩) s
  refine GS.of (ps_for hp hc (pi_list peW) pgW pssW hf) fun H hh D0 le => h0 H hh _ fun v L1 H1 ⟨ev, iv⟩ h1 => ?_
  obtain ⟨xs1, e1, _⟩ := get iv h1
  refine ⟨l, ev, ⟨xs1, SqL.of e1⟩, wfor (Itl X.K l) ds.length inv (fun σ L H i h => ?_) (fun i σ L H hi iv h => ?_) (fun i σ L H hi iv h x H' y => ?_) hd h1 iv le⟩
  · obtain ⟨xs, e, r⟩ := get i h
    exact ⟨xs, SqL.of e, Nat.le_of_eq r.length⟩
  · obtain ⟨xs, e, r⟩ := get iv h
    have : i < xs.length := by rw [r.length]; exact hi
    exact ⟨xs, xs[i], SqL.of e, by simp [this]⟩
  · obtain ⟨xs, e, r⟩ := get iv h
    obtain ⟨e2, y⟩ := y
    subst e2
    obtain ⟨d, hd', rr⟩ := r.get' (y xs (SqL.of e))
    exact ⟨_, h.addP Val.pers rr, hs i d x σ L hd' iv⟩
/-- over a tuple of data -/
theorem gs_forT (inv : Nat → St → List SA → Prop) (v0 : V) (R : PRep α) (ds : List α) (hp : PassesOwn (model X.prog X.w) X.A X.env X.xe) (hc : X.calm = true) (hf : ∀ x, foldedSetIterable iter X.env x = pure x)
    (h0 : GE T X iter σ L fun v L1 => v = v0 ∧ inv 0 σ L1) (hl : ∀ i σ' L', inv i σ' L' → Rv T L' v0 (rTl R) ds)
    (hs : ∀ i d x σ' L', ds[i]? = some d → inv i σ' L' → GG T X tg x σ' (Val R x d :: L') fun σ2 L2 => GSs T X body { D with nx := Fits T (inv (i + 1)), ct := Fits T (inv (i + 1)), bk := D.nx } σ2 L2)
    (hd : ∀ σ' L', inv ds.length σ' L' → D.nx σ' L') : GS T X (.For tg iter body [] pos) D σ L := by
  refine GS.of (ps_for hp hc (pi_tup peW) pgW pssW hf) fun H hh D0 le => h0 H hh _ fun v L1 H1 ⟨ev, iv⟩ h1 => ?_
  obtain ⟨l, xs1, ev0, e1, _⟩ := hl _ _ _ iv H1 h1
  subst ev
  subst ev0
  have get : ∀ {i σ L H}, inv i σ L → Hs T L H → ∃ xs, H l = some (.tup xs) ∧ A2r R H xs ds := fun {i σ L H} iv h => by
    obtain ⟨l', xs, ev, e, r⟩ := hl _ _ _ iv H h
    cases ev
    exact ⟨xs, e, r⟩
  refine ⟨l, rfl, ⟨xs1, SqT.of e1⟩, wfor (Itt X.K l) ds.length inv (fun σ L H i h => ?_) (fun i σ L H hi iv h => ?_) (fun i σ L H hi iv h x H' y => ?_) hd h1 iv le⟩
  · obtain ⟨xs, e, r⟩ := get i h
    exact ⟨xs, SqT.of e, Nat.le_of_eq r.length⟩
  · obtain ⟨xs, e, r⟩ := get iv h
    have : i < xs.length := by rw [r.length]; exact hi
    exact ⟨xs, xs[i], SqT.of e, by simp [this]⟩
  · obtain ⟨xs, e, r⟩ := get iv h
    obtain ⟨e2, y⟩ := y
    subst e2
    obtain ⟨d, hd', rr⟩ := r.get' (y xs (SqT.of e))
    exact ⟨_, h.addP Val.pers rr, hs i d x σ L hd' iv⟩
/-- over range(n) -/
theorem gs_forN {a : Expr} {p : Pos} (inv : Nat → St → List SA → Prop) (n : Int) (hp : PassesOwn (model X.prog X.w) X.A X.env X.xe) (hc : X.calm = true) (hg : Gl X "range") (hm : X.mg "range" = none)
    (hst : starEach [a] X.env = [(false, eval a X.env)]) (hf : ∀ x, foldedSetIterable (.Call (.Name "range" p) [a] [] pos) X.env x = pure x)
    (h0 : GA T X [a] σ L fun vs L1 => vs = [.int n] ∧ -(2 ^ 62) ≤ n ∧ n < 2 ^ 62 ∧ inv 0 σ L1)
    (hs : ∀ (i : Nat) σ' L', (i : Int) < n → inv i σ' L' → GG T X tg (.int (i : Int)) σ' L' fun σ2 L2 => GSs T X body { D with nx := Fits T (inv (i + 1)), ct := Fits T (inv (i + 1)), bk := D.nx } σ2 L2)
    (hd : ∀ σ' L', inv n.toNat σ' L' → D.nx σ' L') {pos2 : Pos} : GS T X (.For tg (.Call (.Name "range" p) [a] [] pos) body [] pos2) D σ L := by
  refine GS.of (ps_for hp hc (pi_range1 hg hm paW hst) pgW pssW hf) fun H hh D0 le => h0 H hh _ fun vs L1 H1 ⟨ev, b1, b2, iv⟩ h1 => ?_
  refine ⟨n, ev, b1, b2, wfor (Itr 0 n.toNat) n.toNat inv (fun σ L H i h => Nat.le_refl _) (fun i σ L H hi iv h => hi) (fun i σ L H hi iv h x H' y => ?_) hd h1 iv le⟩
  obtain ⟨e, y⟩ := y
  subst e
  subst y
  refine ⟨L, h, ?_⟩
  rw [Int.zero_add]
  exact hs i σ L (by omega) iv
/-- over range(a, b) -/
theorem gs_forN2 {a b : Expr} {p : Pos} (inv : Nat → St → List SA → Prop) (lo n : Int) (hp : PassesOwn (model X.prog X.w) X.A X.env X.xe) (hc : X.calm = true) (hg : Gl X "range") (hm : X.mg "range" = none)
    (hst : starEach [a, b] X.env = [(false, eval a X.env), (false, eval b X.env)]) (hst2 : starEach [b] X.env = [(false, eval b X.env)]) (hf : ∀ x, foldedSetIterable (.Call (.Name "range" p) [a, b] [] pos) X.env x = pure x)
    (h0 : GA T X [a, b] σ L fun vs L1 => vs = [.int lo, .int n] ∧ (-(2 ^ 62) ≤ lo ∧ lo < 2 ^ 62 ∧ -(2 ^ 62) ≤ n ∧ n < 2 ^ 62) ∧ inv 0 σ L1)
    (hs : ∀ (i : Nat) σ' L', lo + (i : Int) < n → inv i σ' L' → GG T X tg (.int (lo + (i : Int))) σ' L' fun σ2 L2 => GSs T X body { D with nx := Fits T (inv (i + 1)), ct := Fits T (inv (i + 1)), bk := D.nx } σ2 L2)
    (hd : ∀ σ' L', inv (n - lo).toNat σ' L' → D.nx σ' L') {pos2 : Pos} : GS T X (.For tg (.Call (.Name "range" p) [a, b] [] pos) body [] pos2) D σ L := by
  refine GS.of (ps_for hp hc (pi_range2 hg hm paW hst hst2) pgW pssW hf) fun H hh D0 le => h0 H hh _ fun vs L1 H1 ⟨ev, b1, iv⟩ h1 => ?_
  refine ⟨lo, n, ev, b1, wfor (Itr lo (n - lo).toNat) (n - lo).toNat inv (fun σ L H i h => Nat.le_refl _) (fun i σ L H hi iv h => hi) (fun i σ L H hi iv h x H' y => ?_) hd h1 iv le⟩
  obtain ⟨e, y⟩ := y
  subst e
  subst y
  exact ⟨L, h, hs i σ L (by omega) iv⟩
/-- while: an invariant and a measure -/
theorem gs_while {c : Expr} (inv : Nat → St → List SA → Prop) (hp : PassesOwn (model X.prog X.w) X.A X.env X.xe) (m0 : Nat) (h0 : inv m0 σ L)
    (hs : ∀ m σ' L', inv m σ' L' → GT T X c σ' L' fun b L1 => if b = true then GSs T X body { D with nx := fun σ2 L2 => ∃ m', m' < m ∧ Fits T (inv m') σ2 L2, ct := fun σ2 L2 => ∃ m', m' < m ∧ Fits T (inv m') σ2 L2, bk := D.nx } σ' L1 else D.nx σ' L1) : GS T X (.While c body [] pos) D σ L := by
  refine GS.of (ps_while hp ptW pssW) fun H hh D0 le => ⟨fun m σ H => ∃ L, inv m σ L ∧ Hs T L H, ⟨m0, L, h0, hh⟩, fun m σ1 H1 ⟨L1, iv, h1⟩ => ?_⟩
  refine hs m σ1 L1 iv H1 h1 _ fun b L2 H2 k2 h2 => ?_
  cases b with
  | true =>
    rw [if_pos rfl] at k2 ⊢
    refine ⟨fun σ' H' => ∃ m', m' < m ∧ ∃ L, inv m' σ' L ∧ Hs T L H', fun σ' H' ⟨m', hm, q⟩ => ⟨m', hm, q⟩, k2 H2 h2 _ ⟨fun σ3 L3 H3 ⟨m', hm, k3⟩ h3 => ⟨m', hm, fits_hs k3 h3⟩, le.rt, le.nx, fun σ3 L3 H3 ⟨m', hm, k3⟩ h3 => ⟨m', hm, fits_hs k3 h3⟩⟩⟩
  | false =>
    rw [if_neg Bool.false_ne_true] at k2 ⊢
    exact le.nx _ _ _ k2 h2
end
end SW
set_option Elab.async false
set_option linter.all false
set_option maxRecDepth 100000
set_option maxHeartbeats 2000000
/-! Sw6: comprehensions; methods of lists; slices; stores by an operator; raise, try. -/
namespace SW
open PySem PySem.Spec L2
open PyProof.Rows hiding St
/-! ### lists of data packed -/
section
variable {T : List (Addr × Str)} {L L' R' : List SA} {α : Type} {R : PRep α} {H : Hp} {p : Addr}
theorem Hs.packR {ys : List V} {ds : List α} (h : Hs T (pt p (.lst ys) :: L) H) (a : A2r R H ys ds) : Hs T (LstR R p ds :: L) H := by
  have h1 : Pcs ((fun g => A2r R g ys ds) :: pt p (.lst ys) :: L) H := h.pcs.addP (fun _ _ t r => r.mono t) a
  have h2 : Pcs ([(fun g => A2r R g ys ds), pt p (.lst ys)] ++ L) H := h1
  refine ⟨h.tabs, h2.fold.imp fun g k => ?_⟩
  have e : g p = some (.lst ys) := (k.perm (List.Perm.swap _ _ _)).get
  refine ⟨ys, e, ?_⟩
  obtain ⟨ps, k1, _, k3⟩ := k
  cases k1 with
  | cons r t => exact r.mono (k3 _ List.mem_cons_self).tup
theorem Hs.unpackR {ds : List α} (h : Hs T (LstR R p ds :: L) H) : ∃ xs, A2r R H xs ds ∧ Hs T (pt p (.lst xs) :: L) H := by
  obtain ⟨ps, h1, h2, h3⟩ := h.pcs
  cases h1 with
  | cons r t =>
    obtain ⟨xs, e, a⟩ := r
    exact ⟨xs, a.mono (h3 _ List.mem_cons_self).tup, h.tabs, _, .cons e t, h2, h3⟩
theorem Hs.rplR {ys : List V} {ds ds' : List α} (r : Rpl L (LstR R p ds) (LstR R p ds') L') (h : Hs T L H) (a : A2r R H ys ds') : Hs T L' (upd H p (.lst ys)) := by
  obtain ⟨Q, q1, q2⟩ := r.perm
  obtain ⟨xs, _, h1⟩ := (h.perm q1).unpackR
  have h2 : Hs T (pt p (.lst ys) :: Q) (upd H p (.lst ys)) := h1.wr (by exact True.intro) fun _ => nofun
  refine (h2.packR (a.mono fun b zs e => ?_)).perm q2.symm
  rw [upd_ne (ne_of e h1.get (by intro z; cases z))]
  exact e
theorem Hs.newR {ys : List V} {ds : List α} (hp : H p = none) (h : Hs T L H) (a : A2r R H ys ds) : Hs T (LstR R p ds :: L) (upd H p (.lst ys)) := by
  have h2 : Hs T (pt p (.lst ys) :: L) (upd H p (.lst ys)) := h.new hp fun _ => nofun
  refine h2.packR (a.mono fun b zs e => ?_)
  rw [upd_ne (ne_of_none e hp)]
  exact e
theorem Hs.atR {ds : List α} (s : Sel L (LstR R p ds) R') (h : Hs T L H) : ∃ xs, H p = some (.lst xs) ∧ A2r R H xs ds := by
  obtain ⟨xs, a, h1⟩ := (h.sel s).unpackR
  exact ⟨xs, h1.get, a⟩
end
/-! ### the slots wiped -/
inductive SetN : St → Nat → St → Prop
  | here {s : Option V} {σ : St} : SetN (s :: σ) 0 (none :: σ)
  | there {s : Option V} {σ σ' : St} {n : Nat} : SetN σ n σ' → SetN (s :: σ) (n + 1) (s :: σ')
theorem SetN.eq {σ σ' : St} {n : Nat} (h : SetN σ n σ') : σ' = σ.set n none := by
  induction h with
  | here => rfl
  | there _ ih => rw [ih]; rfl
inductive Wp : St → List Nat → St → Prop
  | nil {σ : St} : Wp σ [] σ
  | cons {σ σ1 σ2 : St} {v : Nat} {vs : List Nat} : Wp σ vs σ1 → SetN σ1 v σ2 → Wp σ (v :: vs) σ2
theorem Wp.eq {σ σ' : St} {vs : List Nat} (h : Wp σ vs σ') : σ' = wipe σ vs := by
  induction h with
  | nil => rfl
  | cons _ s ih => rw [s.eq, ih]; rfl
/-! ### comprehensions -/
def tsW (X : Cx) (ifs : List Expr) : TT := fun σ H Q => ∀ pins s, Inv X pins σ H s → wpAny (model X.prog X.w) X.A (forIn ifs true fun c r => if r = true then do let ok ← isTrue c X.env (eval c X.env); pure (ForInStep.yield ok) else pure (ForInStep.yield r)) (TP X pins σ Q) X.xe s
theorem ptsW {X : Cx} {ifs : List Expr} : PTs X ifs (tsW X ifs) := ⟨fun pins s σ H Q I h => h pins s I⟩
def GTs (T : List (Addr × Str)) (X : Cx) (ifs : List Expr) (σ : St) (L : List SA) (K : Bool → List SA → Prop) : Prop := WT T (tsW X ifs) σ L K
section
variable {T : List (Addr × Str)} {X : Cx} {σ : St} {L : List SA}
theorem gts_nil {K : Bool → List SA → Prop} (k : K true L) : GTs T X [] σ L K := fun H hs Q q pins s I => pts_nil.run pins s σ H Q I (q _ L H k hs)
theorem gts_one {c : Expr} {K : Bool → List SA → Prop} (h : GT T X c σ L K) : GTs T X [c] σ L K := fun H hs Q q pins s I => (pts_one ptW).run pins s σ H Q I (h H hs Q q)
/-- the list at D grows by y, then N -/
def LcEnd (T : List (Addr × Str)) (D : Addr) (y : V) (L : List SA) (N : List SA → Prop) : Prop := ∀ H, Hs T L H → ∃ acc, H D = some (.lst acc) ∧ acc.length < sizeLine ∧ ∃ L', Hs T L' (upd H D (.lst (acc ++ [y]))) ∧ N L'
abbrev blkX (X : Cx) (s : Shared) (H : Hp) (scope : Scope) (C : Addr) (cl : List (Str × Addr)) (fp : List Addr) : Cx := X.blk s H scope (compEnvC scope cl C X.env) fp
/-- one turn of a comprehension, from the item on; the block's own context may be any at each place -/
def LcTurn (T : List (Addr × Str)) (X : Cx) (scope : Scope) (tg elt : Expr) (ifs : List Expr) (vs : List Nat) (σ σ0 : St) (D : Addr) (x : V) (L : List SA) (N : List SA → Prop) : Prop :=
  ∀ s H C cl fp, GG T (blkX X s H scope C cl fp) tg x σ0 L fun σ2 L2 => wipe σ2 vs = wipe σ vs ∧ ∀ s H C cl fp, GTs T (blkX X s H scope C cl fp) ifs σ2 L2 fun b L3 => if b = true then ∀ s H C cl fp, GE T (blkX X s H scope C cl fp) elt σ2 L3 fun y L4 => LcEnd T D y L4 N else N L3
def gB (X : Cx) (scope : Scope) (tg : Expr) : TG := fun v σ H Q => ∀ s H0 C cl fp, gW (blkX X s H0 scope C cl fp) tg v σ H Q
def tB_ (X : Cx) (scope : Scope) (ifs : List Expr) : TT := fun σ H Q => ∀ s H0 C cl fp, tsW (blkX X s H0 scope C cl fp) ifs σ H Q
def eB (X : Cx) (scope : Scope) (elt : Expr) : TE := fun σ H Q => ∀ s H0 C cl fp, eW (blkX X s H0 scope C cl fp) elt σ H Q
end
def FitL (T : List (Addr × Str)) (inv : List SA → Prop) : List SA → Prop := fun L => ∃ W, Ent T L W ∧ inv W
theorem FitL.mk {T : List (Addr × Str)} {inv : List SA → Prop} {L W : List SA} (h : inv W) (t : Ent T L W) : FitL T inv L := ⟨W, t, h⟩
theorem fitL_hs {T : List (Addr × Str)} {L : List SA} {inv : List SA → Prop} {H : Hp} (f : FitL T inv L) (h : Hs T L H) : ∃ W, inv W ∧ Hs T W H := by
  obtain ⟨W, t, i⟩ := f
  exact ⟨W, i, t H h⟩
section
variable {T : List (Addr × Str)} {X : Cx} {σ σ0 : St} {L R' : List SA} {K : GK} {elt tg iter : Expr} {ifs : List Expr} {scope : Scope} {own : List (Str × Nat)} {vs : List Nat} {pos : Pos} {α : Type}
theorem turn_ok {D : Addr} {x : V} {inv : List SA → Prop} {H : Hp} (hw : σ0 = wipe σ vs) (g : LcTurn T X scope tg elt ifs vs σ σ0 D x L (FitL T inv)) (h : Hs T L H) :
    gB X scope tg x (wipe σ vs) H fun σ2 H2 => wipe σ2 vs = wipe σ vs ∧ tB_ X scope ifs σ2 H2 fun b H3 =>
      if b = true then eB X scope elt σ2 H3 fun y H4 => ∃ acc, H4 D = some (.lst acc) ∧ acc.length < sizeLine ∧ ∃ L', inv L' ∧ Hs T L' (upd H4 D (.lst (acc ++ [y]))) else ∃ L', inv L' ∧ Hs T L' H3 := by
  subst hw
  intro s H0 C cl fp
  refine g s H0 C cl fp H h _ fun σ2 L2 H2 ⟨e, k2⟩ h2 => ⟨e, fun s H0 C cl fp => k2 s H0 C cl fp H2 h2 _ fun b L3 H3 k3 h3 => ?_⟩
  cases b with
  | true =>
    rw [if_pos rfl] at k3 ⊢
    intro s H0 C cl fp
    refine k3 s H0 C cl fp H3 h3 _ fun y L4 H4 k4 h4 => ?_
    obtain ⟨acc, e1, e2, L', h', q⟩ := k4 H4 h4
    obtain ⟨W, i, h''⟩ := fitL_hs q h'
    exact ⟨acc, e1, e2, W, i, h''⟩
  | false =>
    rw [if_neg Bool.false_ne_true] at k3 ⊢
    obtain ⟨W, i, h''⟩ := fitL_hs k3 h3
    exact ⟨W, i, h''⟩
theorem wlc (J : It) (n : Nat) (D : Addr) (inv : Nat → List SA → Prop) (hw : σ0 = wipe σ vs) (hstop : ∀ L H, inv n L → Hs T L H → J.stop n H) (hgo : ∀ i L H, i < n → inv i L → Hs T L H → J.go i H)
    (hstep : ∀ i L H, i < n → inv i L → Hs T L H → ∀ x H', J.yld i H x H' → ∃ L', Hs T L' H' ∧ LcTurn T X scope tg elt ifs vs σ σ0 D x L' (FitL T (inv (i + 1))))
    {H1 : Hp} {Qd : Hp → Prop} (h0 : ∃ L, inv 0 L ∧ Hs T L (upd H1 D (.lst []))) (hend : ∀ L H, inv n L → Hs T L H → Qd H) :
    ∃ W : Nat → Nat → Hp → Prop, (∃ m, W 0 m (upd H1 D (.lst []))) ∧ ∀ i m H, W i m H →
      (J.stop i H ∧ Qd H) ∨ (J.go i H ∧ ∃ Nx : Hp → Prop, (∀ H', Nx H' → ∃ m', m' < m ∧ W (i + 1) m' H') ∧ ∀ x H', J.yld i H x H' → gB X scope tg x (wipe σ vs) H' fun σ2 H2 => wipe σ2 vs = wipe σ vs ∧ tB_ X scope ifs σ2 H2 fun b H3 =>
        if b = true then eB X scope elt σ2 H3 fun y H4 => ∃ acc, H4 D = some (.lst acc) ∧ acc.length < sizeLine ∧ Nx (upd H4 D (.lst (acc ++ [y]))) else Nx H3) := by
  refine ⟨fun i m H => m = n - i ∧ i ≤ n ∧ ∃ L, inv i L ∧ Hs T L H, ⟨n, by simp, Nat.zero_le _, h0⟩, ?_⟩
  rintro i m H ⟨rfl, hi, L, iv, hs⟩
  by_cases hlt : i < n
  · refine .inr ⟨hgo i L H hlt iv hs, fun H' => ∃ L', inv (i + 1) L' ∧ Hs T L' H', fun H' q => ⟨n - (i + 1), by omega, rfl, hlt, q⟩, fun x H' y => ?_⟩
    obtain ⟨L', h', g⟩ := hstep i L H hlt iv hs x H' y
    exact turn_ok hw g h'
  · have e : i = n := by omega
    subst e
    exact .inl ⟨hstop L H iv hs, hend L H iv hs⟩
theorem pe_lcW {wi : TI} (hc : X.calm = true) (hN : X.N.Nodup) (hi : PI X tg iter wi) (ok : BlkOk X.N X.env.scope scope own) (hf : ∀ x, foldedSetIterable iter X.env x = pure x) :
    PE X (.ListComp elt [⟨tg, iter, ifs, 0⟩] scope pos) (tLc wi (gB X scope tg) (tB_ X scope ifs) (eB X scope elt) (own.map (·.2))) :=
  pe_lc hc hN hi ok (fun s H C cl fp => ⟨fun pins s' σ H' v u Q I r h => h s H C cl fp pins s' u I r⟩) (fun s H C cl fp => ⟨fun pins s' σ H' Q I h => h s H C cl fp pins s' I⟩) (fun s H C cl fp => ⟨fun pins s' σ H' Q I h => h s H C cl fp pins s' I⟩) hf
/-! ends of turns -/
theorem lcend_pt {D : Addr} {y : V} {acc : List V} {L' : List SA} {N : List SA → Prop} (r : Rpl L (pt D (.lst acc)) (pt D (.lst (acc ++ [y]))) L') (hz : acc.length < sizeLine) (n : N L') : LcEnd T D y L N := fun H h => by
  obtain ⟨R, s⟩ := r.sel
  exact ⟨acc, h.at s, hz, L', h.rpl r (by exact True.intro) fun _ => nofun, n⟩
theorem lcend_R {D : Addr} {y : V} {R : PRep α} {ds : List α} {d : α} {L' : List SA} {N : List SA → Prop} (r : Rpl L (LstR R D ds) (LstR R D (ds ++ [d])) L') (hz : ds.length < sizeLine) (hv : Rv T L y R d) (n : N L') : LcEnd T D y L N := fun H h => by
  obtain ⟨Q, s⟩ := r.sel
  obtain ⟨xs, e, a⟩ := h.atR s
  exact ⟨xs, e, by rw [a.length]; exact hz, L', h.rplR r (a.snoc (hv H h)), n⟩
/-- an empty list as a list of data -/
theorem lst0 (R : PRep α) {p : Addr} : ∀ h, pt p (.lst []) h → LstR R p [] h := fun h e => ⟨[], e, .nil⟩
/-! comprehensions whose rows stay: what they gather is told by g -/
theorem lct_imp {D : Addr} {x : V} {Lx : List SA} {N N' : List SA → Prop} (h : LcTurn T X scope tg elt ifs vs σ σ0 D x Lx N) (f : ∀ L', N L' → N' L') : LcTurn T X scope tg elt ifs vs σ σ0 D x Lx N' := by
  intro s H C cl fp H1 h1 Q q
  refine h s H C cl fp H1 h1 Q fun σ2 L2 H2 ⟨e, k⟩ h2 => q σ2 L2 H2 ⟨e, fun s H C cl fp H3 h3 Q3 q3 => ?_⟩ h2
  refine k s H C cl fp H3 h3 Q3 fun b L4 H4 k4 h4 => q3 b L4 H4 ?_ h4
  cases b with
  | true =>
    rw [if_pos rfl] at k4 ⊢
    intro s H C cl fp H5 h5 Q5 q5
    refine k4 s H C cl fp H5 h5 Q5 fun y L6 H6 k6 h6 => q5 y L6 H6 (fun H7 h7 => ?_) h6
    obtain ⟨a, e1, e2, L', h', n⟩ := k6 H7 h7
    exact ⟨a, e1, e2, L', h', f _ n⟩
  | false =>
    rw [if_neg Bool.false_ne_true] at k4 ⊢
    exact f _ k4
/-- what a turn leaves -/
def LcN {γ : Type} (T : List (Addr × Str)) (acc : Addr → γ → SA) (φ : Nat → γ → Prop) (L1 : List SA) (D : Addr) (i : Nat) : List SA → Prop := fun L' => ∃ g', φ (i + 1) g' ∧ Ent T L' (acc D g' :: L1)
theorem lcn_fit {γ : Type} {acc : Addr → γ → SA} {φ : Nat → γ → Prop} {L1 : List SA} {D : Addr} {i : Nat} {L' : List SA} (h : LcN T acc φ L1 D i L') : FitL T (fun L' => ∃ g', φ (i + 1) g' ∧ L' = acc D g' :: L1) L' := by
  obtain ⟨g', hg, e⟩ := h
  exact ⟨_, e, g', hg, rfl⟩
theorem start_acc {γ : Type} {acc : Addr → γ → SA} {g0 : γ} {D : Addr} {L1 : List SA} {H1 : Hp} (h0 : ∀ D h, pt D (.lst []) h → acc D g0 h) (h1 : Hs T L1 H1) (hD : H1 D = none) : Hs T (acc D g0 :: L1) (upd H1 D (.lst [])) := by
  have h2 : Hs T (pt D (.lst []) :: L1) (upd H1 D (.lst [])) := h1.new hD fun _ => nofun
  exact h2.imp fun h => h0 D h
/-- how a comprehension goes on behind its iterable: n turns, item i is x, known by Lx -/
def LcGo (T : List (Addr × Str)) (X : Cx) (scope : Scope) (tg elt : Expr) (ifs : List Expr) (vs : List Nat) (σ σ0 : St) (L1 : List SA) (n : Nat) (item : Nat → V → List SA → Prop) (K : GK) : Prop :=
  ∃ (γ : Type) (acc : Addr → γ → SA) (φ : Nat → γ → Prop) (g0 : γ), φ 0 g0 ∧ (∀ D h, pt D (.lst []) h → acc D g0 h) ∧
    (∀ D i x Lx g, i < n → item i x Lx → φ i g → LcTurn T X scope tg elt ifs vs σ σ0 D x (Lx ++ acc D g :: L1) (LcN T acc φ L1 D i)) ∧ ∀ D g, φ n g → K (.ref D) (acc D g :: L1)
theorem lcgo {γ : Type} {L1 : List SA} {n : Nat} {item : Nat → V → List SA → Prop} (acc : Addr → γ → SA) (φ : Nat → γ → Prop) (g0 : γ) (p0 : φ 0 g0) (a0 : ∀ D h, pt D (.lst []) h → acc D g0 h)
    (hs : ∀ D i x Lx g, i < n → item i x Lx → φ i g → LcTurn T X scope tg elt ifs vs σ σ0 D x (Lx ++ acc D g :: L1) (LcN T acc φ L1 D i)) (hd : ∀ D g, φ n g → K (.ref D) (acc D g :: L1)) : LcGo T X scope tg elt ifs vs σ σ0 L1 n item K := ⟨γ, acc, φ, g0, p0, a0, hs, hd⟩
theorem ps_setLcW {N : List Str} {ks : List (Str × NameKind)} {wi : TI} {i : Nat} {y : Str} {py spos : Pos} (n : Nm X N ks) (hc : X.calm = true) (hy : X.N[i]? = some y) (hyl : X.env.scope.names.lookup y = some .local)
    (hsw : swapsWith (.ListComp elt [⟨tg, iter, ifs, 0⟩] scope pos) (some (.Name y py)) spos.line X.env = pure true) (hi : PI X tg iter wi) (ok : BlkOk X.N X.env.scope scope own) (hf : ∀ x, foldedSetIterable iter X.env x = pure x) :
    PS X (.Assign [.Name y py] (.ListComp elt [⟨tg, iter, ifs, 0⟩] scope pos) spos) (tAsg (tLc wi (gB X scope tg) (tB_ X scope ifs) (eB X scope elt) (own.map (·.2))) (gName i)) :=
  ps_setLc hc (by rw [n.nn]; exact n.nd) hy hyl hsw hi ok (fun s H C cl fp => ⟨fun pins s' σ H' v u Q I r h => h s H C cl fp pins s' u I r⟩) (fun s H C cl fp => ⟨fun pins s' σ H' Q I h => h s H C cl fp pins s' I⟩) (fun s H C cl fp => ⟨fun pins s' σ H' Q I h => h s H C cl fp pins s' I⟩) hf
/-- over a list, plain -/
theorem lcL_core {own : List (Str × Nat)} (hw : Wp σ (own.map (·.2)) σ0)
    (h0 : GE T X iter σ L fun v L1 => ∃ (l : Addr) (xs : List V), v = .ref l ∧ (∃ R, Sel L1 (pt l (.lst xs)) R) ∧ LcGo T X scope tg elt ifs (own.map (·.2)) σ σ0 L1 xs.length (fun i x Lx => xs[i]? = some x ∧ Lx = []) K) : WE T (tLc (iList X.K (eW X iter)) (gB X scope tg) (tB_ X scope ifs) (eB X scope elt) (own.map (·.2))) σ L K := by
  refine fun H hh Q q => h0 H hh _ fun v L1 H1 ⟨l, xs, ev, ⟨R1, s1⟩, γ, acc, φ, g0, p0, a0, hs, hd⟩ h1 => ⟨l, ev, ⟨xs, SqL.of (h1.at s1)⟩, fun D hD => ?_⟩
  have sel : ∀ {g}, Sel (acc D g :: L1) (pt l (.lst xs)) (acc D g :: R1) := fun {g} => .there s1
  refine wlc (Itl X.K l) xs.length D (fun i L' => ∃ g, φ i g ∧ L' = acc D g :: L1) hw.eq (fun L H i h => ?_) (fun i L H hi iv h => ?_) (fun i L H hi iv h x H' y => ?_) ⟨_, ⟨g0, p0, rfl⟩, start_acc a0 h1 hD⟩ fun L' H' iv h' => ?_
  · obtain ⟨g, pg, rfl⟩ := i
    exact ⟨xs, SqL.of (h.at sel), Nat.le_refl _⟩
  · obtain ⟨g, pg, rfl⟩ := iv
    exact ⟨xs, xs[i], SqL.of (h.at sel), by simp [hi]⟩
  · obtain ⟨g, pg, rfl⟩ := iv
    obtain ⟨e, y⟩ := y
    subst e
    exact ⟨_, h, lct_imp (hs D i x [] g hi ⟨y xs (SqL.of (h.at sel)), rfl⟩ pg) fun _ => lcn_fit⟩
  · obtain ⟨g, pg, rfl⟩ := iv
    exact q _ _ _ (hd D g pg) h'
theorem ge_lcL (own : List (Str × Nat)) (hc : X.calm = true) (hN : X.N.Nodup) (ok : BlkOk X.N X.env.scope scope own) (hw : Wp σ (own.map (·.2)) σ0) (hf : ∀ x, foldedSetIterable iter X.env x = pure x)
    (h0 : GE T X iter σ L fun v L1 => ∃ (l : Addr) (xs : List V), v = .ref l ∧ (∃ R, Sel L1 (pt l (.lst xs)) R) ∧ LcGo T X scope tg elt ifs (own.map (·.2)) σ σ0 L1 xs.length (fun i x Lx => xs[i]? = some x ∧ Lx = []) K) : GE T X (.ListComp elt [⟨tg, iter, ifs, 0⟩] scope pos) σ L K := GE.of (pe_lcW hc hN (pi_list peW) ok hf) (lcL_core hw h0)
theorem gs_lcL {N : List Str} {ks : List (Str × NameKind)} {y : Str} {py spos : Pos} {f : V → St} {D : EndsL} (own : List (Str × Nat)) (n : Nm X N ks) (s : Slot N σ y f) (h : Kd ks y .local) (hc : X.calm = true) (ok : BlkOk X.N X.env.scope scope own) (hw : Wp σ (own.map (·.2)) σ0) (hf : ∀ x, foldedSetIterable iter X.env x = pure x)
    (hsw : swapsWith (.ListComp elt [⟨tg, iter, ifs, 0⟩] scope pos) (some (.Name y py)) spos.line X.env = pure true)
    (h0 : GE T X iter σ L fun v L1 => ∃ (l : Addr) (xs : List V), v = .ref l ∧ (∃ R, Sel L1 (pt l (.lst xs)) R) ∧ LcGo T X scope tg elt ifs (own.map (·.2)) σ σ0 L1 xs.length (fun i x Lx => xs[i]? = some x ∧ Lx = []) (fun v L' => D.nx (f v) L')) : GS T X (.Assign [.Name y py] (.ListComp elt [⟨tg, iter, ifs, 0⟩] scope pos) spos) D σ L := by
  obtain ⟨i, h1, h2⟩ := s.ix
  exact GS.of (ps_setLcW (i := i) n hc (by rw [n.nn]; exact h1) (n.look h) hsw (pi_list peW) ok hf) fun H hs D0 l => lcL_core hw h0 H hs _ fun v L' H' k h' => l.nx _ _ _ (by rw [← h2]; exact k) h'
/-- over a list of data -/
theorem lcR_core {own : List (Str × Nat)} (hw : Wp σ (own.map (·.2)) σ0)
    (h0 : GE T X iter σ L fun v L1 => ∃ (l : Addr) (α : Type) (R : PRep α) (ds : List α), v = .ref l ∧ (∃ R0, Sel L1 (LstR R l ds) R0) ∧ LcGo T X scope tg elt ifs (own.map (·.2)) σ σ0 L1 ds.length (fun i x Lx => ∃ d, ds[i]? = some d ∧ Lx = [Val R x d]) K) : WE T (tLc (iList X.K (eW X iter)) (gB X scope tg) (tB_ X scope ifs) (eB X scope elt) (own.map (·.2))) σ L K := by
  refine fun H hh Q q => h0 H hh _ fun v L1 H1 ⟨l, α, R, ds, ev, ⟨R1, s1⟩, γ, acc, φ, g0, p0, a0, hs, hd⟩ h1 => ?_
  obtain ⟨xs1, e1, _⟩ := h1.atR s1
  refine ⟨l, ev, ⟨xs1, SqL.of e1⟩, fun D hD => ?_⟩
  have sel : ∀ {g}, Sel (acc D g :: L1) (LstR R l ds) (acc D g :: R1) := fun {g} => .there s1
  refine wlc (Itl X.K l) ds.length D (fun i L' => ∃ g, φ i g ∧ L' = acc D g :: L1) hw.eq (fun L H i h => ?_) (fun i L H hi iv h => ?_) (fun i L H hi iv h x H' y => ?_) ⟨_, ⟨g0, p0, rfl⟩, start_acc a0 h1 hD⟩ fun L' H' iv h' => ?_
  · obtain ⟨g, pg, rfl⟩ := i
    obtain ⟨xs, e, r⟩ := h.atR sel
    exact ⟨xs, SqL.of e, Nat.le_of_eq r.length⟩
  · obtain ⟨g, pg, rfl⟩ := iv
    obtain ⟨xs, e, r⟩ := h.atR sel
    have : i < xs.length := by rw [r.length]; exact hi
    exact ⟨xs, xs[i], SqL.of e, by simp [this]⟩
  · obtain ⟨g, pg, rfl⟩ := iv
    obtain ⟨xs, e, r⟩ := h.atR sel
    obtain ⟨e2, y⟩ := y
    subst e2
    obtain ⟨d, hd', rr⟩ := r.get' (y xs (SqL.of e))
    exact ⟨_, h.addP Val.pers rr, lct_imp (hs D i x _ g hi ⟨d, hd', rfl⟩ pg) fun _ => lcn_fit⟩
  · obtain ⟨g, pg, rfl⟩ := iv
    exact q _ _ _ (hd D g pg) h'
theorem ge_lcR (own : List (Str × Nat)) (hc : X.calm = true) (hN : X.N.Nodup) (ok : BlkOk X.N X.env.scope scope own) (hw : Wp σ (own.map (·.2)) σ0) (hf : ∀ x, foldedSetIterable iter X.env x = pure x)
    (h0 : GE T X iter σ L fun v L1 => ∃ (l : Addr) (α : Type) (R : PRep α) (ds : List α), v = .ref l ∧ (∃ R0, Sel L1 (LstR R l ds) R0) ∧ LcGo T X scope tg elt ifs (own.map (·.2)) σ σ0 L1 ds.length (fun i x Lx => ∃ d, ds[i]? = some d ∧ Lx = [Val R x d]) K) : GE T X (.ListComp elt [⟨tg, iter, ifs, 0⟩] scope pos) σ L K := GE.of (pe_lcW hc hN (pi_list peW) ok hf) (lcR_core hw h0)
theorem gs_lcR {N : List Str} {ks : List (Str × NameKind)} {y : Str} {py spos : Pos} {f : V → St} {D : EndsL} (own : List (Str × Nat)) (n : Nm X N ks) (s : Slot N σ y f) (h : Kd ks y .local) (hc : X.calm = true) (ok : BlkOk X.N X.env.scope scope own) (hw : Wp σ (own.map (·.2)) σ0) (hf : ∀ x, foldedSetIterable iter X.env x = pure x)
    (hsw : swapsWith (.ListComp elt [⟨tg, iter, ifs, 0⟩] scope pos) (some (.Name y py)) spos.line X.env = pure true)
    (h0 : GE T X iter σ L fun v L1 => ∃ (l : Addr) (α : Type) (R : PRep α) (ds : List α), v = .ref l ∧ (∃ R0, Sel L1 (LstR R l ds) R0) ∧ LcGo T X scope tg elt ifs (own.map (·.2)) σ σ0 L1 ds.length (fun i x Lx => ∃ d, ds[i]? = some d ∧ Lx = [Val R x d]) (fun v L' => D.nx (f v) L')) : GS T X (.Assign [.Name y py] (.ListComp elt [⟨tg, iter, ifs, 0⟩] scope pos) spos) D σ L := by
  obtain ⟨i, h1, h2⟩ := s.ix
  exact GS.of (ps_setLcW (i := i) n hc (by rw [n.nn]; exact h1) (n.look h) hsw (pi_list peW) ok hf) fun H hs D0 l => lcR_core hw h0 H hs _ fun v L' H' k h' => l.nx _ _ _ (by rw [← h2]; exact k) h'
/-- over a tuple of data -/
theorem lcT_core {own : List (Str × Nat)} (hw : Wp σ (own.map (·.2)) σ0)
    (h0 : GE T X iter σ L fun v L1 => ∃ (α : Type) (R : PRep α) (ds : List α), Rv T L1 v (rTl R) ds ∧ LcGo T X scope tg elt ifs (own.map (·.2)) σ σ0 (Val (rTl R) v ds :: L1) ds.length (fun i x Lx => ∃ d, ds[i]? = some d ∧ Lx = [Val R x d]) K) : WE T (tLc (iTup X.K (eW X iter)) (gB X scope tg) (tB_ X scope ifs) (eB X scope elt) (own.map (·.2))) σ L K := by
  refine fun H hh Q q => h0 H hh _ fun v L1 H1 ⟨α, R, ds, r1, γ, acc, φ, g0, p0, a0, hs, hd⟩ h1 => ?_
  obtain ⟨l, xs1, ev0, e1, _⟩ := r1 H1 h1
  subst ev0
  have h1' := h1.addP (F := Val (rTl R) (.ref l) ds) Val.pers (r1 H1 h1)
  have get : ∀ {D : Addr} {g : γ} {H : Hp}, Hs T (acc D g :: Val (rTl R) (.ref l) ds :: L1) H → ∃ xs, H l = some (.tup xs) ∧ A2r R H xs ds := fun {D g H} h => by
    obtain ⟨l', xs, ev, e, r⟩ := h.getP (F := Val (rTl R) (.ref l) ds) Val.pers (.there .here)
    cases ev
    exact ⟨xs, e, r⟩
  refine ⟨l, rfl, ⟨xs1, SqT.of e1⟩, fun D hD => ?_⟩
  refine wlc (Itt X.K l) ds.length D (fun i L' => ∃ g, φ i g ∧ L' = acc D g :: Val (rTl R) (.ref l) ds :: L1) hw.eq (fun L H i h => ?_) (fun i L H hi iv h => ?_) (fun i L H hi iv h x H' y => ?_) ⟨_, ⟨g0, p0, rfl⟩, start_acc a0 h1' hD⟩ fun L' H' iv h' => ?_
  · obtain ⟨g, pg, rfl⟩ := i
    obtain ⟨xs, e, r⟩ := get h
    exact ⟨xs, SqT.of e, Nat.le_of_eq r.length⟩
  · obtain ⟨g, pg, rfl⟩ := iv
    obtain ⟨xs, e, r⟩ := get h
    have : i < xs.length := by rw [r.length]; exact hi
    exact ⟨xs, xs[i], SqT.of e, by simp [this]⟩
  · obtain ⟨g, pg, rfl⟩ := iv
    obtain ⟨xs, e, r⟩ := get h
    obtain ⟨e2, y⟩ := y
    subst e2
    obtain ⟨d, hd', rr⟩ := r.get' (y xs (SqT.of e))
    exact ⟨_, h.addP Val.pers rr, lct_imp (hs D i x _ g hi ⟨d, hd', rfl⟩ pg) fun _ => lcn_fit⟩
  · obtain ⟨g, pg, rfl⟩ := iv
    exact q _ _ _ (hd D g pg) h'
theorem ge_lcT (own : List (Str × Nat)) (hc : X.calm = true) (hN : X.N.Nodup) (ok : BlkOk X.N X.env.scope scope own) (hw : Wp σ (own.map (·.2)) σ0) (hf : ∀ x, foldedSetIterable iter X.env x = pure x)
    (h0 : GE T X iter σ L fun v L1 => ∃ (α : Type) (R : PRep α) (ds : List α), Rv T L1 v (rTl R) ds ∧ LcGo T X scope tg elt ifs (own.map (·.2)) σ σ0 (Val (rTl R) v ds :: L1) ds.length (fun i x Lx => ∃ d, ds[i]? = some d ∧ Lx = [Val R x d]) K) : GE T X (.ListComp elt [⟨tg, iter, ifs, 0⟩] scope pos) σ L K := GE.of (pe_lcW hc hN (pi_tup peW) ok hf) (lcT_core hw h0)
theorem gs_lcT {N : List Str} {ks : List (Str × NameKind)} {y : Str} {py spos : Pos} {f : V → St} {D : EndsL} (own : List (Str × Nat)) (n : Nm X N ks) (s : Slot N σ y f) (h : Kd ks y .local) (hc : X.calm = true) (ok : BlkOk X.N X.env.scope scope own) (hw : Wp σ (own.map (·.2)) σ0) (hf : ∀ x, foldedSetIterable iter X.env x = pure x)
    (hsw : swapsWith (.ListComp elt [⟨tg, iter, ifs, 0⟩] scope pos) (some (.Name y py)) spos.line X.env = pure true)
    (h0 : GE T X iter σ L fun v L1 => ∃ (α : Type) (R : PRep α) (ds : List α), Rv T L1 v (rTl R) ds ∧ LcGo T X scope tg elt ifs (own.map (·.2)) σ σ0 (Val (rTl R) v ds :: L1) ds.length (fun i x Lx => ∃ d, ds[i]? = some d ∧ Lx = [Val R x d]) (fun v L' => D.nx (f v) L')) : GS T X (.Assign [.Name y py] (.ListComp elt [⟨tg, iter, ifs, 0⟩] scope pos) spos) D σ L := by
  obtain ⟨i, h1, h2⟩ := s.ix
  exact GS.of (ps_setLcW (i := i) n hc (by rw [n.nn]; exact h1) (n.look h) hsw (pi_tup peW) ok hf) fun H hs D0 l => lcT_core hw h0 H hs _ fun v L' H' k h' => l.nx _ _ _ (by rw [← h2]; exact k) h'
/-- over range(n) -/
theorem lcN_core {a : Expr} {own : List (Str × Nat)} (hw : Wp σ (own.map (·.2)) σ0)
    (h0 : GA T X [a] σ L fun vs L1 => ∃ n, vs = [.int n] ∧ -(2 ^ 62) ≤ n ∧ n < 2 ^ 62 ∧ LcGo T X scope tg elt ifs (own.map (·.2)) σ σ0 L1 n.toNat (fun i x Lx => x = .int (i : Nat) ∧ Lx = []) K) : WE T (tLc (iRng1 (aW X [a])) (gB X scope tg) (tB_ X scope ifs) (eB X scope elt) (own.map (·.2))) σ L K := by
  refine fun H hh Q q => h0 H hh _ fun vs L1 H1 ⟨n, ev, b1, b2, γ, acc, φ, g0, p0, a0, hs, hd⟩ h1 => ⟨n, ev, b1, b2, fun D hD => ?_⟩
  refine wlc (Itr 0 n.toNat) n.toNat D (fun i L' => ∃ g, φ i g ∧ L' = acc D g :: L1) hw.eq (fun L H i h => Nat.le_refl _) (fun i L H hi iv h => hi) (fun i L H hi iv h x H' y => ?_) ⟨_, ⟨g0, p0, rfl⟩, start_acc a0 h1 hD⟩ fun L' H' iv h' => ?_
  · obtain ⟨g, pg, rfl⟩ := iv
    obtain ⟨e, y⟩ := y
    subst e
    subst y
    refine ⟨_, h, ?_⟩
    rw [Int.zero_add]
    exact lct_imp (hs D i _ [] g hi ⟨rfl, rfl⟩ pg) fun _ => lcn_fit
  · obtain ⟨g, pg, rfl⟩ := iv
    exact q _ _ _ (hd D g pg) h'
theorem ge_lcN {a : Expr} {p p2 : Pos} (own : List (Str × Nat)) (hc : X.calm = true) (hN : X.N.Nodup) (ok : BlkOk X.N X.env.scope scope own) (hw : Wp σ (own.map (·.2)) σ0) (hg : Gl X "range") (hm : X.mg "range" = none)
    (hst : starEach [a] X.env = [(false, eval a X.env)]) (hf : ∀ x, foldedSetIterable (.Call (.Name "range" p) [a] [] p2) X.env x = pure x)
    (h0 : GA T X [a] σ L fun vs L1 => ∃ n, vs = [.int n] ∧ -(2 ^ 62) ≤ n ∧ n < 2 ^ 62 ∧ LcGo T X scope tg elt ifs (own.map (·.2)) σ σ0 L1 n.toNat (fun i x Lx => x = .int (i : Nat) ∧ Lx = []) K) : GE T X (.ListComp elt [⟨tg, (.Call (.Name "range" p) [a] [] p2), ifs, 0⟩] scope pos) σ L K := GE.of (pe_lcW hc hN (pi_range1 hg hm paW hst) ok hf) (lcN_core hw h0)
theorem gs_lcN {a : Expr} {p p2 : Pos} {N : List Str} {ks : List (Str × NameKind)} {y : Str} {py spos : Pos} {f : V → St} {D : EndsL} (own : List (Str × Nat)) (n : Nm X N ks) (s : Slot N σ y f) (h : Kd ks y .local) (hc : X.calm = true) (ok : BlkOk X.N X.env.scope scope own) (hw : Wp σ (own.map (·.2)) σ0) (hg : Gl X "range") (hm : X.mg "range" = none)
    (hst : starEach [a] X.env = [(false, eval a X.env)]) (hf : ∀ x, foldedSetIterable (.Call (.Name "range" p) [a] [] p2) X.env x = pure x)
    (hsw : swapsWith (.ListComp elt [⟨tg, (.Call (.Name "range" p) [a] [] p2), ifs, 0⟩] scope pos) (some (.Name y py)) spos.line X.env = pure true)
    (h0 : GA T X [a] σ L fun vs L1 => ∃ n, vs = [.int n] ∧ -(2 ^ 62) ≤ n ∧ n < 2 ^ 62 ∧ LcGo T X scope tg elt ifs (own.map (·.2)) σ σ0 L1 n.toNat (fun i x Lx => x = .int (i : Nat) ∧ Lx = []) (fun v L' => D.nx (f v) L')) : GS T X (.Assign [.Name y py] (.ListComp elt [⟨tg, (.Call (.Name "range" p) [a] [] p2), ifs, 0⟩] scope pos) spos) D σ L := by
  obtain ⟨i, h1, h2⟩ := s.ix
  exact GS.of (ps_setLcW (i := i) n hc (by rw [n.nn]; exact h1) (n.look h) hsw (pi_range1 hg hm paW hst) ok hf) fun H hs D0 l => lcN_core hw h0 H hs _ fun v L' H' k h' => l.nx _ _ _ (by rw [← h2]; exact k) h'
end
end SW
set_option Elab.async false
set_option linter.all false
set_option maxRecDepth 100000
set_option maxHeartbeats 2000000
/-! Sw7: methods of lists; slices; sums of lists; stores by an operator; raise. -/
namespace SW
open PySem PySem.Spec L2
open PyProof.Rows hiding St
def HasL (T : List (Addr × Str)) (L : List SA) (p : Addr) : Prop := ∀ H, Hs T L H → ∃ xs, H p = some (.lst xs)
section
variable {T : List (Addr × Str)} {X : Cx} {σ : St} {L L1 L' R' : List SA} {K : GK} {D : EndsL} {o e : Expr} {es : List Expr} {apos cpos pos p2 : Pos} {α : Type} {R : PRep α} {p : Addr} {v x y : V}
theorem hasL_pt {xs : List V} (s : Sel L (pt p (.lst xs)) R') : HasL T L p := fun H h => ⟨xs, h.at s⟩
theorem hasL_R {ds : List α} (s : Sel L (LstR R p ds) R') : HasL T L p := fun H h => by
  obtain ⟨xs, e, _⟩ := h.atR s
  exact ⟨xs, e⟩
/-! ### append -/
def GApp (T : List (Addr × Str)) (p : Addr) (y : V) (L : List SA) (N : List SA → Prop) : Prop := ∀ H, Hs T L H → ∃ xs, H p = some (.lst xs) ∧ xs.length < sizeLine ∧ ∃ L', Hs T L' (upd H p (.lst (xs ++ [y]))) ∧ N L'
theorem gapp_pt {xs : List V} {N : List SA → Prop} (r : Rpl L (pt p (.lst xs)) (pt p (.lst (xs ++ [y]))) L') (hz : xs.length < sizeLine) (n : N L') : GApp T p y L N := lcend_pt r hz n
theorem gapp_R {ds : List α} {d : α} {N : List SA → Prop} (r : Rpl L (LstR R p ds) (LstR R p (ds ++ [d])) L') (hz : ds.length < sizeLine) (hv : Rv T L y R d) (n : N L') : GApp T p y L N := lcend_R r hz hv n
theorem ge_append (hbase : attributeBase o "append" X.env (eval o X.env) = eval o X.env) (hfew : ((backTo cpos (starEach [e] X.env)).all (fun x => !x.1) && (backToKw cpos (keywordEach [] X.env)).all (fun x => x.1.isSome)
      && decide (([e] : List Expr).length + ([] : List Keyword).length + (if ([] : List Keyword).isEmpty then 0 else 1) < 30)) = true) (hline : (apos.endLine == cpos.line) = true) (hs : starEach [e] X.env = (false, eval e X.env) :: starEach [] X.env) (hplain : (backTo cpos (starEach [] X.env)).any (·.1) = false)
    (h : GE T X o σ L fun v L1 => ∃ p, v = .ref p ∧ HasL T L1 p ∧ GE T X e σ L1 fun y L2 => GApp T p y L2 (K .non)) : GE T X (.Call (.Attribute o "append" apos) [e] [] cpos) σ L K :=
  GE.of (pe_bm PySem.F.plainAttrs_list PySem.F.slot_list_append PySem.F.type_list_append mt_append peW (pa_cons peW pa_nil hs) hbase hfew hline hs hplain) fun H hh Q q => h H hh _ fun v L1 H1 ⟨p, ev, hp, k1⟩ h1 => by
    subst ev
    obtain ⟨xs, e1⟩ := hp H1 h1
    refine ⟨.inl ⟨rfl, xs, SqL.of e1⟩, k1 H1 h1 _ fun y L2 H2 k2 h2 => ?_⟩
    obtain ⟨ys, e2, hz, L', h', n⟩ := k2 H2 h2
    exact ⟨p, ys, y, rfl, rfl, e2, hz, q _ _ _ n h'⟩
/-! ### extend -/
def GExt (T : List (Addr × Str)) (p : Addr) (y : V) (L : List SA) (N : List SA → Prop) : Prop := ∀ H, Hs T L H → ∃ b xs zs, y = .ref b ∧ H p = some (.lst xs) ∧ H b = some (.lst zs) ∧ xs.length + zs.length ≤ sizeLine ∧ ∃ L', Hs T L' (upd H p (.lst (xs ++ zs))) ∧ N L'
theorem gext_R {b : Addr} {ds es : List α} {N : List SA → Prop} {Q : List SA} (s : Sel L (LstR R b es) Q) (r : Rpl L (LstR R p ds) (LstR R p (ds ++ es)) L') (hz : ds.length + es.length ≤ sizeLine) (n : N L') : GExt T p (.ref b) L N := fun H h => by
  obtain ⟨Q2, s2⟩ := r.sel
  obtain ⟨xs, e1, a1⟩ := h.atR s2
  obtain ⟨zs, e2, a2⟩ := h.atR s
  exact ⟨b, xs, zs, rfl, e1, e2, by rw [a1.length, a2.length]; exact hz, L', h.rplR r (a1.app a2), n⟩
theorem gext_pt {b : Addr} {xs zs : List V} {N : List SA → Prop} {Q : List SA} (s : Sel L (pt b (.lst zs)) Q) (r : Rpl L (pt p (.lst xs)) (pt p (.lst (xs ++ zs))) L') (hz : xs.length + zs.length ≤ sizeLine) (n : N L') : GExt T p (.ref b) L N := fun H h => by
  obtain ⟨Q2, s2⟩ := r.sel
  exact ⟨b, xs, zs, rfl, h.at s2, h.at s, hz, L', h.rpl r (by exact True.intro) fun _ => nofun, n⟩
theorem ge_extend (hbase : attributeBase o "extend" X.env (eval o X.env) = eval o X.env) (hfew : ((backTo cpos (starEach [e] X.env)).all (fun x => !x.1) && (backToKw cpos (keywordEach [] X.env)).all (fun x => x.1.isSome)
      && decide (([e] : List Expr).length + ([] : List Keyword).length + (if ([] : List Keyword).isEmpty then 0 else 1) < 30)) = true) (hline : (apos.endLine == cpos.line) = true) (hs : starEach [e] X.env = (false, eval e X.env) :: starEach [] X.env) (hplain : (backTo cpos (starEach [] X.env)).any (·.1) = false)
    (h : GE T X o σ L fun v L1 => ∃ p, v = .ref p ∧ HasL T L1 p ∧ GE T X e σ L1 fun y L2 => GExt T p y L2 (K .non)) : GE T X (.Call (.Attribute o "extend" apos) [e] [] cpos) σ L K :=
  GE.of (pe_bm PySem.F.plainAttrs_list PySem.F.slot_list_extend PySem.F.type_list_extend mt_extend peW (pa_cons peW pa_nil hs) hbase hfew hline hs hplain) fun H hh Q q => h H hh _ fun v L1 H1 ⟨p, ev, hp, k1⟩ h1 => by
    subst ev
    obtain ⟨xs, e1⟩ := hp H1 h1
    refine ⟨.inl ⟨rfl, xs, SqL.of e1⟩, k1 H1 h1 _ fun y L2 H2 k2 h2 => ?_⟩
    obtain ⟨b, xs2, zs, ey, e2, e3, hz, L', h', n⟩ := k2 H2 h2
    subst ey
    exact ⟨p, b, xs2, zs, rfl, rfl, e2, e3, hz, q _ _ _ n h'⟩
/-! ### pop -/
def GPop (T : List (Addr × Str)) (p : Addr) (i : Int) (L : List SA) (K : GK) : Prop := ∀ H, Hs T L H → ∃ xs k y, H p = some (.lst xs) ∧ -(2 ^ 63) ≤ i ∧ i < 2 ^ 63 ∧ seqIndex? i xs.length = some k ∧ xs[k]? = some y ∧ ∃ L', Hs T L' (upd H p (.lst (xs.eraseIdx k))) ∧ K y L'
theorem gpop0_R {d : α} {ds : List α} (r : Rpl L (LstR R p (d :: ds)) (LstR R p ds) L') (k : ∀ y, K y (Val R y d :: L')) : GPop T p 0 L K := fun H h => by
  obtain ⟨Q2, s2⟩ := r.sel
  obtain ⟨xs, e1, a1⟩ := h.atR s2
  cases a1 with
  | @cons x _ xs' _ r1 t1 =>
    refine ⟨x :: xs', 0, x, e1, by omega, by omega, ?_, rfl, _, (h.rplR r (show A2r R H xs' ds from t1)).addP Val.pers (R.mono (fun b zs eb => ?_) r1), k x⟩
    · exact seqIndex_of (by omega) (by simp only [List.length_cons]; omega)
    · rw [upd_ne (ne_of eb e1 (by intro z; cases z))]; exact eb
theorem gpop0_pt {z : V} {xs : List V} (r : Rpl L (pt p (.lst (z :: xs))) (pt p (.lst xs)) L') (k : K z L') : GPop T p 0 L K := fun H h => by
  obtain ⟨Q2, s2⟩ := r.sel
  exact ⟨z :: xs, 0, z, h.at s2, by omega, by omega, seqIndex_of (by omega) (by simp only [List.length_cons]; omega), rfl, L', h.rpl r (by exact True.intro) fun _ => nofun, k⟩
theorem ge_popAt (hbase : attributeBase o "pop" X.env (eval o X.env) = eval o X.env) (hfew : ((backTo cpos (starEach [e] X.env)).all (fun x => !x.1) && (backToKw cpos (keywordEach [] X.env)).all (fun x => x.1.isSome)
      && decide (([e] : List Expr).length + ([] : List Keyword).length + (if ([] : List Keyword).isEmpty then 0 else 1) < 30)) = true) (hline : (apos.endLine == cpos.line) = true) (hs : starEach [e] X.env = (false, eval e X.env) :: starEach [] X.env) (hplain : (backTo cpos (starEach [] X.env)).any (·.1) = false)
    (h : GE T X o σ L fun v L1 => ∃ p, v = .ref p ∧ HasL T L1 p ∧ GE T X e σ L1 fun y L2 => ∃ i, y = .int i ∧ GPop T p i L2 K) : GE T X (.Call (.Attribute o "pop" apos) [e] [] cpos) σ L K :=
  GE.of (pe_bm PySem.F.plainAttrs_list PySem.F.slot_list_pop PySem.F.type_list_pop mt_popAt peW (pa_cons peW pa_nil hs) hbase hfew hline hs hplain) fun H hh Q q => h H hh _ fun v L1 H1 ⟨p, ev, hp, k1⟩ h1 => by
    subst ev
    obtain ⟨xs, e1⟩ := hp H1 h1
    refine ⟨.inl ⟨rfl, xs, SqL.of e1⟩, k1 H1 h1 _ fun y L2 H2 ⟨i, ey, k2⟩ h2 => ?_⟩
    subst ey
    obtain ⟨xs2, k, y, e2, b1, b2, b3, b4, L', h', n⟩ := k2 H2 h2
    exact ⟨p, xs2, i, k, y, rfl, rfl, e2, b1, b2, b3, b4, q _ _ _ n h'⟩
/-! ### slices -/
def slW (X : Cx) : V → Option Int → Option Int → Hp → VK → Prop := fun x lo hi H Q => ∀ pins s σ v vl vu sl, Inv X pins σ H s → RelV x v → s.heap.IsSliceOf sl vl vu .none → IsPart vl lo → IsPart vu hi →
    ∃ T id, typeLookup (.type T) "__getitem__" = pure (some (.builtin id)) ∧ s.TypeIs v T ∧ wpAny (model X.prog X.w) X.A (getItem v (.ref sl)) (EP X pins σ Q) X.xe s
theorem slWr : SlR X (slW X) := fun pins s σ H x v vl vu lo hi sl Q I rx hs pl pu h => h pins s σ v vl vu sl I rx hs pl pu
def GSl (T : List (Addr × Str)) (X : Cx) (x : V) (lo hi : Option Int) (L : List SA) (K : GK) : Prop := ∀ H, Hs T L H → ∀ Q : VK, (∀ v L' H', K v L' → Hs T L' H' → Q v H') → slW X x lo hi H Q
theorem GSl.of {r : V → Option Int → Option Int → Hp → VK → Prop} {lo hi : Option Int} (hr : SlR X r) (w : ∀ H, Hs T L H → ∀ Q : VK, (∀ v L' H', K v L' → Hs T L' H' → Q v H') → r x lo hi H Q) : GSl T X x lo hi L K :=
  fun H hs Q q pins s σ v vl vu sl I rx hsl pl pu => hr pins s σ H x v vl vu lo hi sl Q I rx hsl pl pu (w H hs Q q)
/-- a part of a slice -/
def GO (T : List (Addr × Str)) (X : Cx) (e : Option Expr) (σ : St) (L : List SA) (K : Option Int → List SA → Prop) : Prop := match e with
  | none => K none L
  | some e => GE T X e σ L fun v L1 => ∃ i, v = .int i ∧ K (some i) L1
def oW (X : Cx) : Option Expr → TO
  | none => tNoPart
  | some e => tPart (eW X e)
theorem poW : ∀ e : Option Expr, PO X e (oW X e)
  | none => po_none
  | some e => po_some peW
theorem go_run {e : Option Expr} {K : Option Int → List SA → Prop} (h : GO T X e σ L K) {H : Hp} (hs : Hs T L H) {Q : Option Int → Hp → Prop} (q : ∀ v L' H', K v L' → Hs T L' H' → Q v H') : oW X e σ H Q := by
  cases e with
  | none => exact q _ _ _ h hs
  | some e => exact h H hs _ fun v L1 H1 ⟨i, ev, k⟩ h1 => ⟨i, ev, q _ _ _ k h1⟩
theorem ge_slice {lo hi : Option Expr} (h : GE T X e σ L fun x L1 => GO T X lo σ L1 fun l L2 => GO T X hi σ L2 fun u L3 => GSl T X x l u L3 K) : GE T X (.Subscript e (.Slice lo hi none p2) pos) σ L K :=
  GE.of (pe_slice slWr peW (poW lo) (poW hi)) fun H hs Q q => h H hs _ fun x L1 H1 k1 h1 => go_run k1 h1 fun l L2 H2 k2 h2 => go_run k2 h2 fun u L3 H3 k3 h3 => k3 H3 h3 Q q
theorem goN {K : Option Int → List SA → Prop} (k : K none L) : GO T X none σ L K := k
theorem goS {e : Expr} {K : Option Int → List SA → Prop} (k : GE T X e σ L fun v L1 => ∃ i, v = .int i ∧ K (some i) L1) : GO T X (some e) σ L K := k
def cutD {α : Type} (ds : List α) (lo hi : Option Int) : List α := (ds.drop (HT.sIx ds.length 0 lo)).take (HT.sIx ds.length ds.length hi - HT.sIx ds.length 0 lo)
theorem cutD_map {β : Type} (f : α → β) (ds : List α) (lo hi : Option Int) : cutD (ds.map f) lo hi = (cutD ds lo hi).map f := by simp [cutD, List.map_take, List.map_drop]
theorem gsl_lst {xs : List V} {lo hi : Option Int} (s : Sel L (pt p (.lst xs)) R') (k : ∀ q, K (.ref q) (pt q (.lst (cutD xs lo hi)) :: L)) : GSl T X (.ref p) lo hi L K :=
  GSl.of sl_list fun H hs Q q => ⟨p, xs, rfl, SqL.of (hs.at s), fun r hr => q _ _ _ (k r) (hs.new hr fun _ => nofun)⟩
theorem A2r.cut {h : Hp} {xs : List V} {ds : List α} (a : A2r R h xs ds) (lo hi : Option Int) : A2r R h (cutV xs lo hi) (cutD ds lo hi) := by
  unfold cutV cutD
  rw [a.length]
  exact (a.drop _).take _
theorem gsl_R {ds : List α} {lo hi : Option Int} (s : Sel L (LstR R p ds) R') (k : ∀ q, K (.ref q) (LstR R q (cutD ds lo hi) :: L)) : GSl T X (.ref p) lo hi L K :=
  GSl.of sl_list fun H hs Q q => by
    obtain ⟨xs, e, a⟩ := hs.atR s
    exact ⟨p, xs, rfl, SqL.of e, fun r hr => q _ _ _ (k r) (hs.newR hr (a.cut lo hi))⟩
/-- a slice of a tuple of data: itself where it is whole -/
theorem gsl_tl {ds : List α} {lo hi : Option Int} (r : Rv T L x (rTl R) ds) (k : ∀ v, K v (Val (rTl R) v (cutD ds lo hi) :: L)) : GSl T X x lo hi L K :=
  GSl.of sl_tupA fun H hs Q q => by
    obtain ⟨a, xs, rfl, e, hr⟩ := r H hs
    refine ⟨a, xs, rfl, SqT.of e, fun hw => ?_, fun _ p hp => ?_⟩
    · have ec : cutD ds lo hi = ds := by
        unfold cutD
        rw [← hr.length, hw.1, hw.2, List.drop_zero, Nat.sub_zero, hr.length, List.take_length]
      exact q _ _ _ (k (.ref a)) (hs.addP Val.pers (by rw [ec]; exact ⟨a, xs, rfl, e, hr⟩))
    · have h2 : Hs T (pt p (.tup (cutV xs lo hi)) :: L) (upd H p (.tup (cutV xs lo hi))) := hs.new hp fun _ => nofun
      refine q _ _ _ (k (.ref p)) (h2.tail.addP Val.pers ⟨p, cutV xs lo hi, rfl, upd_same, (hr.cut lo hi).mono fun b zs eb => ?_⟩)
      rw [upd_ne (ne_of_none eb hp)]; exact eb
end
end SW
set_option Elab.async false
set_option linter.all false
set_option maxRecDepth 100000
set_option maxHeartbeats 2000000
/-! Sw8: rows entailed; entry with closed ends; calls by entailment; operators of lists; raise; lambdas. -/
namespace SW
open PySem PySem.Spec L2
open PyProof.Rows hiding St
section
variable {T : List (Addr × Str)} {X : Cx} {σ : St} {L L' : List SA} {K : GK} {D : EndsL}
theorem GE.ent {e : Expr} (t : Ent T L L') (h : GE T X e σ L' K) : GE T X e σ L K := fun H hs Q k => h H (t H hs) Q k
theorem GT.ent {e : Expr} {K : Bool → List SA → Prop} (t : Ent T L L') (h : GT T X e σ L' K) : GT T X e σ L K := fun H hs Q k => h H (t H hs) Q k
theorem GA.ent {e : List Expr} {K : List V → List SA → Prop} (t : Ent T L L') (h : GA T X e σ L' K) : GA T X e σ L K := fun H hs Q k => h H (t H hs) Q k
theorem GS.ent {e : Stmt} (t : Ent T L L') (h : GS T X e D σ L') : GS T X e D σ L := fun H hs Q k => h H (t H hs) Q k
theorem GSs.ent {e : List Stmt} (t : Ent T L L') (h : GSs T X e D σ L') : GSs T X e D σ L := fun H hs Q k => h H (t H hs) Q k
theorem GC.ent {f : Value} {xs : List V} (t : Ent T L L') (h : GC T X f xs L' K) : GC T X f xs L K := fun H hs Q k => h H (t H hs) Q k
theorem GOp.ent {f : Value → Value → Sem Value} {x y : V} (t : Ent T L L') (h : GOp T X f x y L' K) : GOp T X f x y L K := fun H hs Q k => h H (t H hs) Q k
theorem GIx.ent {x y : V} (t : Ent T L L') (h : GIx T X x y L' K) : GIx T X x y L K := fun H hs Q k => h H (t H hs) Q k
theorem GG.ent {e : Expr} {v : V} {K : St → List SA → Prop} (t : Ent T L L') (h : GG T X e v σ L' K) : GG T X e v σ L K := fun H hs Q k => h H (t H hs) Q k
/-- rows that the heap picks -/
theorem GE.via {e : Expr} (h : ∀ H, Hs T L H → ∃ L', Hs T L' H ∧ GE T X e σ L' K) : GE T X e σ L K := fun H hs Q k => by
  obtain ⟨L', h', g⟩ := h H hs
  exact g H h' Q k
theorem GSs.via {e : List Stmt} (h : ∀ H, Hs T L H → ∃ L', Hs T L' H ∧ GSs T X e D σ L') : GSs T X e D σ L := fun H hs Q k => by
  obtain ⟨L', h', g⟩ := h H hs
  exact g H h' Q k
theorem GS.via {e : Stmt} (h : ∀ H, Hs T L H → ∃ L', Hs T L' H ∧ GS T X e D σ L') : GS T X e D σ L := fun H hs Q k => by
  obtain ⟨L', h', g⟩ := h H hs
  exact g H h' Q k
theorem GSs.mono {e : List Stmt} {D' : EndsL} (h : GSs T X e D' σ L) (n : ∀ σ L, D'.nx σ L → D.nx σ L) (r : ∀ v L, D'.rt v L → D.rt v L) (b : ∀ σ L, D'.bk σ L → D.bk σ L) (c : ∀ σ L, D'.ct σ L → D.ct σ L) : GSs T X e D σ L :=
  fun H hs D0 l => h H hs D0 ⟨fun σ' L' H' k h' => l.nx σ' L' H' (n _ _ k) h', fun v L' H' k h' => l.rt v L' H' (r _ _ k) h', fun σ' L' H' k h' => l.bk σ' L' H' (b _ _ k) h', fun σ' L' H' k h' => l.ct σ' L' H' (c _ _ k) h'⟩
end
theorem Cv.scal {α : Type} {R : PRep α} {f : α → V} {g : α → Prop} (c : Scal R f g) {a : Addr} {ds : List α} (k : ∀ d ∈ ds, g d) : Cv (SW.pt a (.lst (ds.map f))) (LstR R a ds) := fun h e => lstR_pt c k h e
/-! ### entry, ends closed under entailment -/
def Clo (T : List (Addr × Str)) (P : List SA → Prop) : List SA → Prop := fun L => ∃ L0, Ent T L L0 ∧ P L0
theorem Clo.mk {T : List (Addr × Str)} {P : List SA → Prop} {L L0 : List SA} (p : P L0) (e : Ent T L L0) : Clo T P L := ⟨L0, e, p⟩
theorem Clo.id {T : List (Addr × Str)} {P : List SA → Prop} {L : List SA} (p : P L) : Clo T P L := ⟨L, Ent.refl, p⟩
theorem Clo.ent {T : List (Addr × Str)} {P : List SA → Prop} {L L0 : List SA} (e : Ent T L L0) (p : Clo T P L0) : Clo T P L := by
  obtain ⟨L1, e1, p⟩ := p
  exact ⟨L1, e.trans e1, p⟩
def clK (T : List (Addr × Str)) (K : GK) : GK := fun v => Clo T (K v)
def clX (T : List (Addr × Str)) (kx : KX) : KX := fun c d => Clo T (kx c d)
section
variable {T : List (Addr × Str)} {P : Program} {w : World} {K : PySem.W.Frag} {mg : Str → Option Value} {base : Heap} {x qual : Str} {pa : Arguments} {bd : List Stmt} {sc : Scope} {f : Addr} {fd : FuncData} {N ps : List Str} {ks : List (Str × NameKind)} {k : Nat} {S : SpL}
/-- the entry of a def: its ends are closed -/
theorem def_in (F : FunD K x qual pa bd sc [] [] f fd) (S0 : DefSc N ps ks sc) (hl : ∀ vs L K kx, S vs L K kx → vs.length = ps.length)
    (hb : ∀ (A : Around) (outer : List Env) (s : Shared) (H : Hp) (E : XK), Room k (bx P w K mg base N qual sc f fd.code A outer s H E).A → Nm (bx P w K mg base N qual sc f fd.code A outer s H E) N ks → ∀ (vs : List V) (L : List SA) (KK : GK) (kx : KX), S vs L KK kx →
      Xok T (bx P w K mg base N qual sc f fd.code A outer s H E) (clX T kx) → ∀ σ, σ = start N vs → GSs T (bx P w K mg base N qual sc f fd.code A outer s H E) bd { nx := fun _ => Clo T (KK .non), rt := clK T KK } σ L) :
    FnOk P w K mg base (L2.CX P w) (k + 1) f fd ps (spOf T S) := by
  obtain ⟨oc, od, dV, kV, doc, pm, an, cdv0, ct, osl, rfl, lk, hcd, _, _⟩ := F.ex
  refine fn_of lk hcd S0.fs (fun vs H Q E ⟨L, KK, kx, _, h, _⟩ => hl vs L KK kx h) fun A outer s H vs Q E hr hsp => ?_
  obtain ⟨L, KK, kx, hs, h, q, qx⟩ := hsp
  have hx : Xok T (bx P w K mg base N qual sc f cdv0 A outer s H E) (clX T kx) := ⟨fun cls d _ H => E cls d H, takes_of rfl rfl rfl rfl, fun cls d σ L H ⟨L0, e, k⟩ h => qx cls d L0 H k (e H h)⟩
  have g := hb A outer s H E hr ⟨rfl, S0.kseq, S0.fs.nd, S0.kd⟩ vs L KK kx h hx _ rfl
  exact ⟨_, pssW, g H hs _ ⟨fun σ' L' H' ⟨L0, e, k⟩ h => q _ _ _ k (e _ h), fun v L' H' ⟨L0, e, k⟩ h => q _ _ _ k (e _ h), fun _ _ _ k => k.elim, fun _ _ _ k => k.elim⟩⟩
end
/-! ### calls, by entailment -/
/-- what a call asks: rows that the rows at hand entail -/
def CallS (T : List (Addr × Str)) (S : SpL) (vs : List V) (L : List SA) (K : GK) (kx : KX) : Prop := ∃ L', Ent T L L' ∧ S vs L' K kx
theorem CallS.mk {T : List (Addr × Str)} {S : SpL} {vs : List V} {L L' : List SA} {K : GK} {kx : KX} (s : S vs L' K kx) (e : Ent T L L') : CallS T S vs L K kx := ⟨L', e, s⟩
def spE (T : List (Addr × Str)) (S : SpL) : SpL := fun vs L K kx => CallS T S vs L K kx
theorem spE_le {T : List (Addr × Str)} {S : SpL} : ∀ vs H Q E, spOf T (spE T S) vs H Q E → spOf T S vs H Q E := fun vs H Q E ⟨L, K, kx, hs, ⟨L', e, s⟩, q, qx⟩ => ⟨L', K, kx, e H hs, s, q, qx⟩
section
variable {T : List (Addr × Str)} {P : Program} {w : World} {K : PySem.W.Frag} {mg : Str → Option Value} {base : Heap} {k : Nat} {C m x : Str} {S : SpL}
theorem FnAt.e (F : FnAt T P w K mg base k x S) : FnAt T P w K mg base k x (spE T S) := by
  obtain ⟨⟨fd, ps, F1, hb⟩, h2, h3⟩ := F
  exact ⟨⟨fd, ps, F1.imp spE_le, hb⟩, h2, h3⟩
theorem MeAt.e (F : MeAt T P w K mg base k C m S) : MeAt T P w K mg base k C m (spE T S) := by
  obtain ⟨⟨fd, ps, F1, hb⟩, h2, h3⟩ := F
  exact ⟨⟨fd, ps, F1.imp spE_le, hb⟩, h2, h3⟩
theorem MkAt.e (F : MkAt T P w K mg base k C S) : MkAt T P w K mg base k C (spE T S) := by
  obtain ⟨⟨fd, ps, F1, hb⟩, h2, h3⟩ := F
  exact ⟨⟨fd, ps, F1.imp spE_le, hb⟩, h2, h3⟩
theorem FnAt.mono {j : Nat} (F : FnAt T P w K mg base j x S) (h : j ≤ k) : FnAt T P w K mg base k x S := by
  obtain ⟨⟨fd, ps, F1, hb⟩, h2, h3⟩ := F
  exact ⟨⟨fd, ps, F1.mono h, hb⟩, h2, h3⟩
end
/-! ### raise -/
structure ExAt (K : PySem.W.Frag) (mg : Str → Option Value) (x : Str) : Prop where
  glo : mg x = some (.ref (He.ga K x))
  exc : (He.Fa.exc x).ok K = true
section
variable {T : List (Addr × Str)} {X : Cx} {σ : St} {L : List SA} {K : GK} {D : EndsL} {N : List Str} {ks : List (Str × NameKind)} {x : Str} {p p2 pos pos2 : Pos} {kx : KX} {m : Str} {j : Nat}
theorem gs_raise (n : Nm X N ks) (h : Kd ks x .globalImplicit) (hc : X.calm = true) (ex : ExAt X.K X.mg x) (hx : Xok T X kx) (hd : dbg x = false) (k : kx (.ref (He.ga X.K x)) none L) :
    GS T X (.Raise (some (.Call (.Name x p) [.Constant (.str m) j p2] [] pos)) none pos2) D σ L := by
  obtain ⟨W, tk, hW⟩ := hx
  obtain ⟨e1, e2, e3, e4⟩ := He.exc_ok ex.exc
  exact GS.of (ps_raise hc tk (pmk_own PySem.F.excBase_ValueError e1 ex.glo e2 (raises_own e3 e4) (n.gl h) (dbg1 hd))) fun H hs D0 l => hW _ _ _ _ _ k hs
end
/-! ### what a lambda is given to -/
def Catch (K : PySem.W.Frag) : List (Str × Str) → Value → (Str → Prop) → Prop
  | [], _, _ => False
  | (e, r) :: cs, c, P => ∃ b, PySem.W.exmOne K c (.ref (He.ga K e)) = some b ∧ (b = true → P r) ∧ (b = false → Catch K cs c P)
theorem Catch.imp {K : PySem.W.Frag} {P P' : Str → Prop} (f : ∀ r, P r → P' r) : ∀ {cs : List (Str × Str)} {c : Value}, Catch K cs c P → Catch K cs c P'
  | [], _, h => h.elim
  | (e, r) :: cs, c, ⟨b, h1, h2, h3⟩ => ⟨b, h1, fun z => f _ (h2 z), fun z => Catch.imp f (h3 z)⟩
inductive THds (sg : Scope) : List ExceptHandler → List (Str × Str) → Prop
  | nil : THds sg [] []
  | cons {e r : Str} {j : Nat} {p1 p2 p3 p4 : Pos} {hds : List ExceptHandler} {cs : List (Str × Str)} (h : sg.names.lookup e = some .globalImplicit) (hd : (e == ("__debug__" : Str)) = false) (t : THds sg hds cs) :
      THds sg (.ExceptHandler (some (.Name e p1)) none [.Return (some (.Constant (.str r) j p2)) p3] p4 :: hds) ((e, r) :: cs)
def TToldM (K : PySem.W.Frag) (cs : List (Str × Str)) : (XK → Hp → VK → Prop) → Hp → VK → Prop := fun tl H Q => tl (fun cls _ H' => Catch K cs cls fun r => Q (.str r) H') H Q
def tlCs (K : PySem.W.Frag) (cs : List (Str × Str)) : List (Value × (Addr → Value → Option Addr → TS)) := cs.map fun q => (.ref (He.ga K q.1), fun _ _ _ => fun D _ H => D.rt (.str q.2) H)
theorem hds_ok {Y : Cx} {sg : Scope} (hsc : Y.env.scope = sg) {hds : List ExceptHandler} {cs : List (Str × Str)} (t : THds sg hds cs) (hm : ∀ q ∈ cs, Y.mg q.1 = some (.ref (He.ga Y.K q.1))) : HdsOk Y hds (tlCs Y.K cs) := by
  induction t with
  | nil => exact .nil
  | @cons e r j p1 p2 p3 p4 hds cs h hd t ih =>
    exact .cons ⟨by show Y.env.scope.names.lookup e = _; rw [hsc]; exact h, hd, .inl (hm _ List.mem_cons_self)⟩ (fun a oe cls d pn _ _ => pss_one (ps_ret pe_str)) (ih fun q hq => hm q (List.mem_cons_of_mem _ hq))
theorem catch_many {K : PySem.W.Frag} {Wout : WX} {D : Ends} {Q : VK} (hD : D.rt = Q) {σ : St} {H : Hp} {d : Option Addr} : ∀ {cs : List (Str × Str)} {c : Value}, Catch K cs c (fun r => Q (.str r) H) → wMany K Wout D (tlCs K cs) c d σ H
  | [], _, h => h.elim
  | (e, r) :: cs, c, ⟨b, h1, h2, h3⟩ => ⟨b, h1, fun z a _ => by show D.rt (.str r) H; rw [hD]; exact h2 z, fun z => catch_many hD (h3 z)⟩
theorem told_givesM {X : Cx} {Ng : List Str} {x a q : Str} {sg : Scope} {g : Addr} {cdg : Value} {h0 : ExceptHandler} {hds : List ExceptHandler} {cs : List (Str × Str)} {p1 p2 p3 p8 : Pos} (t : THds sg (h0 :: hds) cs) (hm : ∀ q ∈ cs, X.mg q.1 = some (.ref (He.ga X.K q.1)))
    (hi : ∀ f : Addr, (start Ng [V.ref f])[0]? = some (some (V.ref f))) :
    LamX.GivesTo X Ng x sg g cdg [.Try [.Return (some (.Call (.Name a p1) [] [] p2)) p3] (h0 :: hds) [] [] p8] a q (TToldM X.K cs) := by
  intro f c' s H Q tl act hc h
  have tk : Takes (cxOf C8.CX0 X.prog X.w X.K X.mg X.base Ng x sg g cdg X.A X.stack s H C8.E0).nox (fun _ _ _ _ => False) := LamX.takes0
  refine ⟨_, pss_one (ps_try_many (X := (cxOf C8.CX0 X.prog X.w X.K X.mg X.base Ng x sg g cdg X.A X.stack s H C8.E0).nox) (l := tlCs X.K cs)
      (tb := fun W D σ H => ∃ Ech : XK, (∀ cls d σ' H', Ech cls d H' → W cls d σ' H') ∧ σ[0]? = some (some (.ref f)) ∧ H c' = some (LamX.CodeO c' q) ∧ tl Ech H D.rt)
      rfl rfl tk (fun W pn xe tk _ => ?_) (hds_ok (Y := (cxOf C8.CX0 X.prog X.w X.K X.mg X.base Ng x sg g cdg X.A X.stack s H C8.E0).nox) rfl t hm)), ?_⟩
  · refine ⟨fun pins s' σ H' D I h' => ?_⟩
    obtain ⟨Ech, hW, h1, h2, h3⟩ := h'
    have hp := act W pn xe Ech p1 p2 tk hW
    have hq := pss_one (ps_ret (pos := p3) hp)
    exact hq.run pins s' σ H' D I ⟨h1, h2, h3⟩
  · exact ⟨fun cls _ H' => Catch X.K cs cls fun r => Q (.str r) H', fun cls d σ' H' h => catch_many rfl h, hi f, hc, h⟩
/-- the def that calls what it got, and tells the class of what it catches -/
structure ToldAt (K : PySem.W.Frag) (mg : Str → Option Value) (x : Str) (cs : List (Str × Str)) : Prop where
  ex : ∃ (fd : FuncData) (pg : Arguments) (bg : List Stmt) (sg : Scope) (Ng : List Str) (a : Str) (h0 : ExceptHandler) (hds : List ExceptHandler) (p1 p2 p3 p8 : Pos), FunD K x x pg bg sg [] [] (He.ga K x) fd ∧ Binds K fd [a] [] ∧ FnScope Ng [a] sg ∧ Ng[0]? = some a ∧ Vis sg a ∧
    bg = [.Try [.Return (some (.Call (.Name a p1) [] [] p2)) p3] (h0 :: hds) [] [] p8] ∧ THds sg (h0 :: hds) cs ∧ (∀ f : Addr, (start Ng [V.ref f])[0]? = some (some (V.ref f))) ∧ (a == ("__debug__" : Str)) = false ∧ (a == ("__classdict__" : Str)) = false
  mgx : mg x = some (.ref (He.ga K x))
  cls : ∀ q ∈ cs, mg q.1 = some (.ref (He.ga K q.1))
/-- where lambdas of the running def have their code -/
structure LamAt (T : List (Addr × Str)) (X : Cx) : Prop where
  ex : ∃ c P, LamX.TabB X.base X.mg c P ∧ X.env.code = .ref c ∧ (P, X.env.qual ++ "<lambda>") ∈ T ∧ ∀ p ∈ T, p.1 = P → p.2 = X.env.qual ++ "<lambda>"
theorem ge_told {T : List (Addr × Str)} {X : Cx} {σ : St} {L : List SA} {K : GK} {N : List Str} {ks : List (Str × NameKind)} {x : Str} {cs : List (Str × Str)} {k : Nat} {params : Arguments} {body : Expr} {scope : Scope} {p lpos pos : Pos} (n : Nm X N ks) (h : Kd ks x .globalImplicit) (D : ToldAt X.K X.mg x cs) (LA : LamAt T X)
    (hr : Room (k + 2) X.A) (LS : LamX.LamS X.env.scope scope) (hdef : defaultsOf params X.env = ([], [])) (hbind : ∀ (q : Str) (cl : List (Str × Addr)) (pm cv ctv : Value), bindArgs (PySem.W.kla_fn "<lambda>" q params body scope cl pm cv ctv) ⟨[], []⟩ = pure []) (hd : dbg x = false) (nd : (scope.names.map (·.1)).Nodup)
    (hb : ∀ A outer s H E f c', Room k (LamX.lamCx X A outer s H E scope f c').A → Nm (LamX.lamCx X A outer s H E scope f c') N scope.names → Xok T (LamX.lamCx X A outer s H E scope f c') (fun cls _ L' => Catch X.K cs cls fun r => K (.str r) L') → GE T (LamX.lamCx X A outer s H E scope f c') body σ L K) :
    GE T X (.Call (.Name x p) [.Lambda params body scope lpos] [] pos) σ L K := by
  obtain ⟨fd, pg, bg, sg, Ng, a, h0, hds, p1, p2, p3, p8, F, hB, Sg, hNg, hva, ebg, th, hi, ha1, ha2⟩ := D.ex
  subst ebg
  obtain ⟨oc, od, dV, kV, doc, pm, an, cdv, ct, osl, rfl, lk, hcd, _, _⟩ := F.ex
  obtain ⟨c, P, TB, hcode, hmT, hu⟩ := LA.ex
  have hp := LamX.pe_lamcall (T := T) (t := fun E σ H Q => ∀ A outer s H0 f c', Room k (LamX.lamCx X A outer s H0 E scope f c').A → eW (LamX.lamCx X A outer s H0 E scope f c') body σ H Q) (p := p) (lpos := lpos) (pos := pos) (n.gl h) D.mgx F.kp lk hcd hB Sg hNg hva (told_givesM th D.cls hi) TB hcode hmT hu hr LS hdef hbind
    (fun A outer s H E f c' hr' => ⟨fun pins s' σ' H' Q I h' => h' A outer s H f c' hr' pins s' I⟩) (dbg1 hd) ha1 ha2
  refine GE.of hp fun H hs Q q => ⟨hs.tabs, fun H1 e1 t1 => ?_⟩
  intro A outer s H0 f c' hr'
  have hx : Xok T (LamX.lamCx X A outer s H0 (fun cls _ H' => Catch X.K cs cls fun r => Q (.str r) H') scope f c') (fun cls _ L' => Catch X.K cs cls fun r => K (.str r) L') :=
    ⟨fun cls d _ H => Catch X.K cs cls fun r => Q (.str r) H, takes_of rfl rfl rfl rfl, fun cls d σ L H k hs => k.imp fun r z => q _ _ _ z hs⟩
  exact hb A outer s H0 _ f c' hr' ⟨n.nn, rfl, n.nd, nd⟩ hx H1 (hs.extN e1 t1) Q q
end SW
set_option Elab.async false
set_option linter.all false
set_option maxRecDepth 100000
set_option maxHeartbeats 2000000
/-! Sw9: lists by operators and built-ins; stores by an operator; members. -/
namespace SW
open PySem PySem.Spec L2
open PyProof.Rows hiding St
section
variable {T : List (Addr × Str)} {X : Cx} {σ : St} {L L1 L' R' R2' : List SA} {K : GK} {D : EndsL} {p q : Addr} {α : Type} {R : PRep α} {x y v w : V} {N : List Str} {ks : List (Str × NameKind)}
/-! ### + and * of lists and tuples -/
theorem go_catL {xs ys : List V} (s : Sel L (pt p (.lst xs)) R') (s2 : Sel L (pt q (.lst ys)) R2') (hz : xs.length + ys.length ≤ sizeLine) (k : ∀ r, K (.ref r) (pt r (.lst (xs ++ ys)) :: L)) : GOp T X (binaryOp .Add) (.ref p) (.ref q) L K :=
  GOp.of op_cat fun H hs Q q' => ⟨p, q, xs, ys, rfl, rfl, hs.at s, hs.at s2, hz, fun r hr => q' _ _ _ (k r) (hs.new hr fun _ => nofun)⟩
theorem go_catR {ds es : List α} (s : Sel L (LstR R p ds) R') (s2 : Sel L (LstR R q es) R2') (hz : ds.length + es.length ≤ sizeLine) (k : ∀ r, K (.ref r) (LstR R r (ds ++ es) :: L)) : GOp T X (binaryOp .Add) (.ref p) (.ref q) L K :=
  GOp.of op_cat fun H hs Q q' => by
    obtain ⟨xs, e1, a1⟩ := hs.atR s
    obtain ⟨ys, e2, a2⟩ := hs.atR s2
    exact ⟨p, q, xs, ys, rfl, rfl, e1, e2, by rw [a1.length, a2.length]; exact hz, fun r hr => q' _ _ _ (k r) (hs.newR hr (a1.app a2))⟩
theorem go_rep {xs : List V} {i : Int} (s : Sel L (pt p (.lst xs)) R') (h0 : -(2 ^ 63) ≤ i) (h1 : i < 2 ^ 63) (hz : xs.length * i.toNat ≤ sizeLine) (k : ∀ r, K (.ref r) (pt r (.lst (List.replicate i.toNat xs).flatten) :: L)) : GOp T X (binaryOp .Mult) (.ref p) (.int i) L K :=
  GOp.of op_rep fun H hs Q q' => ⟨p, i, xs, rfl, rfl, hs.at s, h0, h1, hz, fun r hr => q' _ _ _ (k r) (hs.new hr fun _ => nofun)⟩
/-- t + u of tuples of data -/
theorem go_catT {ds es : List α} (r1 : Rv T L x (rTl R) ds) (r2 : Rv T L y (rTl R) es) (hz : ds.length + es.length ≤ sizeLine) (k : ∀ v, K v (Val (rTl R) v (ds ++ es) :: L)) : GOp T X (binaryOp .Add) x y L K := by
  refine GOp.of op_catA fun H hs Q q => ?_
  obtain ⟨a, xs, rfl, e1, a1⟩ := r1 H hs
  obtain ⟨b, ys, rfl, e2, a2⟩ := r2 H hs
  refine ⟨a, b, xs, ys, rfl, rfl, SqT.of e1, SqT.of e2, by rw [a1.length, a2.length]; exact hz, fun e => ?_, fun _ e => ?_, fun _ _ p hp => ?_⟩
  · subst e
    cases a1
    exact q _ _ _ (k _) (hs.addP Val.pers ⟨b, ys, rfl, e2, a2⟩)
  · subst e
    cases a2
    refine q _ _ _ (k _) (hs.addP Val.pers ⟨a, xs, rfl, e1, by rw [List.append_nil]; exact a1⟩)
  · have h2 : Hs T (pt p (.tup (xs ++ ys)) :: L) (upd H p (.tup (xs ++ ys))) := hs.new hp fun _ => nofun
    refine q _ _ _ (k _) (h2.tail.addP Val.pers ⟨p, xs ++ ys, rfl, upd_same, (a1.app a2).mono fun b zs eb => ?_⟩)
    rw [upd_ne (ne_of_none eb hp)]; exact eb
/-! ### members -/
theorem inV_int (i : Int) : ∀ ns : List Int, inV (.int i) (ns.map V.int) = decide (i ∈ ns)
  | [] => by simp [inV]
  | n :: ns => by
    have ih := inV_int i ns
    unfold inV at ih ⊢
    rw [List.map_cons, List.any_cons, ih]
    by_cases h : n = i
    · subst h; simp [eqV]
    · have h' : i ≠ n := fun z => h z.symm
      simp [eqV, h, h', List.mem_cons]
theorem inV_str (i : Str) : ∀ ns : List Str, inV (.str i) (ns.map V.str) = decide (i ∈ ns)
  | [] => by simp [inV]
  | n :: ns => by
    have ih := inV_str i ns
    unfold inV at ih ⊢
    rw [List.map_cons, List.any_cons, ih]
    by_cases h : n = i
    · subst h; simp [eqV]
    · have h' : i ≠ n := fun z => h z.symm
      simp [eqV, h, h', List.mem_cons]
theorem all_flat {β : Type} {f : β → V} (h : ∀ b, flatV (f b) = true) (ns : List β) : (ns.map f).all flatV = true := by
  simp [List.all_eq_true, h]
theorem go_inI {i : Int} {ns : List Int} (s : Sel L (pt p (.lst (ns.map V.int))) R') (k : K (.bl (decide (i ∈ ns))) L) : GOp T X (compareOp .In) (.int i) (.ref p) L K :=
  GOp.of op_in_seq fun H hs Q q => ⟨p, _, rfl, .inl (SqL.of (hs.at s)), rfl, all_flat (fun _ => rfl) ns, q _ _ _ (by rw [if_neg Bool.false_ne_true, inV_int]; exact k) hs⟩
theorem go_ninI {i : Int} {ns : List Int} (s : Sel L (pt p (.lst (ns.map V.int))) R') (k : K (.bl (!decide (i ∈ ns))) L) : GOp T X (compareOp .NotIn) (.int i) (.ref p) L K :=
  GOp.of op_notIn_seq fun H hs Q q => ⟨p, _, rfl, .inl (SqL.of (hs.at s)), rfl, all_flat (fun _ => rfl) ns, q _ _ _ (by rw [if_pos rfl, inV_int]; exact k) hs⟩
theorem go_inT {i : Str} {ns : List Str} (s : Sel L (pt p (.lst (ns.map V.str))) R') (k : K (.bl (decide (i ∈ ns))) L) : GOp T X (compareOp .In) (.str i) (.ref p) L K :=
  GOp.of op_in_seq fun H hs Q q => ⟨p, _, rfl, .inl (SqL.of (hs.at s)), rfl, all_flat (fun _ => rfl) ns, q _ _ _ (by rw [if_neg Bool.false_ne_true, inV_str]; exact k) hs⟩
theorem go_ninT {i : Str} {ns : List Str} (s : Sel L (pt p (.lst (ns.map V.str))) R') (k : K (.bl (!decide (i ∈ ns))) L) : GOp T X (compareOp .NotIn) (.str i) (.ref p) L K :=
  GOp.of op_notIn_seq fun H hs Q q => ⟨p, _, rfl, .inl (SqL.of (hs.at s)), rfl, all_flat (fun _ => rfl) ns, q _ _ _ (by rw [if_pos rfl, inV_str]; exact k) hs⟩
theorem any_mem {α : Type} {R : PRep α} [DecidableEq α] (d : α) : ∀ ds : List α, ((ds.map R.enc).any fun z => PyData.eqv z (R.enc d)) = decide (d ∈ ds)
  | [] => by simp
  | e :: ds => by
    rw [List.map_cons, List.any_cons, any_mem d ds, eqv_enc]
    by_cases h : e = d
    · subst h; simp
    · have h' : d ≠ e := fun z => h z.symm
      simp [h, h', List.mem_cons]
theorem go_inR {d : α} {ds : List α} [DecidableEq α] {k : Nat} (hr : Room k X.A) (r : Rv T L x R d) (s : Sel L (LstR R p ds) R') (n : R.dep ≤ 63) (q : K (.bl (decide (d ∈ ds))) L) : GOp T X (compareOp .In) x (.ref p) L K :=
  GOp.of (op_inD (by have := hr.un; omega)) fun H hs Q q' => by
    have h1 := sees_rv (KK := X.K) r (Nat.le_succ_of_le n) H hs
    have h2 := sees_lst (KK := X.K) s n H hs
    exact ⟨_, _, h1.1, h2.1, h1.2, h2.2, q' _ _ _ (by rw [any_mem]; exact q) hs⟩
theorem go_ninR {d : α} {ds : List α} [DecidableEq α] {k : Nat} (hr : Room k X.A) (r : Rv T L x R d) (s : Sel L (LstR R p ds) R') (n : R.dep ≤ 63) (q : K (.bl (!decide (d ∈ ds))) L) : GOp T X (compareOp .NotIn) x (.ref p) L K :=
  GOp.of (op_notInD (by have := hr.un; omega)) fun H hs Q q' => by
    have h1 := sees_rv (KK := X.K) r (Nat.le_succ_of_le n) H hs
    have h2 := sees_lst (KK := X.K) s n H hs
    exact ⟨_, _, h1.1, h2.1, h1.2, h2.2, q' _ _ _ (by rw [any_mem]; exact q) hs⟩
/-! ### built-ins -/
theorem gc_max2 {i j : Int} (hc : X.calm = true) (k : K (.int (if j > i then j else i)) L) : GC T X (.builtin "max") [.int i, .int j] L K := GC.of (call_max2 hc) fun H hs Q q => ⟨i, j, rfl, q _ _ _ k hs⟩
theorem gc_min2 {i j : Int} (hc : X.calm = true) (k : K (.int (if j < i then j else i)) L) : GC T X (.builtin "min") [.int i, .int j] L K := GC.of (call_min2 hc) fun H hs Q q => ⟨i, j, rfl, q _ _ _ k hs⟩
theorem gc_sum {ns : List Int} (hc : X.calm = true) (s : Sel L (pt p (.lst (ns.map V.int))) R') (k : K (.int ns.sum) L) : GC T X (.builtin "sum") [.ref p] L K := GC.of (cr_sum hc) fun H hs Q q => ⟨p, ns, rfl, SqL.of (hs.at s), q _ _ _ k hs⟩
theorem gc_maxL {ns : List Int} (hc : X.calm = true) (s : Sel L (pt p (.lst (ns.map V.int))) R') (h0 : ns ≠ []) (k : ∀ m, m ∈ ns → (∀ y, y ∈ ns → y ≤ m) → K (.int m) L) : GC T X (.builtin "max") [.ref p] L K :=
  GC.of (cr_max hc) fun H hs Q q => ⟨p, ns, rfl, SqL.of (hs.at s), List.length_pos_iff.mpr h0, fun m h1 h2 => q _ _ _ (k m h1 h2) hs⟩
theorem gc_minL {ns : List Int} (hc : X.calm = true) (s : Sel L (pt p (.lst (ns.map V.int))) R') (h0 : ns ≠ []) (k : ∀ m, m ∈ ns → (∀ y, y ∈ ns → m ≤ y) → K (.int m) L) : GC T X (.builtin "min") [.ref p] L K :=
  GC.of (cr_min hc) fun H hs Q q => ⟨p, ns, rfl, SqL.of (hs.at s), List.length_pos_iff.mpr h0, fun m h1 h2 => q _ _ _ (k m h1 h2) hs⟩
theorem gc_strI {i : Int} (h : i.natAbs.log2 < 1920) (k : K (.str (toString i)) L) : GC T X (.type "str") [.int i] L K := GC.of call_str_int fun H hs Q q => ⟨i, rfl, h, q _ _ _ k hs⟩
theorem gc_list {xs : List V} (s : Sel L (pt p (.lst xs)) R') (k : ∀ r, K (.ref r) (pt r (.lst xs) :: L)) : GC T X (.type "list") [.ref p] L K :=
  GC.of call_list_of fun H hs Q q => ⟨p, xs, rfl, .inl (SqL.of (hs.at s)), fun r hr => q _ _ _ (k r) (hs.new hr fun _ => nofun)⟩
theorem gc_listR {ds : List α} (s : Sel L (LstR R p ds) R') (k : ∀ r, K (.ref r) (LstR R r ds :: L)) : GC T X (.type "list") [.ref p] L K :=
  GC.of call_list_of fun H hs Q q => by
    obtain ⟨xs, e1, a1⟩ := hs.atR s
    exact ⟨p, xs, rfl, .inl (SqL.of e1), fun r hr => q _ _ _ (k r) (hs.newR hr a1)⟩
theorem gc_listT {ds : List α} (r : Rv T L x (rTl R) ds) (k : ∀ r, K (.ref r) (LstR R r ds :: L)) : GC T X (.type "list") [x] L K :=
  GC.of call_list_of fun H hs Q q => by
    obtain ⟨a, xs, rfl, e1, a1⟩ := r H hs
    exact ⟨a, xs, rfl, .inr (SqT.of e1), fun r hr => q _ _ _ (k r) (hs.newR hr a1)⟩
theorem gc_tuple {xs : List V} (s : Sel L (pt p (.lst xs)) R') (k : ∀ r, K (.ref r) (pt r (.tup xs) :: L)) : GC T X (.type "tuple") [.ref p] L K :=
  GC.of call_tuple_of fun H hs Q q => ⟨p, xs, rfl, .inl ⟨SqL.of (hs.at s), fun r hr => q _ _ _ (k r) (hs.new hr fun _ => nofun)⟩⟩
theorem gc_tupleR {ds : List α} (s : Sel L (LstR R p ds) R') (k : ∀ v, K v (Val (rTl R) v ds :: L)) : GC T X (.type "tuple") [.ref p] L K :=
  GC.of call_tuple_of fun H hs Q q => by
    obtain ⟨xs, e1, a1⟩ := hs.atR s
    refine ⟨p, xs, rfl, .inl ⟨SqL.of e1, fun r hr => q _ _ _ (k _) ?_⟩⟩
    have h2 : Hs T (pt r (.tup xs) :: L) (upd H r (.tup xs)) := hs.new hr fun _ => nofun
    refine h2.tail.addP Val.pers ⟨r, xs, rfl, upd_same, a1.mono fun b zs eb => ?_⟩
    rw [upd_ne (ne_of_none eb hr)]; exact eb
theorem gc_tupleT {ds : List α} (r : Rv T L x (rTl R) ds) (k : K x L) : GC T X (.type "tuple") [x] L K :=
  GC.of call_tuple_of fun H hs Q q => by
    obtain ⟨a, xs, rfl, e1, a1⟩ := r H hs
    exact ⟨a, xs, rfl, .inr ⟨SqT.of e1, q _ _ _ k hs⟩⟩
theorem gc_lenR {ds : List α} (s : Sel L (LstR R p ds) R') (k : K (.int ds.length) L) : GC T X (.builtin "len") [.ref p] L K :=
  GC.of call_len_seq fun H hs Q q => by
    obtain ⟨xs, e1, a1⟩ := hs.atR s
    exact ⟨p, xs, rfl, .inl (SqL.of e1), by rw [a1.length]; exact q _ _ _ k hs⟩
theorem gc_lenTl {ds : List α} (r : Rv T L x (rTl R) ds) (k : K (.int ds.length) L) : GC T X (.builtin "len") [x] L K :=
  GC.of call_len_seq fun H hs Q q => by
    obtain ⟨a, xs, rfl, e1, a1⟩ := r H hs
    exact ⟨a, xs, rfl, .inr (SqT.of e1), by rw [a1.length]; exact q _ _ _ k hs⟩
/-! ### ranges as values -/
theorem call_rng1 : CallR X (.type "range") (fun vs H Q => ∃ j, vs = [V.int j] ∧ ∀ p, H p = none → Q (.ref p) (upd H p (.rng 0 j))) := by
  intro pins s σ H vs us Q I r h
  obtain ⟨j, rfl, q⟩ := h
  obtain ⟨u, rfl, ri⟩ := Vals.one r
  obtain ⟨t, rfl⟩ := ri
  refine PySem.call_range_1 ⟨.ref s.heap.objs.size, upd H s.heap.objs.size (.rng 0 j), I.laid (t' := s.toks + 1 + 1) (fun b o e => Heap.get?_push_of_some _ e) (Nat.le_refl _) ?_, rfl, q _ (I.hok.fresh (Nat.le_refl _))⟩
  exact ⟨s.toks, t, s.toks + 1, Heap.get?_push_size _ rfl⟩
theorem gc_rng1 {j : Int} (k : ∀ r, K (.ref r) (pt r (.rng 0 j) :: L)) : GC T X (.type "range") [.int j] L K := GC.of call_rng1 fun H hs Q q => ⟨j, rfl, fun r hr => q _ _ _ (k r) (hs.new hr fun _ => nofun)⟩
theorem gc_rng2 {i j : Int} (k : ∀ r, K (.ref r) (pt r (.rng i j) :: L)) : GC T X (.type "range") [.int i, .int j] L K := GC.of cr_range2 fun H hs Q q => ⟨i, j, rfl, fun r hr => q _ _ _ (k r) (hs.new hr fun _ => nofun)⟩
def rngL (i j : Int) : List Int := (List.range (j - i).toNat).map fun k => i + (k : Nat)
theorem vals_rng {i : Int} {n : Nat} {acc : List Value} (hl : acc.length = n) (h : ∀ (j : Nat) (v : Value), acc[j]? = some v → ∃ t, v = Value.int (i + j * 1) t) : Vals ((List.range n).map fun k => V.int (i + (k : Nat))) acc := by
  refine vals_of_at (by simp [hl]) fun j x u h1 h2 => ?_
  obtain ⟨t, rfl⟩ := h j u h2
  rw [List.getElem?_map] at h1
  by_cases hj : j < n
  · rw [List.getElem?_range hj] at h1
    cases h1
    exact ⟨t, by rw [Int.mul_one]⟩
  · rw [List.getElem?_eq_none (by simpa using hj)] at h1; cases h1
theorem call_list_rng (hc : X.calm = true) : CallR X (.type "list") (fun xs H Q => ∃ p i j, xs = [V.ref p] ∧ H p = some (.rng i j) ∧ -(2 ^ 62) ≤ i ∧ i < 2 ^ 62 ∧ -(2 ^ 62) ≤ j ∧ j < 2 ^ 62 ∧ (j - i).toNat ≤ 2 ^ 24 ∧ (j - i).toNat ≤ sizeLine ∧ ∀ l, H l = none → Q (.ref l) (upd H l (.lst ((rngL i j).map V.int)))) := by
  intro pins s σ H xs us Q I r h
  obtain ⟨p, i, j, rfl, hp, h1, h2, h3, h4, h5, hz, q⟩ := h
  obtain ⟨u, rfl, rx⟩ := Vals.one r
  obtain rfl : u = Value.ref p := rx
  obtain ⟨t1, t2, t3, ho⟩ := I.hok p _ hp
  refine PySem.call_list_range (n := (j - i).toNat) (I.ok.hd hc) ho (small_one h1 h2 h3 h4) (rangeSize_nat i j) h5 fun h' tk acc' c' kp e hacc => ?_
  refine ⟨.ref s.heap.objs.size, _, I.laid (t' := tk) kp (Nat.le_refl _) (show ObjOk X.prog X.w _ h' _ (.lst ((rngL i j).map V.int)) from ⟨?_, acc'.toList, c', ?_, by simpa using e⟩), rfl, q _ (I.hok.fresh (Nat.le_refl _))⟩
  · rw [List.length_map]; unfold rngL; rw [List.length_map, List.length_range]; exact hz
  · unfold rngL
    rw [List.map_map]
    exact vals_rng (by rw [Array.length_toList]; exact hacc.1) fun m v hm => hacc.2 m v (by simpa using hm)
theorem gc_listRng {i j : Int} (hc : X.calm = true) (s : Sel L (pt p (.rng i j)) R') (h1 : -(2 ^ 62) ≤ i) (h2 : i < 2 ^ 62) (h3 : -(2 ^ 62) ≤ j) (h4 : j < 2 ^ 62) (h5 : (j - i).toNat ≤ 2 ^ 24) (hz : (j - i).toNat ≤ sizeLine) (k : ∀ r, K (.ref r) (pt r (.lst ((rngL i j).map V.int)) :: L)) :
    GC T X (.type "list") [.ref p] L K := GC.of (call_list_rng hc) fun H hs Q q => ⟨p, i, j, rfl, hs.at s, h1, h2, h3, h4, h5, hz, fun r hr => q _ _ _ (k r) (hs.new hr fun _ => nofun)⟩
/-! ### stores by an operator -/
def GIp (T : List (Addr × Str)) (X : Cx) (op : Operator) (x y : V) (L : List SA) (K : GK) : Prop := ∀ H, Hs T L H → ∀ Q : VK, (∀ v L' H', K v L' → Hs T L' H' → Q v H') → ∀ pins s σ v u, Inv X pins σ H s → RelV x v → RelV y u → wpAny (model X.prog X.w) X.A (inplaceOp op v u) (EP X pins σ Q) X.xe s
def ipW (X : Cx) (op : Operator) : TIp := fun x y H Q => ∀ pins s σ v u, Inv X pins σ H s → RelV x v → RelV y u → wpAny (model X.prog X.w) X.A (inplaceOp op v u) (EP X pins σ Q) X.xe s
theorem ipWr {op : Operator} : PIp X op (ipW X op) := fun pins s σ H x y v u Q I r1 r2 h => h pins s σ v u I r1 r2
theorem GIp.of {op : Operator} {r : TIp} (hp : PIp X op r) (w : WR2 T r x y L K) : GIp T X op x y L K := fun H hs Q q pins s σ v u I r1 r2 => hp pins s σ H x y v u Q I r1 r2 (w H hs Q q)
theorem gip_add {i j : Int} (k : K (.int (i + j)) L) : GIp T X .Add (.int i) (.int j) L K := GIp.of ip_add (wr_I0 k)
theorem gip_sub {i j : Int} (k : K (.int (i - j)) L) : GIp T X .Sub (.int i) (.int j) L K := GIp.of ip_sub (wr_I0 k)
theorem gip_addS {i j : Str} (hz : i.length + j.length ≤ sizeLine) (k : K (.str (i ++ j)) L) : GIp T X .Add (.str i) (.str j) L K := GIp.of iop_add_str fun H hs Q q => ⟨i, j, rfl, rfl, hz, q _ _ _ k hs⟩
theorem gs_aug {n : Str} {e : Expr} {op : Operator} {pos pos' : Pos} {kd : NameKind} {f : V → St} (nm : Nm X N ks) (a : At N σ n x) (s : Slot N σ n f) (h : Kd ks n kd) (lk : Lk kd) (hf : kd = .local ∨ X.fn n = true)
    (g : GE T X e σ L fun y L1 => GIp T X op x y L1 fun z L2 => D.nx (f z) L2) : GS T X (.AugAssign (.Name n pos') op e pos) D σ L := by
  obtain ⟨i, h1, h2⟩ := s.ix
  obtain ⟨j, h3, h4⟩ := a.ix
  have hij : i = j := by
    have hi : i < N.length := by
      by_cases c : i < N.length
      · exact c
      · rw [List.getElem?_eq_none (by omega)] at h1; cases h1
    exact (List.getElem?_inj hi nm.nd).mp (by rw [h1, h3])
  subst hij
  refine GS.of (ps_aug (i := i) (by rw [nm.nn]; exact nm.nd) (by rw [nm.nn]; exact h1) (nm.loc h lk) peW ipWr ?_) fun H hs D0 l => ⟨x, h4, g H hs _ fun y L1 H1 k1 h1 => k1 H1 h1 _ fun z L2 H2 k2 h2' => l.nx _ _ _ (by rw [← h2]; exact k2) h2'⟩
  rcases hf with rfl | hf
  · exact .inr (nm.look h)
  · exact .inl hf
/-- e.f op= value: the field is read, the value reckoned, the field stored -/
def GFA (T : List (Addr × Str)) (X : Cx) (o : V) (f : Str) (value : Expr) (op : Operator) (σ : St) (L : List SA) (N : List SA → Prop) : Prop := ∃ a C dx fs v R, o = .ref a ∧ Sel L (pt a (.ins C dx fs)) R ∧ Cls X.K C ∧ NoAttr X.K C f ∧ fs.lookup f = some v ∧
  GE T X value σ L fun y L1 => GIp T X op v y L1 fun z L2 => ∃ dx' fs' L', Rpl L2 (pt a (.ins C dx' fs')) (pt a (.ins C dx' (putF f z fs'))) L' ∧ fs'.length < 1000 ∧ N L'
theorem gs_fldaug {o value : Expr} {f : Str} {op : Operator} {tpos pos : Pos} (h : GE T X o σ L fun x L1 => GFA T X x f value op σ L1 (D.nx σ)) : GS T X (.AugAssign (.Attribute o f tpos) op value pos) D σ L :=
  GS.of (ps_fldaug peW peW (rd := ipW X op) (fun pins s σ H x y u v Q I r1 r2 h => h pins s σ u v I r1 r2)) fun H hs D0 l => h H hs _ fun x L1 H1 ⟨a, C, dx, fs, v, R, ex, s, c, na, lk, g⟩ h1 =>
    ⟨a, C, dx, fs, v, ex, h1.at s, c, na, lk, g H1 h1 _ fun y L2 H2 k2 h2 => k2 H2 h2 _ fun z L3 H3 ⟨dx', fs', L', r, hl, n⟩ h3 => by
      obtain ⟨R3, s3⟩ := r.sel
      exact ⟨dx', fs', h3.at s3, hl, l.nx _ _ _ n (h3.rpl r True.intro fun _ => nofun)⟩⟩
/-- xs[i] by values -/
def rGetL : V → V → Hp → VK → Prop := fun o i H Q => ∃ p xs k z, o = .ref p ∧ i = .int k ∧ H p = some (.lst xs) ∧ atI xs k = some z ∧ Q z H
theorem get_list : PGet X rGetL := by
  intro pins s σ H o i ov iv Q I ro ri h
  obtain ⟨p, xs, k, z, rfl, rfl, hp, he, q⟩ := h
  obtain rfl : ov = Value.ref p := ro
  obtain ⟨t, rfl⟩ := ri
  obtain ⟨its, r, pl, hz⟩ := I.list (SqL.of hp)
  obtain ⟨j, h1, h2, h3, h4, h5⟩ := atI_get he
  obtain ⟨w, ew, rw'⟩ := r.get h2
  have hl := r.length
  have hn := line63
  have fin : EP X pins σ Q w s := ⟨z, H, I, rw', q⟩
  by_cases h0 : 0 ≤ k
  · have hj : k.toNat = j := by
      rw [seqIndex_of h0 h5] at h1
      exact Option.some.inj h1
    exact wpAny_getItem_list pl.isList h0 (by omega) (by rw [hj]; simpa using ew) fin
  · have hj : (k + (its.toArray.size : Int)).toNat = j := by
      rw [seqIndex_neg (by omega) h4] at h1
      rw [List.size_toArray, ← hl]
      exact Option.some.inj h1
    exact wpAny_getItem_list_neg pl.isList (by omega) (by rw [List.size_toArray] <;> omega) (by omega) (by rw [hj]; simpa using ew) fin
def GAS (T : List (Addr × Str)) (X : Cx) (o i : V) (value : Expr) (op : Operator) (σ : St) (L : List SA) (N : List SA → Prop) : Prop := ∃ p xs k z R, o = .ref p ∧ i = .int k ∧ Sel L (pt p (.lst xs)) R ∧ atI xs k = some z ∧
  GE T X value σ L fun y L1 => GIp T X op z y L1 fun u L2 => GPutL o i u L2 N
theorem gs_augS {o i value : Expr} {op : Operator} {tpos pos : Pos} (ha : ∀ ov iv new, augStore i ov iv new = (do holding [new, ov, iv] (setItem ov iv new); release [new, ov, iv] []; pure .next))
    (h : GE T X o σ L fun ov L1 => GE T X i σ L1 fun iv L2 => GAS T X ov iv value op σ L2 (D.nx σ)) : GS T X (.AugAssign (.Subscript o i tpos) op value pos) D σ L :=
  GS.of (ps_augS peW peW get_list peW ipWr set_list ha) fun H hs D0 l => h H hs _ fun ov L1 H1 k1 h1 => k1 H1 h1 _ fun iv L2 H2 ⟨p, xs, k, z, R, e1, e2, s, e3, g⟩ h2 =>
    ⟨p, xs, k, z, e1, e2, h2.at s, e3, g H2 h2 _ fun y L3 H3 k3 h3 => k3 H3 h3 _ fun u L4 H4 ⟨p', xs', k', ys, L', e4, e5, r, ⟨j, e6, e7⟩, n⟩ h4 => by
      obtain ⟨R4, s4⟩ := r.sel
      subst e7
      exact ⟨p', xs', k', j, e4, e5, h4.at s4, e6, l.nx _ _ _ n (h4.rpl r True.intro fun _ => nofun)⟩⟩
/-! ### remove, of a list of ints -/
theorem erase_at (i : Int) : ∀ (ns : List Int), i ∈ ns → ∃ j : Nat, ns[j]? = some i ∧ (∀ m : Nat, m < j → ns[m]? ≠ some i) ∧ ns.eraseIdx j = ns.erase i
  | [], h => by cases h
  | n :: ns, h => by
    by_cases e : n = i
    · subst e
      exact ⟨0, rfl, fun m hm => by omega, by simp⟩
    · have h' : i ∈ ns := by
        rcases List.mem_cons.mp h with z | z
        · exact absurd z.symm e
        · exact z
      obtain ⟨j, h1, h2, h3⟩ := erase_at i ns h'
      refine ⟨j + 1, by simpa using h1, fun m hm => ?_, ?_⟩
      · cases m with
        | zero => simp [e]
        | succ m => simpa using h2 m (by omega)
      · rw [List.eraseIdx_cons_succ, h3, List.erase_cons_tail (by simpa using e)]
def GRem (T : List (Addr × Str)) (p : Addr) (i : Int) (L : List SA) (N : List SA → Prop) : Prop := ∃ (ns : List Int) (L' : List SA), Rpl L (pt p (.lst (ns.map V.int))) (pt p (.lst ((ns.erase i).map V.int))) L' ∧ i ∈ ns ∧ N L'
theorem ge_remove {o e : Expr} {apos cpos : Pos} (hbase : attributeBase o "remove" X.env (eval o X.env) = eval o X.env) (hfew : ((backTo cpos (starEach [e] X.env)).all (fun x => !x.1) && (backToKw cpos (keywordEach [] X.env)).all (fun x => x.1.isSome)
      && decide (([e] : List Expr).length + ([] : List Keyword).length + (if ([] : List Keyword).isEmpty then 0 else 1) < 30)) = true) (hline : (apos.endLine == cpos.line) = true) (hs : starEach [e] X.env = (false, eval e X.env) :: starEach [] X.env) (hplain : (backTo cpos (starEach [] X.env)).any (·.1) = false)
    (h : GE T X o σ L fun v L1 => ∃ p, v = .ref p ∧ HasL T L1 p ∧ GE T X e σ L1 fun y L2 => ∃ i, y = .int i ∧ GRem T p i L2 (K .non)) : GE T X (.Call (.Attribute o "remove" apos) [e] [] cpos) σ L K :=
  GE.of (pe_bm PySem.F.plainAttrs_list PySem.F.slot_list_remove PySem.F.type_list_remove mt_remove peW (pa_cons peW pa_nil hs) hbase hfew hline hs hplain) fun H hh Q q => h H hh _ fun v L1 H1 ⟨p, ev, hp, k1⟩ h1 => by
    subst ev
    obtain ⟨xs, e1⟩ := hp H1 h1
    refine ⟨.inl ⟨rfl, xs, SqL.of e1⟩, k1 H1 h1 _ fun y L2 H2 ⟨i, ey, ns, L', r, hm, n⟩ h2 => ?_⟩
    subst ey
    obtain ⟨R2, s2⟩ := r.sel
    obtain ⟨j, j1, j2, j3⟩ := erase_at i ns hm
    exact ⟨p, ns, i, j, rfl, rfl, h2.at s2, j1, j2, q _ _ _ n (by rw [j3]; exact h2.rpl r True.intro fun _ => nofun)⟩
end
end SW
set_option Elab.async false
set_option linter.all false
set_option maxRecDepth 100000
set_option maxHeartbeats 2000000
/-! Sw10: fields, by search. -/
namespace SW
open PySem PySem.Spec L2
open PyProof.Rows hiding St
inductive PutF : Str → V → List (Str × V) → List (Str × V) → Prop
  | nil {f : Str} {y : V} : PutF f y [] [(f, y)]
  | here {f : Str} {y x : V} {r : List (Str × V)} : PutF f y ((f, x) :: r) ((f, y) :: r)
  | there {f g : Str} {y x : V} {r r' : List (Str × V)} (h : decide (g = f) = false) (t : PutF f y r r') : PutF f y ((g, x) :: r) ((g, x) :: r')
theorem PutF.eq {f : Str} {y : V} {fs fs' : List (Str × V)} (h : PutF f y fs fs') : fs' = putF f y fs := by
  induction h with
  | nil => rfl
  | here => unfold putF; rw [if_pos rfl]
  | there h _ ih => unfold putF; rw [if_neg (of_decide_eq_false h), ← ih]
inductive LkF : List (Str × V) → Str → V → Prop
  | here {f : Str} {x : V} {r : List (Str × V)} : LkF ((f, x) :: r) f x
  | there {f g : Str} {x v : V} {r : List (Str × V)} (h : decide (g = f) = false) (t : LkF r f v) : LkF ((g, x) :: r) f v
theorem LkF.eq {f : Str} {v : V} {fs : List (Str × V)} (h : LkF fs f v) : fs.lookup f = some v := by
  induction h with
  | here => rw [List.lookup_cons, beq_self_eq_true]
  | @there f g x v r h _ ih =>
    have : (f == g) = false := beq_eq_false_iff_ne.mpr fun z => of_decide_eq_false h z.symm
    rw [List.lookup_cons, this]; exact ih
inductive NoF : List (Str × V) → Str → Prop
  | nil {f : Str} : NoF [] f
  | cons {f g : Str} {x : V} {r : List (Str × V)} (h : decide (g = f) = false) (t : NoF r f) : NoF ((g, x) :: r) f
theorem NoF.eq {f : Str} {fs : List (Str × V)} (h : NoF fs f) : fs.lookup f = none := by
  induction h with
  | nil => rfl
  | @cons f g x r h _ ih =>
    have : (f == g) = false := beq_eq_false_iff_ne.mpr fun z => of_decide_eq_false h z.symm
    rw [List.lookup_cons, this]; exact ih
section
variable {T : List (Addr × Str)} {X : Cx} {σ : St} {L L' R' : List SA} {K : GK} {KK : PySem.W.Frag} {a C dx : Addr} {fs fs' : List (Str × V)} {f : Str} {v y z : V} {N : List SA → Prop}
theorem gf (s : Sel L (pt a (.ins C dx fs)) R') (l : LkF fs f v) (c : Cls KK C) (n : NoAttr KK C f) (k : K v L) : GF T KK (.ref a) f L K := ⟨a, C, dx, fs, v, R', rfl, s, c, n, l.eq, k⟩
theorem gfs (r : Rpl L (pt a (.ins C dx fs)) (pt a (.ins C dx fs')) L') (e : PutF f y fs fs') (c : Cls KK C) (n : NoAttr KK C f) (hz : fs.length < 1000) (k : N L') : GFS KK (.ref a) f y L N := ⟨a, C, dx, fs, L', rfl, by rw [← e.eq]; exact r, c, n, hz, k⟩
theorem gfa {value : Expr} {op : Operator} (s : Sel L (pt a (.ins C dx fs)) R') (l : LkF fs f v) (c : Cls X.K C) (n : NoAttr X.K C f)
    (g : GE T X value σ L fun y L1 => GIp T X op v y L1 fun z L2 => ∃ dx' fs' L', Rpl L2 (pt a (.ins C dx' fs')) (pt a (.ins C dx' (putF f z fs'))) L' ∧ fs'.length < 1000 ∧ N L') : GFA T X (.ref a) f value op σ L N := ⟨a, C, dx, fs, v, R', rfl, s, c, n, l.eq, g⟩
theorem gfaE (r : Rpl L (pt a (.ins C dx fs)) (pt a (.ins C dx fs')) L') (e : PutF f z fs fs') (hz : fs.length < 1000) (k : N L') : ∃ dx' fs' L', Rpl L (pt a (.ins C dx' fs')) (pt a (.ins C dx' (putF f z fs'))) L' ∧ fs'.length < 1000 ∧ N L' := ⟨dx, fs, L', by rw [← e.eq]; exact r, hz, k⟩
theorem isIns {C C' a : Addr} {m : Str} (s : Sel L (pt a (.ins C' dx fs)) R') (l : NoF fs m) (e : C' = C) : IsIns T C (.ref a) m L := ⟨a, rfl, fun H h => ⟨dx, fs, by rw [← e]; exact h.at s, l.eq⟩⟩
theorem gas {p : Addr} {xs : List V} {k : Int} {value : Expr} {op : Operator} (s : Sel L (pt p (.lst xs)) R') (e : atI xs k = some z) (g : GE T X value σ L fun y L1 => GIp T X op z y L1 fun u L2 => GPutL (.ref p) (.int k) u L2 N) : GAS T X (.ref p) (.int k) value op σ L N := ⟨p, xs, k, z, R', rfl, rfl, s, e, g⟩
end
/-! ### blocks of comprehensions -/
theorem Nm.ndN {X : Cx} {N : List Str} {ks : List (Str × NameKind)} (n : Nm X N ks) : X.N.Nodup := by rw [n.nn]; exact n.nd
theorem nm_blk {X : Cx} {N : List Str} {ks kc : List (Str × NameKind)} {scope : Scope} {s : Shared} {H : Hp} {C : Addr} {cl : List (Str × Addr)} {fp : List Addr} (n : Nm X N ks) (h : (relS scope X.env.scope).names = kc) (nd : (kc.map (·.1)).Nodup) : Nm (blkX X s H scope C cl fp) N kc := ⟨n.nn, h, n.nd, nd⟩
section
variable {X : Cx} {N : List Str} {ks kc : List (Str × NameKind)} {scope : Scope} {s : Shared} {H : Hp} {C : Addr} {cl : List (Str × Addr)} {fp : List Addr} {T : List (Addr × Str)} {σ : St} {L : List SA}
theorem gg_blk {tg : Expr} {v : V} {K : St → List SA → Prop} (n : Nm X N ks) (h : (relS scope X.env.scope).names = kc) (nd : (kc.map (·.1)).Nodup) (k : Nm (blkX X s H scope C cl fp) N kc → GG T (blkX X s H scope C cl fp) tg v σ L K) : GG T (blkX X s H scope C cl fp) tg v σ L K := k (nm_blk n h nd)
theorem gts_blk {ifs : List Expr} {K : Bool → List SA → Prop} (n : Nm X N ks) (h : (relS scope X.env.scope).names = kc) (nd : (kc.map (·.1)).Nodup) (k : Nm (blkX X s H scope C cl fp) N kc → GTs T (blkX X s H scope C cl fp) ifs σ L K) : GTs T (blkX X s H scope C cl fp) ifs σ L K := k (nm_blk n h nd)
theorem ge_blk {e : Expr} {K : GK} (n : Nm X N ks) (h : (relS scope X.env.scope).names = kc) (nd : (kc.map (·.1)).Nodup) (k : Nm (blkX X s H scope C cl fp) N kc → GE T (blkX X s H scope C cl fp) e σ L K) : GE T (blkX X s H scope C cl fp) e σ L K := k (nm_blk n h nd)
end
theorem ite_nI {i : Int} {A B : Prop} (h : B) : if decide (V.int i = V.non) = true then A else B := by rw [decide_eq_false (fun z => by cases z), if_neg Bool.false_ne_true]; exact h
theorem ite_nN {A B : Prop} (h : A) : if decide (V.non = V.non) = true then A else B := by rw [decide_eq_true rfl, if_pos rfl]; exact h
theorem ite_nnI {i : Int} {A B : Prop} (h : A) : if (!decide (V.int i = V.non)) = true then A else B := by rw [decide_eq_false (fun z => by cases z)]; exact h
theorem ite_nnN {A B : Prop} (h : B) : if (!decide (V.non = V.non)) = true then A else B := by rw [decide_eq_true rfl]; exact h
theorem ite_nR {i : Addr} {A B : Prop} (h : B) : if decide (V.ref i = V.non) = true then A else B := by rw [decide_eq_false (fun z => by cases z), if_neg Bool.false_ne_true]; exact h
theorem ite_nnR {i : Addr} {A B : Prop} (h : A) : if (!decide (V.ref i = V.non)) = true then A else B := by rw [decide_eq_false (fun z => by cases z)]; exact h
theorem grem {T : List (Addr × Str)} {p : Addr} {i : Int} {L L' : List SA} {N : List SA → Prop} {ns : List Int} (r : Rpl L (pt p (.lst (ns.map V.int))) (pt p (.lst ((ns.erase i).map V.int))) L') (hm : i ∈ ns) (k : N L') : GRem T p i L N := ⟨ns, L', r, hm, k⟩
theorem ite_nb {b : Bool} {A B : Prop} (h1 : b = false → A) (h2 : b = true → B) : if (!b) = true then A else B := by
  cases b with
  | false => exact h1 rfl
  | true => exact h2 rfl
end SW
set_option Elab.async false
set_option linter.all false
set_option maxRecDepth 100000
namespace K04
open PySem PySem.Spec L2 SW
open PyProof.Rows hiding St
/-- the program's statements, by places -/
def top (i : Nat) : Stmt := PySem.Challenge.pw_brookhall_k04_copies_of_a_log.main.body.getD i (.Pass ⟨0, 0, 0, 0⟩)
abbrev s_Copy__init : Stmt := inClass (top 11) 0
abbrev n_Copy__init : List Str := ["self"]
abbrev k_Copy__init : List (Str × NameKind) := [("self", .local)]
theorem sc_Copy__init : DefSc n_Copy__init ["self"] k_Copy__init (defScope s_Copy__init) := ⟨⟨rfl, rfl, rfl, by decide +kernel, rfl, by decide +kernel, by decide +kernel⟩, rfl, by decide +kernel⟩
abbrev s_Copy_last_mark : Stmt := inClass (top 11) 1
abbrev n_Copy_last_mark : List Str := ["self"]
abbrev k_Copy_last_mark : List (Str × NameKind) := [("self", .local), ("len", .globalImplicit)]
theorem sc_Copy_last_mark : DefSc n_Copy_last_mark ["self"] k_Copy_last_mark (defScope s_Copy_last_mark) := ⟨⟨rfl, rfl, rfl, by decide +kernel, rfl, by decide +kernel, by decide +kernel⟩, rfl, by decide +kernel⟩
abbrev s_Copy_turn_end : Stmt := inClass (top 11) 2
abbrev n_Copy_turn_end : List Str := ["self", "turn", "best", "one", "what"]
abbrev k_Copy_turn_end : List (Str × NameKind) := [("self", .local), ("turn", .local), ("best", .cell), ("one", .local), ("what", .local), ("max", .globalImplicit), ("len", .globalImplicit)]
theorem sc_Copy_turn_end : DefSc n_Copy_turn_end ["self", "turn"] k_Copy_turn_end (defScope s_Copy_turn_end) := ⟨⟨rfl, rfl, rfl, by decide +kernel, rfl, by decide +kernel, by decide +kernel⟩, rfl, by decide +kernel⟩
abbrev kc0_Copy_turn_end : List (Str × NameKind) := [(".0", .local), ("one", .local), ("what", .local), ("best", .cell)]
abbrev ow0_Copy_turn_end : List (Str × Nat) := [("one", 3), ("what", 4)]
abbrev s_Copies__init : Stmt := inClass (top 12) 0
abbrev n_Copies__init : List Str := ["self", "many", "least", "copy", "k"]
abbrev k_Copies__init : List (Str × NameKind) := [("self", .local), ("many", .local), ("least", .local), ("copy", .local), ("range", .globalImplicit), ("list", .globalImplicit)]
theorem sc_Copies__init : DefSc n_Copies__init ["self", "many", "least"] k_Copies__init (defScope s_Copies__init) := ⟨⟨rfl, rfl, rfl, by decide +kernel, rfl, by decide +kernel, by decide +kernel⟩, rfl, by decide +kernel⟩
abbrev kc0_Copies__init : List (Str × NameKind) := [(".0", .local), ("k", .local), ("Copy", .globalImplicit)]
abbrev ow0_Copies__init : List (Str × Nat) := [("k", 4)]
abbrev s_Copies_give : Stmt := inClass (top 12) 1
abbrev n_Copies_give : List Str := ["self", "what", "copy"]
abbrev k_Copies_give : List (Str × NameKind) := [("self", .local), ("what", .local), ("copy", .local), ("NotDue", .globalImplicit), ("len", .globalImplicit)]
theorem sc_Copies_give : DefSc n_Copies_give ["self", "what"] k_Copies_give (defScope s_Copies_give) := ⟨⟨rfl, rfl, rfl, by decide +kernel, rfl, by decide +kernel, by decide +kernel⟩, rfl, by decide +kernel⟩
abbrev s_Copies_raise_high : Stmt := inClass (top 12) 2
abbrev n_Copies_raise_high : List Str := ["self", "copy", "mark", "k"]
abbrev k_Copies_raise_high : List (Str × NameKind) := [("self", .cell), ("copy", .local), ("mark", .local), ("min", .globalImplicit), ("max", .globalImplicit)]
theorem sc_Copies_raise_high : DefSc n_Copies_raise_high ["self"] k_Copies_raise_high (defScope s_Copies_raise_high) := ⟨⟨rfl, rfl, rfl, by decide +kernel, rfl, by decide +kernel, by decide +kernel⟩, rfl, by decide +kernel⟩
abbrev kc0_Copies_raise_high : List (Str × NameKind) := [(".0", .local), ("k", .local), ("self", .cell)]
abbrev ow0_Copies_raise_high : List (Str × Nat) := [("k", 3)]
abbrev s_Copies_ask : Stmt := inClass (top 12) 3
abbrev n_Copies_ask : List Str := ["self", "k", "most", "mine", "lead"]
abbrev k_Copies_ask : List (Str × NameKind) := [("self", .local), ("k", .local), ("most", .local), ("mine", .local), ("lead", .local), ("NotDue", .globalImplicit), ("max", .globalImplicit), ("min", .globalImplicit)]
theorem sc_Copies_ask : DefSc n_Copies_ask ["self", "k", "most"] k_Copies_ask (defScope s_Copies_ask) := ⟨⟨rfl, rfl, rfl, by decide +kernel, rfl, by decide +kernel, by decide +kernel⟩, rfl, by decide +kernel⟩
abbrev s_Copies_agree : Stmt := inClass (top 12) 4
abbrev n_Copies_agree : List Str := ["self", "k", "mine", "lead", "last", "turn", "end", "one"]
abbrev k_Copies_agree : List (Str × NameKind) := [("self", .local), ("k", .local), ("mine", .local), ("lead", .local), ("last", .local), ("turn", .cell), ("end", .local), ("min", .globalImplicit)]
theorem sc_Copies_agree : DefSc n_Copies_agree ["self", "k"] k_Copies_agree (defScope s_Copies_agree) := ⟨⟨rfl, rfl, rfl, by decide +kernel, rfl, by decide +kernel, by decide +kernel⟩, rfl, by decide +kernel⟩
abbrev kc0_Copies_agree : List (Str × NameKind) := [(".0", .local), ("one", .local), ("turn", .cell)]
abbrev ow0_Copies_agree : List (Str × Nat) := [("one", 7)]
abbrev s_Copies_down : Stmt := inClass (top 12) 5
abbrev n_Copies_down : List Str := ["self", "k"]
abbrev k_Copies_down : List (Str × NameKind) := [("self", .local), ("k", .local), ("NotDue", .globalImplicit)]
theorem sc_Copies_down : DefSc n_Copies_down ["self", "k"] k_Copies_down (defScope s_Copies_down) := ⟨⟨rfl, rfl, rfl, by decide +kernel, rfl, by decide +kernel, by decide +kernel⟩, rfl, by decide +kernel⟩
abbrev s_Copies_up_again : Stmt := inClass (top 12) 6
abbrev n_Copies_up_again : List Str := ["self", "k"]
abbrev k_Copies_up_again : List (Str × NameKind) := [("self", .local), ("k", .local), ("NotDue", .globalImplicit)]
theorem sc_Copies_up_again : DefSc n_Copies_up_again ["self", "k"] k_Copies_up_again (defScope s_Copies_up_again) := ⟨⟨rfl, rfl, rfl, by decide +kernel, rfl, by decide +kernel, by decide +kernel⟩, rfl, by decide +kernel⟩
abbrev s_Copies_lead : Stmt := inClass (top 12) 7
abbrev n_Copies_lead : List Str := ["self", "k", "copy"]
abbrev k_Copies_lead : List (Str × NameKind) := [("self", .local), ("k", .local), ("copy", .local), ("NotDue", .globalImplicit), ("len", .globalImplicit)]
theorem sc_Copies_lead : DefSc n_Copies_lead ["self", "k"] k_Copies_lead (defScope s_Copies_lead) := ⟨⟨rfl, rfl, rfl, by decide +kernel, rfl, by decide +kernel, by decide +kernel⟩, rfl, by decide +kernel⟩
abbrev s_Copies_give_as : Stmt := inClass (top 12) 8
abbrev n_Copies_give_as : List Str := ["self", "k", "turn", "what"]
abbrev k_Copies_give_as : List (Str × NameKind) := [("self", .local), ("k", .local), ("turn", .local), ("what", .local), ("Fenced", .globalImplicit)]
theorem sc_Copies_give_as : DefSc n_Copies_give_as ["self", "k", "turn", "what"] k_Copies_give_as (defScope s_Copies_give_as) := ⟨⟨rfl, rfl, rfl, by decide +kernel, rfl, by decide +kernel, by decide +kernel⟩, rfl, by decide +kernel⟩
abbrev s_Copies_lag : Stmt := inClass (top 12) 9
abbrev n_Copies_lag : List Str := ["self", "k"]
abbrev k_Copies_lag : List (Str × NameKind) := [("self", .local), ("k", .local), ("NotDue", .globalImplicit)]
theorem sc_Copies_lag : DefSc n_Copies_lag ["self", "k"] k_Copies_lag (defScope s_Copies_lag) := ⟨⟨rfl, rfl, rfl, by decide +kernel, rfl, by decide +kernel, by decide +kernel⟩, rfl, by decide +kernel⟩
abbrev s_Copies_sure : Stmt := inClass (top 12) 10
abbrev n_Copies_sure : List Str := ["self", "copy", "turn", "what"]
abbrev k_Copies_sure : List (Str × NameKind) := [("self", .local), ("copy", .local), ("tuple", .globalImplicit)]
theorem sc_Copies_sure : DefSc n_Copies_sure ["self"] k_Copies_sure (defScope s_Copies_sure) := ⟨⟨rfl, rfl, rfl, by decide +kernel, rfl, by decide +kernel, by decide +kernel⟩, rfl, by decide +kernel⟩
abbrev kc0_Copies_sure : List (Str × NameKind) := [(".0", .local), ("turn", .local), ("what", .local)]
abbrev ow0_Copies_sure : List (Str × Nat) := [("turn", 2), ("what", 3)]
abbrev s_Copies_alike : Stmt := inClass (top 12) 11
abbrev n_Copies_alike : List Str := ["self", "one", "other", "both", "last", "k"]
abbrev k_Copies_alike : List (Str × NameKind) := [("self", .local), ("one", .cell), ("other", .cell), ("both", .local), ("last", .local), ("min", .globalImplicit), ("max", .globalImplicit), ("range", .globalImplicit)]
theorem sc_Copies_alike : DefSc n_Copies_alike ["self"] k_Copies_alike (defScope s_Copies_alike) := ⟨⟨rfl, rfl, rfl, by decide +kernel, rfl, by decide +kernel, by decide +kernel⟩, rfl, by decide +kernel⟩
abbrev kc0_Copies_alike : List (Str × NameKind) := [(".0", .local), ("k", .local), ("one", .cell), ("other", .cell)]
abbrev ow0_Copies_alike : List (Str × Nat) := [("k", 5)]
abbrev s_law_dice : Stmt := top 14
abbrev n_law_dice : List Str := ["cell"]
abbrev k_law_dice : List (Str × NameKind) := [("cell", .local), ("abs", .globalImplicit), ("int", .globalImplicit)]
theorem sc_law_dice : DefSc n_law_dice ["cell"] k_law_dice (defScope s_law_dice) := ⟨⟨rfl, rfl, rfl, by decide +kernel, rfl, by decide +kernel, by decide +kernel⟩, rfl, by decide +kernel⟩
abbrev s_law_roll : Stmt := top 15
abbrev n_law_roll : List Str := ["dice", "many", "found"]
abbrev k_law_roll : List (Str × NameKind) := [("dice", .local), ("many", .local), ("found", .local), ("int", .globalImplicit)]
theorem sc_law_roll : DefSc n_law_roll ["dice", "many"] k_law_roll (defScope s_law_roll) := ⟨⟨rfl, rfl, rfl, by decide +kernel, rfl, by decide +kernel, by decide +kernel⟩, rfl, by decide +kernel⟩
abbrev s_law_rounds : Stmt := top 16
abbrev n_law_rounds : List Str := ["script", "most", "cells", "cell"]
abbrev k_law_rounds : List (Str × NameKind) := [("script", .local), ("most", .local), ("cells", .local)]
theorem sc_law_rounds : DefSc n_law_rounds ["script", "most"] k_law_rounds (defScope s_law_rounds) := ⟨⟨rfl, rfl, rfl, by decide +kernel, rfl, by decide +kernel, by decide +kernel⟩, rfl, by decide +kernel⟩
abbrev kc0_law_rounds : List (Str × NameKind) := [(".0", .local), ("cell", .local), ("_law_dice", .globalImplicit)]
abbrev ow0_law_rounds : List (Str × Nat) := [("cell", 3)]
abbrev s_law_told : Stmt := top 17
abbrev n_law_told : List Str := ["what"]
abbrev k_law_told : List (Str × NameKind) := [("what", .local), ("BadRecord", .globalImplicit), ("OutOfLog", .globalImplicit), ("Fenced", .globalImplicit), ("OutOfOrder", .globalImplicit), ("NotDue", .globalImplicit), ("BadPlan", .globalImplicit), ("BadText", .globalImplicit), ("TooLarge", .globalImplicit)]
theorem sc_law_told : DefSc n_law_told ["what"] k_law_told (defScope s_law_told) := ⟨⟨rfl, rfl, rfl, by decide +kernel, rfl, by decide +kernel, by decide +kernel⟩, rfl, by decide +kernel⟩
abbrev s_law_deed : Stmt := top 18
abbrev n_law_deed : List Str := ["dice", "copies", "count", "k", "kind", "one"]
abbrev k_law_deed : List (Str × NameKind) := [("dice", .local), ("copies", .cell), ("count", .cell), ("k", .cell), ("kind", .cell), ("one", .cell), ("_law_roll", .globalImplicit), ("_law_told", .globalImplicit), ("sum", .globalImplicit), ("range", .globalImplicit)]
theorem sc_law_deed : DefSc n_law_deed ["dice", "copies", "count"] k_law_deed (defScope s_law_deed) := ⟨⟨rfl, rfl, rfl, by decide +kernel, rfl, by decide +kernel, by decide +kernel⟩, rfl, by decide +kernel⟩
abbrev s_law : Stmt := top 19
abbrev n_law : List Str := ["script", "dice", "sure", "given", "turn", "now", "k", "copies", "fresh", "one"]
abbrev k_law : List (Str × NameKind) := [("script", .local), ("dice", .local), ("sure", .local), ("given", .cell), ("turn", .local), ("now", .local), ("k", .local), ("copies", .cell), ("fresh", .cell), ("_law_rounds", .globalImplicit), ("Copies", .globalImplicit), ("_law_roll", .globalImplicit), ("range", .globalImplicit), ("_law_deed", .globalImplicit), ("str", .globalImplicit), ("len", .globalImplicit), ("_law_told", .globalImplicit)]
theorem sc_law : DefSc n_law ["script"] k_law (defScope s_law) := ⟨⟨rfl, rfl, rfl, by decide +kernel, rfl, by decide +kernel, by decide +kernel⟩, rfl, by decide +kernel⟩
abbrev kc0_law : List (Str × NameKind) := [(".0", .local), ("one", .local), ("given", .cell)]
abbrev ow0_law : List (Str × Nat) := [("one", 9)]
/-! ### the state, plainly -/
abbrev Rec := Int × Str
abbrev rRec : PRep Rec := rPair rInt rStr
structure Cp where
  rs : List Rec
  high : Int
  turn : Int
structure CS where
  c : Nat → Cp
  least : Int
  up : Nat → Bool
  leader : Option Nat
  turn : Int
  wl : List Int
  known : Nat → Int
  joined : Nat → Bool
def vLd : Option Nat → V
  | none => .non
  | some k => .int (k : Int)
def fset {α : Type} (f : Nat → α) (k : Nat) (v : α) : Nat → α := fun i => if i = k then v else f i
theorem fset_same {α : Type} {f : Nat → α} {k : Nat} {v : α} : fset f k v k = v := if_pos rfl
theorem fset_ne {α : Type} {f : Nat → α} {k i : Nat} {v : α} (h : i ≠ k) : fset f k v i = f i := if_neg h
def l3 (f : Nat → V) : List V := [f 0, f 1, f 2]
theorem at3 {f : Nat → V} {k : Nat} (h : k < 3) : atI (l3 f) (k : Int) = some (f k) := by
  rcases k with _ | _ | _ | k
  · rfl
  · rfl
  · rfl
  · omega
theorem put3 {α : Type} {g : α → V} {f : Nat → α} {k : Nat} {v : α} (h : k < 3) : PutAt (l3 fun i => g (f i)) (k : Int) (g v) (l3 fun i => g (fset f k v i)) := by
  refine ⟨k, ?_, ?_⟩
  · rcases k with _ | _ | _ | k
    · rfl
    · rfl
    · rfl
    · omega
  · rcases k with _ | _ | _ | k
    · rfl
    · rfl
    · rfl
    · omega
abbrev cpo (K : PySem.W.Frag) (d r : Addr) (c : Cp) : HO := .ins (He.ga K "Copy") d [("records", .ref r), ("high", .int c.high), ("turn", .int c.turn)]
/-- one copy -/
def CopyP (K : PySem.W.Frag) (a : Addr) (c : Cp) : SA := fun h => ∃ q : Addr × Addr, Pcs [pt a (cpo K q.1 q.2 c), LstR rRec q.2 c.rs] h
/-- copies but for those of a row -/
def RestP (K : PySem.W.Frag) (a : Nat → Addr) (c : Nat → Cp) (but : List Nat) : SA := fun h => Pcs ((([0, 1, 2] : List Nat).filter fun i => !decide (i ∈ but)).map fun i => CopyP K (a i) (c i)) h
abbrev cso (K : PySem.W.Frag) (dc lc lu lw lk lj : Addr) (S : CS) (v : V) : HO := .ins (He.ga K "Copies") dc [("copies", .ref lc), ("least", .int S.least), ("up", .ref lu), ("leader", v), ("turn", .int S.turn), ("with_leader", .ref lw), ("known", .ref lk), ("joined", .ref lj)]
/-- self, flat; the copies in one -/
abbrev cpsF (K : PySem.W.Frag) (o : Addr) (a : Nat → Addr) (dc lc lu lw lk lj : Addr) (S : CS) (v : V) (R : List SA) : List SA :=
  pt o (cso K dc lc lu lw lk lj S v) :: pt lc (.lst (l3 fun i => .ref (a i))) :: pt lu (.lst (l3 fun i => .bl (S.up i))) :: pt lw (.lst (S.wl.map V.int)) :: pt lk (.lst (l3 fun i => .int (S.known i))) ::
   pt lj (.lst (l3 fun i => .bl (S.joined i))) :: RestP K a S.c [] :: R
/-- all of it in one -/
def CpsR (K : PySem.W.Frag) (o : Addr) (a : Nat → Addr) (S : CS) : SA := fun h => ∃ q : Addr × Addr × Addr × Addr × Addr × Addr, Pcs (cpsF K o a q.1 q.2.1 q.2.2.1 q.2.2.2.1 q.2.2.2.2.1 q.2.2.2.2.2 S (vLd S.leader) []) h
section
variable {T : List (Addr × Str)} {K : PySem.W.Frag} {o : Addr} {a : Nat → Addr} {S : CS} {c : Nat → Cp} {L R : List SA}
theorem cps_unf {H : Hp} (h : Hs T (CpsR K o a S :: R) H) : ∃ dc lc lu lw lk lj, Hs T (cpsF K o a dc lc lu lw lk lj S (vLd S.leader) R) H := by
  obtain ⟨q, h'⟩ := h.pcs.ex
  exact ⟨q.1, q.2.1, q.2.2.1, q.2.2.2.1, q.2.2.2.2.1, q.2.2.2.2.2, h.tabs, h'.unf⟩
theorem ins_cps {m : Str} (s : Sel L (CpsR K o a S) R) (hm : ∀ v1 v2 v3 v4 v5 v6 v7 v8 : V, NoF [("copies", v1), ("least", v2), ("up", v3), ("leader", v4), ("turn", v5), ("with_leader", v6), ("known", v7), ("joined", v8)] m) : IsIns T (He.ga K "Copies") (.ref o) m L := ⟨o, rfl, fun H h => by
  obtain ⟨dc, lc, lu, lw, lk, lj, h'⟩ := cps_unf (h.sel s)
  exact ⟨_, _, h'.get, (hm _ _ _ _ _ _ _ _).eq⟩⟩
theorem cps_want {dc lc lu lw lk lj : Addr} {v : V} (f : Fit L (cpsF K o a dc lc lu lw lk lj S v R)) (e : vLd S.leader = v) : Fit L (CpsR K o a S :: R) := fun H h => by
  subst e
  have q : Pcs ((fun g => Pcs (cpsF K o a dc lc lu lw lk lj S (vLd S.leader) []) g) :: R) H := Pcs.fold (L1 := cpsF K o a dc lc lu lw lk lj S (vLd S.leader) []) (L := R) (f H h)
  exact q.imp fun g x => ⟨(dc, lc, lu, lw, lk, lj), x⟩
theorem copy_unf {H : Hp} {x : Addr} {d : Cp} (h : Hs T (CopyP K x d :: R) H) : ∃ q : Addr × Addr, Hs T (pt x (cpo K q.1 q.2 d) :: LstR rRec q.2 d.rs :: R) H := by
  obtain ⟨A, q⟩ := h.pcs.ex
  exact ⟨A, h.tabs, q.unf⟩
theorem copy_fold {x d r : Addr} {e : Cp} : Fit (pt x (cpo K d r e) :: LstR rRec r e.rs :: R) (CopyP K x e :: R) := fun H h => by
  have q : Pcs ((fun g => Pcs [pt x (cpo K d r e), LstR rRec r e.rs] g) :: R) H := Pcs.fold (L1 := [pt x (cpo K d r e), LstR rRec r e.rs]) (L := R) h
  exact q.imp fun g x => ⟨(d, r), x⟩
theorem Fit.trans {L L1 L2 : List SA} (f : Fit L L1) (g : Fit L1 L2) : Fit L L2 := fun H h => g H (f H h)
theorem Fit.of {L W : List SA} (p : L.Perm W) : Fit L W := fun H h => h.perm p
/-- one copy taken out -/
theorem rest_out {k : Nat} (hk : k < 3) : Fit (RestP K a c [] :: R) (CopyP K (a k) (c k) :: RestP K a c [k] :: R) := fun H h => by
  have q : Pcs ([CopyP K (a 0) (c 0), CopyP K (a 1) (c 1), CopyP K (a 2) (c 2)] ++ R) H := h.unf
  rcases k with _ | _ | _ | k
  · exact (Pcs.cons2 (A := CopyP K (a 0) (c 0)) Cv.id (fun G g => Pcs.fold (L1 := [CopyP K (a 1) (c 1), CopyP K (a 2) (c 2)]) g) q)
  · exact (Pcs.cons2 (A := CopyP K (a 1) (c 1)) Cv.id (fun G g => Pcs.fold (L1 := [CopyP K (a 0) (c 0), CopyP K (a 2) (c 2)]) g) (q.perm (List.Perm.swap _ _ _)))
  · exact (Pcs.cons2 (A := CopyP K (a 2) (c 2)) Cv.id (fun G g => Pcs.fold (L1 := [CopyP K (a 0) (c 0), CopyP K (a 1) (c 1)]) g) (q.perm (List.perm_middle (l₁ := [CopyP K (a 0) (c 0), CopyP K (a 1) (c 1)]))))
  · omega
theorem rest_in {k : Nat} {d : Cp} (hk : k < 3) : Fit (CopyP K (a k) d :: RestP K a c [k] :: R) (RestP K a (fset c k d) [] :: R) := fun H h => by
  rcases k with _ | _ | _ | k
  · have q : Pcs (CopyP K (a 0) d :: ([CopyP K (a 1) (c 1), CopyP K (a 2) (c 2)] ++ R)) H := Pcs.cons2 Cv.id (fun G g => Pcs.unf (L1 := [CopyP K (a 1) (c 1), CopyP K (a 2) (c 2)]) g) h
    exact Pcs.fold (L1 := [CopyP K (a 0) d, CopyP K (a 1) (c 1), CopyP K (a 2) (c 2)]) q
  · have q : Pcs (CopyP K (a 1) d :: ([CopyP K (a 0) (c 0), CopyP K (a 2) (c 2)] ++ R)) H := Pcs.cons2 Cv.id (fun G g => Pcs.unf (L1 := [CopyP K (a 0) (c 0), CopyP K (a 2) (c 2)]) g) h
    exact Pcs.fold (L1 := [CopyP K (a 0) (c 0), CopyP K (a 1) d, CopyP K (a 2) (c 2)]) (q.perm (List.Perm.swap _ _ _))
  · have q : Pcs (CopyP K (a 2) d :: ([CopyP K (a 0) (c 0), CopyP K (a 1) (c 1)] ++ R)) H := Pcs.cons2 Cv.id (fun G g => Pcs.unf (L1 := [CopyP K (a 0) (c 0), CopyP K (a 1) (c 1)]) g) h
    exact Pcs.fold (L1 := [CopyP K (a 0) (c 0), CopyP K (a 1) (c 1), CopyP K (a 2) d]) (q.perm (List.perm_middle (l₁ := [CopyP K (a 0) (c 0), CopyP K (a 1) (c 1)])).symm)
  · omega
theorem rest_want {k : Nat} {d r : Addr} {e : Cp} (hk : k < 3) (f : Fit L (pt (a k) (cpo K d r e) :: LstR rRec r e.rs :: RestP K a c [k] :: R)) : Fit L (RestP K a (fset c k e) [] :: R) := Fit.trans (Fit.trans f copy_fold) (rest_in hk)
theorem copy_want {x d r : Addr} {e : Cp} (f : Fit L (pt x (cpo K d r e) :: LstR rRec r e.rs :: R)) : Fit L (CopyP K x e :: R) := Fit.trans f copy_fold
theorem rest_back {k : Nat} {d r : Addr} {L1 : List SA} (s : Sel L (RestP K a c [k]) L1) (hk : k < 3) (f : Fit L1 (pt (a k) (cpo K d r (c k)) :: LstR rRec r (c k).rs :: R)) : Fit L (RestP K a c [] :: R) := fun H h => by
  have h1 : Pcs (RestP K a c [k] :: (pt (a k) (cpo K d r (c k)) :: LstR rRec r (c k).rs :: R)) H := (h.perm s.perm).cons2 Cv.id f
  have h2 : Pcs (pt (a k) (cpo K d r (c k)) :: LstR rRec r (c k).rs :: RestP K a c [k] :: R) H := h1.perm ((List.Perm.swap _ _ _).trans ((List.Perm.swap _ _ _).cons _))
  have h3 := rest_in (K := K) (a := a) (c := c) (d := c k) (R := R) hk H (copy_fold H h2)
  have e : fset c k (c k) = c := by
    funext i
    by_cases q : i = k
    · subst q; exact fset_same
    · exact fset_ne q
  rw [e] at h3
  exact h3
/-- a second one -/
theorem rest_out2 {k l : Nat} (hk : k < 3) (hl : l < 3) (hn : l ≠ k) : Fit (RestP K a c [k] :: R) (CopyP K (a l) (c l) :: RestP K a c [k, l] :: R) := fun H h => by
  rcases k with _ | _ | _ | k <;> rcases l with _ | _ | _ | l <;> first
    | omega
    | exact absurd rfl hn
    | (have q := Pcs.unf h
       first
         | exact Pcs.cons2 Cv.id (fun G g => Pcs.fold g) q
         | exact Pcs.cons2 Cv.id (fun G g => Pcs.fold g) (q.perm (List.Perm.swap _ _ _)))
theorem rest_in2 {k l : Nat} (hk : k < 3) (hl : l < 3) (hn : l ≠ k) : Fit (CopyP K (a l) (c l) :: RestP K a c [k, l] :: R) (RestP K a c [k] :: R) := fun H h => by
  rcases k with _ | _ | _ | k <;> rcases l with _ | _ | _ | l <;> first
    | omega
    | exact absurd rfl hn
    | (have q := Pcs.cons2 Cv.id (fun G g => Pcs.unf g) h
       first
         | exact Pcs.fold q
         | exact Pcs.fold (q.perm (List.Perm.swap _ _ _)))
end
/-- facts of the program's head -/
structure Fx (K : PySem.W.Frag) (mg : Str → Option Value) : Prop where
  int : mg "int" = none
  len : mg "len" = none
  max : mg "max" = none
  min : mg "min" = none
  sum : mg "sum" = none
  range : mg "range" = none
  list : mg "list" = none
  tuple : mg "tuple" = none
  str : mg "str" = none
  abs : mg "abs" = none
  cCopy : Cls K (He.ga K "Copy")
  cCopies : Cls K (He.ga K "Copies")
  n1 : NoAttr K (He.ga K "Copy") "records"
  n2 : NoAttr K (He.ga K "Copy") "high"
  n3 : NoAttr K (He.ga K "Copy") "turn"
  m1 : NoAttr K (He.ga K "Copies") "copies"
  m2 : NoAttr K (He.ga K "Copies") "least"
  m3 : NoAttr K (He.ga K "Copies") "up"
  m4 : NoAttr K (He.ga K "Copies") "leader"
  m5 : NoAttr K (He.ga K "Copies") "turn"
  m6 : NoAttr K (He.ga K "Copies") "with_leader"
  m7 : NoAttr K (He.ga K "Copies") "known"
  m8 : NoAttr K (He.ga K "Copies") "joined"
  nd : ExAt K mg "NotDue"
  fe : ExAt K mg "Fenced"
/-- the worlds -/
structure Ev where
  T : List (Addr × Str)
  P : Program
  w : World
  K : PySem.W.Frag
  mg : Str → Option Value
  base : Heap
end K04
set_option Elab.async false
set_option linter.all false
set_option maxRecDepth 100000
set_option pp.deepTerms false
set_option pp.deepTerms.threshold 4
set_option pp.maxSteps 400
namespace K04
open PySem PySem.Spec L2 SW
open PyProof.Rows hiding St
local macro_rules | `(tactic| tm_at "sAt") => `(tactic| with_reducible (first | exact At.here | (apply At.there; tm_at "sAt")))
local macro_rules | `(tactic| tm_at "sSlot") => `(tactic| with_reducible (first | exact Slot.here | (apply Slot.there; tm_at "sSlot")))
local macro_rules | `(tactic| tm_at "sKd") => `(tactic| with_reducible (first | exact Kd.here | (apply Kd.there; tm_at "sKd")))
local macro_rules | `(tactic| tm_at "sSel") => `(tactic| with_reducible (first | exact Sel.here | (apply Sel.there; tm_at "sSel")))
local macro_rules | `(tactic| tm_at "sRpl") => `(tactic| with_reducible (first | exact Rpl.here | (apply Rpl.there; tm_at "sRpl")))
local macro_rules | `(tactic| tm_at "sTk") => `(tactic| (first | exact Tk.nil | (apply Tk.cons; (tm_at "sSel"); (tm_at "sTk"))))
local macro_rules | `(tactic| tm_at "sVk") => `(tactic| first
  | exact Vk.l
  | exact Vk.c
  | exact Vk.f)
local macro_rules | `(tactic| tm_at "sLk") => `(tactic| first
  | exact Lk.l
  | exact Lk.c)
local macro_rules | `(tactic| tm_at "sLf") => `(tactic| first
  | exact Or.inl rfl
  | exact Or.inr rfl)
local macro_rules | `(tactic| tm_at "sRoom") => `(tactic| first
  | assumption
  | exact L2.Room.mono (by assumption) (by decide))
local macro_rules | `(tactic| tm_at "sXok") => `(tactic| first
  | assumption
  | exact xok0)
local macro_rules | `(tactic| tm_at "sCv") => `(tactic| (first | with_reducible exact Cv.id | with_reducible exact Cv.lst0 | ((with_reducible refine Cv.pt ?_); tm_at "sEq") | ((with_reducible refine Cv.lst ?_); tm_at "sEq") | ((with_reducible refine Cv.val ?_); tm_at "sEq")))
local macro_rules | `(tactic| tm_at "sEq") => `(tactic| (first | rfl | assumption | (simp; done)))
local macro_rules | `(tactic| tm_at "sSelC") => `(tactic| (first | ((with_reducible apply SelC.here); tm_at "sCv") | ((with_reducible apply SelC.there); tm_at "sSelC")))
local macro_rules | `(tactic| tm_at "fit") => `(tactic| (first | with_reducible exact Fit.refl | with_reducible exact Fit.nil | ((with_reducible apply Fit.find); (case s => tm_at "sSelC"); (case t => tm_at "fit")) | ((with_reducible apply Fit.drop); tm_at "fit")))
local macro_rules | `(tactic| tm_at "sLkF") => `(tactic| with_reducible (first | exact LkF.here | (apply LkF.there (by with_unfolding_all rfl); tm_at "sLkF")))
local macro_rules | `(tactic| tm_at "sNoF") => `(tactic| with_reducible (first | exact NoF.nil | (apply NoF.cons (by with_unfolding_all rfl); tm_at "sNoF")))
local macro_rules | `(tactic| tm_at "sPutF") => `(tactic| with_reducible (first | exact PutF.here | exact PutF.nil | (apply PutF.there (by with_unfolding_all rfl); tm_at "sPutF")))
local macro_rules | `(tactic| tm_at "sHasL") => `(tactic| (first | exact hasL_pt (by tm_at "sSel") | exact hasL_R (by tm_at "sSel")))
local macro_rules | `(tactic| tm_at "sZ") => `(tactic| (first | assumption | (simp only [List.length_cons, List.length_nil, List.length_append, PySem.sizeLine_eq]; omega) | (rw [PySem.sizeLine_eq]; simp; done)))
local macro_rules | `(tactic| tm_at "sIx") => `(tactic| with_unfolding_all rfl)
local macro_rules | `(tactic| tm_at "sSet") => `(tactic| (first | exact SetR.here | (apply SetR.there; tm_at "sSet")))
local macro_rules | `(tactic| tm_at "sPut") => `(tactic| first
  | exact PutAt.c 0 (by with_unfolding_all rfl) (by tm_at "sSet")
  | exact PutAt.c 1 (by with_unfolding_all rfl) (by tm_at "sSet")
  | exact PutAt.c 2 (by with_unfolding_all rfl) (by tm_at "sSet")
  | exact PutAt.c 3 (by with_unfolding_all rfl) (by tm_at "sSet")
  | exact PutAt.c 4 (by with_unfolding_all rfl) (by tm_at "sSet")
  | exact PutAt.c 5 (by with_unfolding_all rfl) (by tm_at "sSet"))
local macro_rules | `(tactic| tm_at "gECall") => `(tactic| first
  | ((guard_target = GE _ _ (Expr.Call (Expr.Name "len" _) _ _ _) _ _ _); (with_reducible refine gb_len (by assumption) (by tm_at "sKd") ?hm ?he ?hpl ?_); (case hm => assumption); (case he => rfl); (case hpl => rfl))
  | ((guard_target = GE _ _ (Expr.Call (Expr.Name "int" _) _ _ _) _ _ _); (with_reducible refine gb_int (by assumption) (by tm_at "sKd") ?hm ?he ?hpl ?_); (case hm => assumption); (case he => rfl); (case hpl => rfl))
  | ((guard_target = GE _ _ (Expr.Call (Expr.Name "str" _) _ _ _) _ _ _); (with_reducible refine gb_str (by assumption) (by tm_at "sKd") ?hm ?he ?hpl ?_); (case hm => assumption); (case he => rfl); (case hpl => rfl))
  | ((guard_target = GE _ _ (Expr.Call (Expr.Name "list" _) _ _ _) _ _ _); (with_reducible refine gb_list (by assumption) (by tm_at "sKd") ?hm ?he ?hpl ?_); (case hm => assumption); (case he => rfl); (case hpl => rfl))
  | ((guard_target = GE _ _ (Expr.Call (Expr.Name "tuple" _) _ _ _) _ _ _); (with_reducible refine gb_tuple (by assumption) (by tm_at "sKd") ?hm ?he ?hpl ?_); (case hm => assumption); (case he => rfl); (case hpl => rfl))
  | ((guard_target = GE _ _ (Expr.Call (Expr.Name "min" _) _ _ _) _ _ _); (with_reducible refine gb_min (by assumption) (by tm_at "sKd") ?hm ?he ?hpl ?_); (case hm => assumption); (case he => rfl); (case hpl => rfl))
  | ((guard_target = GE _ _ (Expr.Call (Expr.Name "max" _) _ _ _) _ _ _); (with_reducible refine gb_max (by assumption) (by tm_at "sKd") ?hm ?he ?hpl ?_); (case hm => assumption); (case he => rfl); (case hpl => rfl))
  | ((guard_target = GE _ _ (Expr.Call (Expr.Name "sum" _) _ _ _) _ _ _); (with_reducible refine gb_sum (by assumption) (by tm_at "sKd") ?hm ?he ?hpl ?_); (case hm => assumption); (case he => rfl); (case hpl => rfl))
  | ((guard_target = GE _ _ (Expr.Call (Expr.Name "sorted" _) _ _ _) _ _ _); (with_reducible refine gb_sorted (by assumption) (by tm_at "sKd") ?hm ?he ?hpl ?_); (case hm => assumption); (case he => rfl); (case hpl => rfl))
  | ((guard_target = GE _ _ (Expr.Call (Expr.Name "abs" _) _ _ _) _ _ _); (with_reducible refine gb_abs (by assumption) (by tm_at "sKd") ?hm ?he ?hpl ?_); (case hm => assumption); (case he => rfl); (case hpl => rfl))
  | ((guard_target = GE _ _ (Expr.Call (Expr.Name "range" _) _ _ _) _ _ _); (with_reducible refine gb_range (by assumption) (by tm_at "sKd") ?hm ?he ?hpl ?_); (case hm => assumption); (case he => rfl); (case hpl => rfl))
  | ((guard_target = GE _ _ (Expr.Call (Expr.Name "any" _) _ _ _) _ _ _); (with_reducible refine gb_any (by assumption) (by tm_at "sKd") ?hm ?he ?hpl ?_); (case hm => assumption); (case he => rfl); (case hpl => rfl))
  | ((guard_target = GE _ _ (Expr.Call (Expr.Name "all" _) _ _ _) _ _ _); (with_reducible refine gb_all (by assumption) (by tm_at "sKd") ?hm ?he ?hpl ?_); (case hm => assumption); (case he => rfl); (case hpl => rfl))
  | ((guard_target = GE _ _ (Expr.Call (Expr.Name "dict" _) _ _ _) _ _ _); (with_reducible refine gb_dict (by assumption) (by tm_at "sKd") ?hm ?he ?hpl ?_); (case hm => assumption); (case he => rfl); (case hpl => rfl))
  | ((guard_target = GE _ _ (Expr.Call (Expr.Name "set" _) _ _ _) _ _ _); (with_reducible refine gb_set (by assumption) (by tm_at "sKd") ?hm ?he ?hpl ?_); (case hm => assumption); (case he => rfl); (case hpl => rfl)))
local macro_rules | `(tactic| tm_at "gECall") => `(tactic| (guard_target = GE _ _ (Expr.Call (Expr.Name "_law_roll" _) (_ :: _) [] _) _ _ _; (refine ge_call (FnAt.e (x := "_law_roll") (by assumption)) (by tm_at "sRoom") (by tm_at "sXok") (Nm.gl (by assumption) (by tm_at "sKd")) ?hdb ?he ?hpl ?_); (case hdb => rfl); (case he => rfl); (case hpl => rfl)))
local macro_rules | `(tactic| tm_at "gECall") => `(tactic| (guard_target = GE _ _ (Expr.Call (Expr.Name "_law_dice" _) (_ :: _) [] _) _ _ _; (refine ge_call (FnAt.e (x := "_law_dice") (by assumption)) (by tm_at "sRoom") (by tm_at "sXok") (Nm.gl (by assumption) (by tm_at "sKd")) ?hdb ?he ?hpl ?_); (case hdb => rfl); (case he => rfl); (case hpl => rfl)))
local macro_rules | `(tactic| tm_at "gECall") => `(tactic| (guard_target = GE _ _ (Expr.Call (Expr.Name "_law_rounds" _) (_ :: _) [] _) _ _ _; (refine ge_call (FnAt.e (x := "_law_rounds") (by assumption)) (by tm_at "sRoom") (by tm_at "sXok") (Nm.gl (by assumption) (by tm_at "sKd")) ?hdb ?he ?hpl ?_); (case hdb => rfl); (case he => rfl); (case hpl => rfl)))
local macro_rules | `(tactic| tm_at "gECall") => `(tactic| (guard_target = GE _ _ (Expr.Call (Expr.Name "_law_deed" _) (_ :: _) [] _) _ _ _; (refine ge_call (FnAt.e (x := "_law_deed") (by assumption)) (by tm_at "sRoom") (by tm_at "sXok") (Nm.gl (by assumption) (by tm_at "sKd")) ?hdb ?he ?hpl ?_); (case hdb => rfl); (case he => rfl); (case hpl => rfl)))
local macro_rules | `(tactic| tm_at "gE") => `(tactic| first
  | ((guard_target = GE _ _ (Expr.Name _ _) _ _ _); (with_reducible refine ge_name (by assumption) (by tm_at "sAt") (by tm_at "sKd") (by tm_at "sVk") rfl ?_))
  | ((guard_target = GE _ _ (Expr.Constant (Const.int _) _ _) _ _ _); (with_reducible refine ge_int ?_))
  | ((guard_target = GE _ _ (Expr.Attribute _ _ _) _ _ _); (with_reducible refine ge_fld ?hb ?_); (case hb => rfl))
  | ((guard_target = GE _ _ (Expr.Subscript _ (Expr.Slice _ _ none _) _) _ _ _); (with_reducible refine ge_slice ?_))
  | ((guard_target = GE _ _ (Expr.Call (Expr.Attribute _ _ _) _ _ _) _ _ _); tm_at "gEMeth")
  | ((guard_target = GE _ _ (Expr.Subscript _ _ _) _ _ _); (with_reducible refine ge_sub ?hs ?_); (case hs => exact fun _ _ => rfl))
  | ((guard_target = GE _ _ (Expr.BinOp _ _ _ _) _ _ _); (with_reducible refine ge_bin ?_))
  | ((guard_target = GE _ _ (Expr.Constant (Const.str _) _ _) _ _ _); (with_reducible refine ge_str ?_))
  | ((guard_target = GE _ _ (Expr.Call (Expr.Name _ _) _ _ _) _ _ _); tm_at "gECall")
  | ((guard_target = GE _ _ (Expr.List _ _) _ _ _); (with_reducible refine ge_lst ?_))
  | ((guard_target = GE _ _ (Expr.Tuple _ _ _) _ _ _); (with_reducible refine ge_tup ?_))
  | ((guard_target = GE _ _ (Expr.Constant Const.none _ _) _ _ _); (with_reducible refine ge_none ?_))
  | ((guard_target = GE _ _ (Expr.Constant (Const.bool _) _ _) _ _ _); (with_reducible refine ge_bl ?_))
  | ((guard_target = GE _ _ (Expr.Compare _ [_] [_] _) _ _ _); (with_reducible refine ge_cmp ?hm ?_); (case hm => first | exact nomark _ | rfl))
  | ((guard_target = GE _ _ (Expr.UnaryOp UnaryOp.Not _ _) _ _ _); (with_reducible refine ge_not ?_))
  | ((guard_target = GE _ _ (Expr.UnaryOp _ _ _) _ _ _); (with_reducible refine ge_un ?_))
  | ((guard_target = GE _ _ (Expr.IfExp _ _ _ _) _ _ _); (with_reducible refine ge_if ?_))
  | ((guard_target = GE _ _ (Expr.Compare _ [_, _] [_, _] _) _ _ _); (with_reducible refine ge_chain ?hm ?_); (case hm => with_unfolding_all rfl))
  | ((guard_target = GE _ _ (Expr.BoolOp _ [_] _) _ _ _); (with_reducible refine ge_one ?_))
  | ((guard_target = GE _ _ (Expr.BoolOp BoolOp.And _ _) _ _ _); (with_reducible refine ge_and ?_))
  | ((guard_target = GE _ _ (Expr.BoolOp BoolOp.Or _ _) _ _ _); (with_reducible refine ge_or ?_)))
local macro_rules | `(tactic| tm_at "gEMeth") => `(tactic| first
  | ((guard_target = GE _ _ (Expr.Call (Expr.Attribute _ "append" _) [_] [] _) _ _ _); (with_reducible refine ge_append ?h1 ?h2 ?h3 ?h4 ?h5 ?_); (case h1 => rfl); (case h2 => rfl); (case h3 => rfl); (case h4 => rfl); (case h5 => rfl))
  | ((guard_target = GE _ _ (Expr.Call (Expr.Attribute _ "extend" _) [_] [] _) _ _ _); (with_reducible refine ge_extend ?h1 ?h2 ?h3 ?h4 ?h5 ?_); (case h1 => rfl); (case h2 => rfl); (case h3 => rfl); (case h4 => rfl); (case h5 => rfl))
  | ((guard_target = GE _ _ (Expr.Call (Expr.Attribute _ "remove" _) [_] [] _) _ _ _); (with_reducible refine ge_remove ?h1 ?h2 ?h3 ?h4 ?h5 ?_); (case h1 => rfl); (case h2 => rfl); (case h3 => rfl); (case h4 => rfl); (case h5 => rfl))
  | ((guard_target = GE _ _ (Expr.Call (Expr.Attribute _ "pop" _) [_] [] _) _ _ _); (with_reducible refine ge_popAt ?h1 ?h2 ?h3 ?h4 ?h5 ?_); (case h1 => rfl); (case h2 => rfl); (case h3 => rfl); (case h4 => rfl); (case h5 => rfl)))
local macro_rules | `(tactic| tm_at "gT") => `(tactic| first
  | ((guard_target = GT _ _ (Expr.Compare _ [_] [_] _) _ _ _); (with_reducible refine gt_cmp ?hm ?_); (case hm => first | exact nomark _ | rfl))
  | ((guard_target = GT _ _ (Expr.UnaryOp UnaryOp.Not _ _) _ _ _); (with_reducible refine gt_not ?_))
  | ((guard_target = GT _ _ (Expr.BoolOp _ _ _) _ _ _); (with_reducible refine gt_bool ?_))
  | ((guard_target = GT _ _ (Expr.Compare _ [_, _] [_, _] _) _ _ _); (with_reducible refine gt_chain ?hm ?_); (case hm => with_unfolding_all rfl))
  | ((guard_target = GT _ _ (Expr.Call _ _ _ _) _ _ _); (with_reducible refine gt_val ?he ?_); (case he => intro _; rfl))
  | ((guard_target = GT _ _ (Expr.Subscript _ _ _) _ _ _); (with_reducible refine gt_val ?he ?_); (case he => intro _; rfl))
  | ((guard_target = GT _ _ (Expr.Name _ _) _ _ _); (with_reducible refine gt_val ?he ?_); (case he => intro _; rfl))
  | ((guard_target = GT _ _ (Expr.Attribute _ _ _) _ _ _); (with_reducible refine gt_val ?he ?_); (case he => intro _; rfl)))
local macro_rules | `(tactic| tm_at "gB") => `(tactic| first
  | ((guard_target = GB _ _ (Expr.BoolOp BoolOp.And [_] _) _ _ _); (with_reducible refine gb_and1 ?_))
  | ((guard_target = GB _ _ (Expr.BoolOp BoolOp.Or [_] _) _ _ _); (with_reducible refine gb_or1 ?_))
  | ((guard_target = GB _ _ (Expr.BoolOp BoolOp.And _ _) _ _ _); (with_reducible refine gb_and ?_))
  | ((guard_target = GB _ _ (Expr.BoolOp BoolOp.Or _ _) _ _ _); (with_reducible refine gb_or ?_)))
local macro_rules | `(tactic| tm_at "gA") => `(tactic| first
  | ((guard_target = GA _ _ ([]) _ _ _); (with_reducible refine ga_nil ?_))
  | ((guard_target = GA _ _ (_ :: _) _ _ _); (with_reducible refine ga_cons ?hst ?_); (case hst => rfl)))
local macro_rules | `(tactic| tm_at "gOp") => `(tactic| first
  | ((guard_target = GOp _ _ (binaryOp Operator.Add) (V.int _) (V.int _) _ _); (with_reducible refine go_add ?_))
  | ((guard_target = GOp _ _ (binaryOp Operator.Sub) (V.int _) (V.int _) _ _); (with_reducible refine go_sub ?_))
  | ((guard_target = GOp _ _ (compareOp CmpOp.Eq) (V.int _) (V.int _) _ _); (with_reducible refine go_eqI ?_))
  | ((guard_target = GOp _ _ (compareOp CmpOp.Lt) (V.int _) (V.int _) _ _); (with_reducible refine go_lt ?_))
  | ((guard_target = GOp _ _ (compareOp CmpOp.LtE) (V.int _) (V.int _) _ _); (with_reducible refine go_le ?_))
  | ((guard_target = GOp _ _ (compareOp CmpOp.Gt) (V.int _) (V.int _) _ _); (with_reducible refine go_gt ?_))
  | ((guard_target = GOp _ _ (compareOp CmpOp.GtE) (V.int _) (V.int _) _ _); (with_reducible refine go_ge ?_))
  | ((guard_target = GOp _ _ (compareOp CmpOp.NotEq) (V.int _) (V.int _) _ _); (with_reducible refine go_neI ?_))
  | ((guard_target = GOp _ _ (binaryOp Operator.Mult) (V.int _) (V.int _) _ _); (with_reducible refine go_mul ?c ?_); (case c => first | (left; constructor <;> omega) | (right; constructor <;> omega)))
  | ((guard_target = GOp _ _ (binaryOp Operator.FloorDiv) (V.int _) (V.int _) _ _); (with_reducible refine go_div ?c ?_); (case c => constructor <;> omega))
  | ((guard_target = GOp _ _ (binaryOp Operator.Mod) (V.int _) (V.int _) _ _); (with_reducible refine go_mod ?c ?_); (case c => omega))
  | ((guard_target = GOp _ _ (compareOp CmpOp.Eq) (V.str _) (V.str _) _ _); (with_reducible refine go_eqT ?_))
  | ((guard_target = GOp _ _ (compareOp CmpOp.NotEq) (V.str _) (V.str _) _ _); (with_reducible refine go_neT ?_))
  | ((guard_target = GOp _ _ (compareOp CmpOp.Eq) (V.bl _) (V.bl _) _ _); (with_reducible refine go_eqB ?_))
  | ((guard_target = GOp _ _ (compareOp CmpOp.NotEq) (V.bl _) (V.bl _) _ _); (with_reducible refine go_neB ?_))
  | ((guard_target = GOp _ _ (compareOp CmpOp.In) (V.int _) (V.ref _) _ _); (with_reducible refine go_inI (by tm_at "sSel") ?_))
  | ((guard_target = GOp _ _ (compareOp CmpOp.NotIn) (V.int _) (V.ref _) _ _); (with_reducible refine go_ninI (by tm_at "sSel") ?_))
  | ((guard_target = GOp _ _ (compareOp CmpOp.In) (V.str _) (V.ref _) _ _); (with_reducible refine go_inT (by tm_at "sSel") ?_))
  | ((guard_target = GOp _ _ (compareOp CmpOp.NotIn) (V.str _) (V.ref _) _ _); (with_reducible refine go_ninT (by tm_at "sSel") ?_))
  | ((guard_target = GOp _ _ (compareOp CmpOp.Eq) (_) (V.non) _ _); (with_reducible refine go_eqS rfl ?_))
  | ((guard_target = GOp _ _ (compareOp CmpOp.NotEq) (_) (V.non) _ _); (with_reducible refine go_neS rfl ?_))
  | ((guard_target = GOp _ _ (compareOp CmpOp.Is) (_) (V.non) _ _); (with_reducible refine go_isN ?_))
  | ((guard_target = GOp _ _ (compareOp CmpOp.IsNot) (_) (V.non) _ _); (with_reducible refine go_notN ?_)))
local macro_rules | `(tactic| tm_at "gC") => `(tactic| first
  | ((guard_target = GC _ _ (Value.type "int") [V.int _] _ _); (with_reducible refine gc_intI ?_))
  | ((guard_target = GC _ _ (Value.type "int") [V.bl _] _ _); (with_reducible refine gc_intB ?_))
  | ((guard_target = GC _ _ (Value.builtin "abs") [V.int _] _ _); (with_reducible refine gc_abs ?_))
  | ((guard_target = GC _ _ (Value.builtin "max") [V.int _, V.int _] _ _); (with_reducible refine gc_max2 ?hc ?_); (case hc => rfl))
  | ((guard_target = GC _ _ (Value.builtin "min") [V.int _, V.int _] _ _); (with_reducible refine gc_min2 ?hc ?_); (case hc => rfl))
  | ((guard_target = GC _ _ (Value.type "range") [V.int _] _ _); (with_reducible refine gc_rng1 ?_))
  | ((guard_target = GC _ _ (Value.type "range") [V.int _, V.int _] _ _); (with_reducible refine gc_rng2 ?_))
  | ((guard_target = GC _ _ (Value.builtin "len") [V.ref _] _ _); (with_reducible refine gc_lenR (by tm_at "sSel") ?_))
  | ((guard_target = GC _ _ (Value.builtin "len") [V.ref _] _ _); (with_reducible refine gc_len (by tm_at "sSel") ?_))
  | ((guard_target = GC _ _ (Value.builtin "len") [V.ref _] _ _); (with_reducible refine gc_lenT (by tm_at "sSel") ?_)))
local macro_rules | `(tactic| tm_at "gF") => `(tactic| first
  | ((guard_target = GF _ _ _ _ _ _); (with_reducible refine gf (by tm_at "sSel") (by tm_at "sLkF") ?hc ?hn ?_); (case hc => assumption); (case hn => assumption))
  | ((guard_target = GFS _ _ _ _ _ _); (with_reducible refine gfs (by tm_at "sRpl") (by tm_at "sPutF") ?hc ?hn ?hz ?_); (case hc => assumption); (case hn => assumption); (case hz => exact Nat.le_of_ble_eq_true rfl))
  | ((guard_target = GFA _ _ _ _ _ _ _ _ _); (with_reducible refine gfa (by tm_at "sSel") (by tm_at "sLkF") ?hc ?hn ?_); (case hc => assumption); (case hn => assumption))
  | ((guard_target = Exists fun _ => Exists fun _ => Exists fun _ => (Rpl _ _ _ _ ∧ _ ∧ _)); (with_reducible refine gfaE (by tm_at "sRpl") (by tm_at "sPutF") ?hz ?_); (case hz => exact Nat.le_of_ble_eq_true rfl))
  | ((guard_target = GAS _ _ _ _ _ _ _ _ _); (with_reducible refine gas (by tm_at "sSel") (by tm_at "sIx") ?_))
  | ((guard_target = (HasL _ _ _ ∧ _)); (with_reducible refine And.intro ?hh ?_); (case hh => tm_at "sHasL"))
  | ((guard_target = (IsIns _ _ _ _ _ ∧ _)); (with_reducible refine And.intro ?hh ?_); (case hh => exact isIns (by tm_at "sSel") (by tm_at "sNoF") (by rfl)))
  | ((guard_target = GApp _ _ _ _ _); (with_reducible refine gapp_pt (by tm_at "sRpl") ?hz ?_); (case hz => tm_at "sZ"))
  | ((guard_target = (List.length _ ≤ PySem.sizeLine ∧ _)); (with_reducible refine And.intro ?hz ?_); (case hz => tm_at "sZ"); intro _)
  | ((guard_target = GIp _ _ Operator.Add (V.int _) (V.int _) _ _); (with_reducible refine gip_add ?_))
  | ((guard_target = GIp _ _ Operator.Sub (V.int _) (V.int _) _ _); (with_reducible refine gip_sub ?_))
  | ((guard_target = GRem _ _ _ _ _); (with_reducible refine grem (by tm_at "sRpl") ?hm ?_); (case hm => assumption))
  | ((guard_target = GO _ _ none _ _ _); (with_reducible refine goN ?_))
  | ((guard_target = GO _ _ (some _) _ _ _); (with_reducible refine goS ?_)))
local macro_rules | `(tactic| tm_at "gIx") => `(tactic| first
  | (with_reducible refine gi_lst (by tm_at "sSel") (by tm_at "sIx") ?_)
  | (with_reducible refine gi_tup (by tm_at "sSel") (by tm_at "sIx") ?_))
local macro_rules | `(tactic| tm_at "gS") => `(tactic| first
  | ((guard_target = GS _ _ (Stmt.Assign [Expr.Name _ _] _ _) _ _ _); (with_reducible refine gs_name (by assumption) (by tm_at "sSlot") (by tm_at "sKd") (by tm_at "sLk") (by tm_at "sLf") ?hsw ?_); (case hsw => rfl))
  | ((guard_target = GS _ _ (Stmt.If _ _ _ _) _ _ _); (with_reducible refine gs_if ?_))
  | ((guard_target = GS _ _ (Stmt.AugAssign (Expr.Name _ _) _ _ _) _ _ _); (with_reducible refine gs_aug (by assumption) (by tm_at "sAt") (by tm_at "sSlot") (by tm_at "sKd") (by tm_at "sLk") (by tm_at "sLf") ?_))
  | ((guard_target = GS _ _ (Stmt.AugAssign (Expr.Attribute _ _ _) _ _ _) _ _ _); (with_reducible refine gs_fldaug ?_))
  | ((guard_target = GS _ _ (Stmt.AugAssign (Expr.Subscript _ _ _) _ _ _) _ _ _); (with_reducible refine gs_augS ?ha ?_); (case ha => intros; rfl))
  | ((guard_target = GS _ _ (Stmt.Return (some _) _) _ _ _); (with_reducible refine gs_ret ?_))
  | ((guard_target = GS _ _ (Stmt.Expr (Expr.Constant _ _ _) _) _ _ _); (with_reducible refine gs_doc ?_))
  | ((guard_target = GS _ _ (Stmt.Expr _ _) _ _ _); (with_reducible refine gs_expr ?hsw ?_); (case hsw => rfl))
  | ((guard_target = GS _ _ (Stmt.Assign [Expr.Attribute _ _ _] _ _) _ _ _); (with_reducible refine gs_fld ?hsw ?_); (case hsw => rfl))
  | ((guard_target = GS _ _ (Stmt.Assign [Expr.Subscript _ _ _] _ _) _ _ _); (with_reducible refine gs_asg ?hsw ?hw ?h1 ?_); (case hsw => rfl); (case hw => rfl); (case h1 => rfl))
  | ((guard_target = GS _ _ (Stmt.Assign [Expr.Tuple _ _ _] _ _) _ _ _); (with_reducible refine gs_asg ?hsw ?hw ?h1 ?_); (case hsw => rfl); (case hw => rfl); (case h1 => rfl))
  | ((guard_target = GS _ _ (Stmt.Return none _) _ _ _); (with_reducible refine gs_retN ?_))
  | ((guard_target = GS _ _ (Stmt.Pass _) _ _ _); (with_reducible refine gs_pass ?_))
  | ((guard_target = GS _ _ (Stmt.Break _) _ _ _); (with_reducible refine gs_break ?_))
  | ((guard_target = GS _ _ (Stmt.Continue _) _ _ _); (with_reducible refine gs_continue ?_)))
local macro_rules | `(tactic| tm_at "gG") => `(tactic| first
  | ((guard_target = GG _ _ (Expr.Name _ _) _ _ _ _); (with_reducible refine gg_name (by assumption) (by tm_at "sSlot") (by tm_at "sKd") (by tm_at "sLk") (by tm_at "sLf") ?_))
  | ((guard_target = GG _ _ (Expr.Subscript _ _ _) _ _ _ _); (with_reducible refine gg_sub ?ha ?_); (case ha => intro _; rfl))
  | ((guard_target = GG _ _ (Expr.Tuple _ _ _) _ _ _ _); (with_reducible refine gg_tup ?hc (by tm_at "sSel") ?hn ?hst ?_); (case hc => rfl); (case hn => rfl); (case hst => rfl)))
local macro_rules | `(tactic| tm_at "g") => `(tactic| first
  | ((guard_target = GE _ _ _ _ _ _); tm_at "gE")
  | ((guard_target = GOp _ _ _ _ _ _ _); tm_at "gOp")
  | ((guard_target = GIx _ _ _ _ _ _); tm_at "gIx")
  | tm_at "gF"
  | ((guard_target = (wipe _ _ = wipe _ _ ∧ _)); refine And.intro rfl ?_)
  | ((guard_target = GGs _ _ [] _ _ _ _); (with_reducible refine ggs_nil ?_))
  | ((guard_target = GGs _ _ (_ :: _) _ _ _ _); (with_reducible refine ggs_cons ?hst ?_); (case hst => rfl))
  | ((guard_target = GTs _ _ [] _ _ _); (with_reducible refine gts_nil ?_))
  | ((guard_target = GTs _ _ [_] _ _ _); (with_reducible refine gts_one ?_))
  | ((guard_target = KB _ _ _); (with_reducible refine KB.mk ?_))
  | ((guard_target = GA _ _ _ _ _ _); tm_at "gA")
  | ((guard_target = GS _ _ _ _ _ _); tm_at "gS")
  | ((guard_target = GSs _ _ (_ :: _) _ _ _); (with_reducible refine gss_cons ?_))
  | ((guard_target = GSs _ _ ([]) _ _ _); (with_reducible refine gss_nil ?_))
  | ((guard_target = GT _ _ _ _ _ _); tm_at "gT")
  | ((guard_target = GB _ _ _ _ _ _); tm_at "gB")
  | ((guard_target = GC _ _ _ _ _ _); tm_at "gC")
  | ((guard_target = GG _ _ _ _ _ _ _); tm_at "gG")
  | ((guard_target = GPutL _ _ _ _ _); (with_reducible refine gput (by tm_at "sRpl") (by tm_at "sPut") ?_))
  | ((guard_target = if true = true then _ else _); (with_reducible refine iteT ?_))
  | ((guard_target = if (!true) = true then _ else _); (with_reducible refine iteNT ?_))
  | ((guard_target = if (!false) = true then _ else _); (with_reducible refine iteNF ?_))
  | ((guard_target = if false = true then _ else _); (with_reducible refine iteF ?_))
  | ((guard_target = Exists _); (with_reducible refine Exists.intro _ (And.intro rfl ?_)))
  | (first | with_reducible refine ite_nI ?_ | with_reducible refine ite_nN ?_ | with_reducible refine ite_nnI ?_ | with_reducible refine ite_nnN ?_ | with_reducible refine ite_nR ?_ | with_reducible refine ite_nnR ?_))
local macro_rules | `(tactic| tm_at "sSetN") => `(tactic| (first | exact SetN.here | (apply SetN.there; tm_at "sSetN")))
local macro_rules | `(tactic| tm_at "sWp") => `(tactic| (first | exact Wp.nil | (apply Wp.cons; (tm_at "sWp"); (tm_at "sSetN"))))
local macro_rules | `(tactic| tm_at "fits") => `(tactic| (first | apply Fits.mk | apply FitL.mk))
local macro_rules | `(tactic| tm_at "ent") => `(tactic| (apply Fit.ent; tm_at "fit"))
local macro_rules | `(tactic| tm_at "go") => `(tactic| repeat (tm_at "g"))
local macro_rules | `(tactic| tm_at "gs") => `(tactic| repeat ((fail_if_success (guard_target = GSs _ _ (_ :: _) _ _ _)); tm_at "g"))
local macro_rules | `(tactic| tm_at "if") => `(tactic| first
  | (with_reducible refine ite_ndec (fun _ => ?_) (fun _ => ?_))
  | (with_reducible refine ite_dec (fun _ => ?_) (fun _ => ?_))
  | (with_reducible refine ite_nb (fun _ => ?_) (fun _ => ?_))
  | (with_reducible refine ite_b (fun _ => ?_) (fun _ => ?_)))
section
variable {T : List (Addr × Str)} {P : Program} {w : World} {Kf : PySem.W.Frag} {mg : Str → Option Value} {base : Heap} {f : Addr} {fd : FuncData}
abbrev cpP (Kf : PySem.W.Frag) (a d r : Addr) (c : Cp) (R : List SA) : List SA := pt a (cpo Kf d r c) :: LstR rRec r c.rs :: R
def spLM (Kf : PySem.W.Frag) : SpL := fun vs L K kx => ∃ (a d r : Addr) (c : Cp) (R : List SA), vs = [.ref a] ∧ L = cpP Kf a d r c R ∧ K (.int c.rs.length) (cpP Kf a d r c R)
theorem ok_lm (fx : Fx Kf mg) (F : FunD Kf "last_mark" "Copy.last_mark" (defArgs s_Copy_last_mark) (defBody s_Copy_last_mark) (defScope s_Copy_last_mark) [] [] f fd) : FnOk P w Kf mg base (L2.CX P w) 1 f fd ["self"] (spOf T (spLM Kf)) := by
  refine def_in F sc_Copy_last_mark (fun vs L K kx h => ?_) (fun A outer s H E hr n vs L KK kx h hx σ hσ => ?_)
  · obtain ⟨a, d, r, c, R, rfl, _⟩ := h; rfl
  · obtain ⟨a, d, r, c, R, rfl, rfl, k⟩ := h
    obtain rfl : σ = [some (.ref a)] := hσ
    obtain ⟨h_int, h_len, h_max, h_min, h_sum, h_range, h_list, h_tuple, h_str, h_abs, cCopy, cCopies, n1, n2, n3, m1, m2, m3, m4, m5, m6, m7, m8, nd, fe⟩ := fx
    refine gss_cons ?_
    tm_at "go"
    exact Clo.id k
def spCI (Kf : PySem.W.Frag) : SpL := fun vs L K kx => ∃ (a d : Addr) (R : List SA), vs = [.ref a] ∧ L = pt a (.ins (He.ga Kf "Copy") d []) :: R ∧ ∀ r, K .non (cpP Kf a d r ⟨[], 0, 0⟩ R)
theorem ok_ci (fx : Fx Kf mg) (F : FunD Kf "__init__" "Copy.__init__" (defArgs s_Copy__init) (defBody s_Copy__init) (defScope s_Copy__init) [] [] f fd) : FnOk P w Kf mg base (L2.CX P w) 1 f fd ["self"] (spOf T (spCI Kf)) := by
  refine def_in F sc_Copy__init (fun vs L K kx h => ?_) (fun A outer s H E hr n vs L KK kx h hx σ hσ => ?_)
  · obtain ⟨a, d, R, rfl, _⟩ := h; rfl
  · obtain ⟨a, d, R, rfl, rfl, k⟩ := h
    obtain rfl : σ = [some (.ref a)] := hσ
    obtain ⟨h_int, h_len, h_max, h_min, h_sum, h_range, h_list, h_tuple, h_str, h_abs, cCopy, cCopies, n1, n2, n3, m1, m2, m3, m4, m5, m6, m7, m8, nd, fe⟩ := fx
    refine gss_cons ?_
    tm_at "go"
    apply Clo.mk (k _); apply Fit.ent; tm_at "fit"
/-! ### turn_end -/
def bestOf (t : Int) (rs : List Rec) : Int := rs.foldl (fun b r => if r.1 ≤ t then (if r.1 > b then r.1 else b) else b) 0
def cntLe (b : Int) (rs : List Rec) : Nat := (rs.filter fun r => decide (r.1 ≤ b)).length
theorem take_succ {α : Type} {l : List α} {i : Nat} {d : α} (h : l[i]? = some d) : l.take (i + 1) = l.take i ++ [d] := by
  rw [List.take_add_one, h]; rfl
theorem best_succ {t : Int} {rs : List Rec} {i : Nat} {d : Rec} (h : rs[i]? = some d) : bestOf t (rs.take (i + 1)) = if d.1 ≤ t then (if d.1 > bestOf t (rs.take i) then d.1 else bestOf t (rs.take i)) else bestOf t (rs.take i) := by
  rw [take_succ h]; simp [bestOf, List.foldl_append]
theorem cnt_succ {b : Int} {rs : List Rec} {i : Nat} {d : Rec} (h : rs[i]? = some d) : cntLe b (rs.take (i + 1)) = cntLe b (rs.take i) + if d.1 ≤ b then 1 else 0 := by
  rw [take_succ h]; unfold cntLe; rw [List.filter_append, List.length_append]
  by_cases c : d.1 ≤ b <;> simp [c]
def spTE (Kf : PySem.W.Frag) : SpL := fun vs L K kx => ∃ (a d r : Addr) (c : Cp) (t : Int) (R : List SA), vs = [.ref a, .int t] ∧ L = cpP Kf a d r c R ∧ c.rs.length < sizeLine ∧
  ∀ p, K (.ref p) (pt p (.tup [.int (bestOf t c.rs), .int (cntLe (bestOf t c.rs) c.rs)]) :: cpP Kf a d r c R)
theorem ok_te (fx : Fx Kf mg) (F : FunD Kf "turn_end" "Copy.turn_end" (defArgs s_Copy_turn_end) (defBody s_Copy_turn_end) (defScope s_Copy_turn_end) [] [] f fd) : FnOk P w Kf mg base (L2.CX P w) 1 f fd ["self", "turn"] (spOf T (spTE Kf)) := by
  refine def_in F sc_Copy_turn_end (fun vs L K kx h => ?_) (fun A outer s H E hr n vs L KK kx h hx σ hσ => ?_)
  · obtain ⟨a, d, r, c, t, R, rfl, _⟩ := h; rfl
  · obtain ⟨a, d, r, c, t, R, rfl, rfl, hz, k⟩ := h
    obtain rfl : σ = [some (.ref a), some (.int t), none, none, none] := hσ
    obtain ⟨h_int, h_len, h_max, h_min, h_sum, h_range, h_list, h_tuple, h_str, h_abs, cCopy, cCopies, n1, n2, n3, m1, m2, m3, m4, m5, m6, m7, m8, nd, fe⟩ := fx
    refine gss_cons ?_
    tm_at "go"
    refine gs_forR (fun i σ' L' => ∃ o w, σ' = [some (.ref a), some (.int t), some (.int (bestOf t (c.rs.take i))), o, w] ∧ L' = cpP Kf a d r c R) r rRec c.rs (passes_of rfl) rfl (fun _ => rfl) ?_ ?_ ?_ ?_
    · tm_at "go"
      exact ⟨rfl, none, none, rfl, rfl⟩
    · rintro i σ' L' ⟨o, w, rfl, rfl⟩
      exact ⟨_, by tm_at "sSel"⟩
    · rintro i dd x σ' L' hd ⟨o, w, rfl, rfl⟩
      refine gg_pair cInt cStr (rv_val .here) rfl rfl rfl fun _ hg => ?_
      tm_at "go"
      tm_at "if"
      · rename_i hc
        tm_at "go"
        tm_at "fits"
        · exact ⟨_, _, by rw [best_succ hd, if_pos hc], rfl⟩
        · tm_at "ent"
      · rename_i hc
        tm_at "go"
        tm_at "fits"
        · exact ⟨_, _, by rw [best_succ hd, if_neg hc], rfl⟩
        · tm_at "ent"
    · rintro σ' L' ⟨o, w, rfl, rfl⟩
      rw [List.take_length]
      tm_at "go"
      refine ge_lcR ow0_Copy_turn_end rfl n.ndN (blkOk_by (N := n_Copy_turn_end) (sc := defScope s_Copy_turn_end) (by decide +kernel)) (by tm_at "sWp") (fun _ => rfl) ?_
      tm_at "go"
      refine ⟨_, _, rRec, c.rs, rfl, ⟨_, by tm_at "sSel"⟩, lcgo (fun D (xs : List V) => pt D (.lst xs)) (fun i xs => xs = List.replicate (cntLe (bestOf t c.rs) (c.rs.take i)) (V.int 1)) [] rfl (fun _ _ h => h) ?_ ?_⟩
      · rintro D i x Lx xs hi ⟨dd, hd, rfl⟩ e s' H' C cl fp
        simp only [List.singleton_append]
        refine gg_blk (kc := kc0_Copy_turn_end) n rfl (by decide) fun nb => ?_
        refine gg_pair cInt cStr (rv_val .here) rfl rfl rfl fun _ hg => ?_
        tm_at "go"
        intro s' H' C cl fp
        refine gts_blk (kc := kc0_Copy_turn_end) n rfl (by decide) fun nb => ?_
        tm_at "go"
        tm_at "if"
        · rename_i hc
          intro s' H' C cl fp
          refine ge_blk (kc := kc0_Copy_turn_end) n rfl (by decide) fun nb => ?_
          tm_at "go"
          refine lcend_pt (by tm_at "sRpl") ?_ ⟨xs ++ [V.int 1], ?_, ?_⟩
          · rw [e, List.length_replicate]
            exact Nat.lt_of_le_of_lt (Nat.le_trans (List.length_filter_le _ _) (List.length_take_le' _ _)) hz
          · show _ = _; rw [cnt_succ hd, if_pos hc, List.replicate_succ', e]
          · tm_at "ent"
        · rename_i hc
          refine ⟨xs, ?_, ?_⟩
          · show _ = _; rw [cnt_succ hd, if_neg hc, Nat.add_zero, e]
          · tm_at "ent"
      · intro D xs e
        tm_at "go"
        rw [e, List.take_length, List.length_replicate]
        apply Clo.mk (k _)
        tm_at "ent"
end
end K04
set_option Elab.async false
set_option linter.all false
set_option maxRecDepth 100000
namespace K04
open PySem PySem.Spec L2 SW
open PyProof.Rows hiding St
/-! ### the deeds, plainly -/
def mx (a b : Int) : Int := if b > a then b else a
def mn (a b : Int) : Int := if b < a then b else a
theorem mx_max (a b : Int) : mx a b = max a b := by unfold mx; split <;> omega
theorem mn_min (a b : Int) : mn a b = min a b := by unfold mn; split <;> omega
def minL (ns : List Int) : Int := (ns.min?).getD 0
theorem minL_of {ns : List Int} {m : Int} (h1 : m ∈ ns) (h2 : ∀ y, y ∈ ns → m ≤ y) : minL ns = m := by
  unfold minL
  rw [List.min?_eq_some_iff.mpr ⟨h1, h2⟩]; rfl
def kn (S : CS) (x : Int) : Int := S.known x.toNat
def raiseC (S : CS) (l : Nat) : Cp := { S.c l with high := mx (S.c l).high (mn (minL (S.wl.map (kn S))) (S.c l).rs.length) }
def raise (S : CS) (l : Nat) : CS := { S with c := fset S.c l (raiseC S l) }
def giveP (S : CS) (l : Nat) (what : Str) : CS :=
  let c1 : Cp := { S.c l with rs := (S.c l).rs ++ [(S.turn, what)] }
  raise { S with c := fset S.c l c1, known := fset S.known l c1.rs.length } l
def lastT (rs : List Rec) : Int := match rs.getLast? with
  | some r => r.1
  | none => 0
/-- cut rs by ends of turns of G; n turns at most -/
def agreeF (G : List Rec) : Nat → List Rec → List Rec
  | 0, rs => rs
  | n + 1, rs => if bestOf (lastT rs) G = lastT rs ∨ rs = [] then rs.take (min (cntLe (bestOf (lastT rs) G) G) rs.length) else agreeF G n (rs.filter fun r => decide (r.1 ≤ bestOf (lastT rs) G))
def agreeP (S : CS) (l k : Nat) : CS := { S with c := fset S.c k { S.c k with rs := agreeF (S.c l).rs ((S.c k).rs.length + 1) (S.c k).rs, turn := S.turn }, joined := fset S.joined k true }
def askA (S : CS) (l k : Nat) : CS := if (S.c k).turn ≠ S.turn ∨ S.joined k = false then agreeP S l k else S
def askB (S : CS) (l k : Nat) : CS :=
  let S1 := { S with known := fset S.known k ((S.c k).rs.length : Int) }
  if (S.c l).high ≤ ((S.c k).rs.length : Int) ∧ (k : Int) ∉ S.wl then { S1 with wl := S.wl ++ [(k : Int)] } else S1
def askD (S : CS) (l k most : Nat) : CS :=
  let rs := (S.c k).rs ++ ((S.c l).rs.drop (S.c k).rs.length).take most
  { S with c := fset S.c k { S.c k with rs := rs, high := mx (S.c k).high (mn (S.c l).high rs.length) } }
def askP (S : CS) (l k most : Nat) : CS := askD (raise (askB (askA S l k) l k) l) l k most
def downP (S : CS) (k : Nat) : CS :=
  let S1 := { S with up := fset S.up k false, joined := fset S.joined k false }
  match S.leader with
  | none => S1
  | some l => if k = l then { S1 with leader := none } else if (k : Int) ∈ S.wl then raise { S1 with wl := S.wl.erase (k : Int) } l else S1
def leadP (S : CS) (k : Nat) : CS :=
  let c1 : Cp := { S.c k with turn := S.turn + 1 }
  raise { S with turn := S.turn + 1, leader := some k, wl := [(k : Int)], known := fset (fun _ => 0) k c1.rs.length, joined := fset (fun _ => false) k true, c := fset S.c k c1 } k
def lagP (S : CS) (l k : Nat) : CS := raise { S with wl := S.wl.erase (k : Int) } l
theorem raise_ld {S : CS} {l : Nat} : (raise S l).leader = S.leader := rfl
/-- what the walks lean on -/
structure Wf (S : CS) : Prop where
  wl : ∀ x ∈ S.wl, ∃ j : Nat, j < 3 ∧ x = (j : Int)
  ld : ∀ l, S.leader = some l → l < 3 ∧ (l : Int) ∈ S.wl
  len : ∀ i, i < 3 → (S.c i).rs.length ≤ 1000
  wlz : S.wl.length ≤ 100
  nd : S.wl.Nodup
end K04
set_option Elab.async false
set_option linter.all false
set_option maxRecDepth 100000
set_option pp.deepTerms false
set_option pp.deepTerms.threshold 10
set_option pp.maxSteps 1500
namespace K04
open PySem PySem.Spec L2 SW
open PyProof.Rows hiding St
section
variable {T : List (Addr × Str)} {X : Cx} {σ : St} {D : EndsL} {sts : List Stmt} {K : PySem.W.Frag} {o : Addr} {a : Nat → Addr} {S : CS} {L R : List SA}
theorem Fit.at1 {A : SA} {L' : List SA} (s : Sel L A R) (f : Fit (A :: R) L') : Fit L L' := fun H h => f H (h.perm s.perm)
theorem cps_in {v : V} (s : Sel L (CpsR K o a S) R) (e : vLd S.leader = v) (h : ∀ dc lc lu lw lk lj, GSs T X sts D σ (cpsF K o a dc lc lu lw lk lj S v R)) : GSs T X sts D σ L := GSs.via fun H hs => by
  subst e
  obtain ⟨dc, lc, lu, lw, lk, lj, h'⟩ := cps_unf (hs.sel s)
  exact ⟨_, h', h dc lc lu lw lk lj⟩
theorem copy_in {x : Addr} {d : Cp} (s : Sel L (CopyP K x d) R) (h : ∀ dx r, GSs T X sts D σ (pt x (cpo K dx r d) :: LstR rRec r d.rs :: R)) : GSs T X sts D σ L := GSs.via fun H hs => by
  obtain ⟨q, h'⟩ := copy_unf (hs.sel s)
  exact ⟨_, h', h q.1 q.2⟩
/-- copy k, flat -/
theorem foc_in {c : Nat → Cp} {k : Nat} (hk : k < 3) (s : Sel L (RestP K a c []) R) (h : ∀ dx r, GSs T X sts D σ (pt (a k) (cpo K dx r (c k)) :: LstR rRec r (c k).rs :: RestP K a c [k] :: R)) : GSs T X sts D σ L :=
  GSs.ent (Fit.ent (Fit.at1 s (rest_out hk))) (copy_in .here h)
theorem Fit.tl {A : SA} {L W : List SA} (f : Fit L W) : Fit (A :: L) (A :: W) := fun H h => h.cons2 Cv.id f
end
local macro_rules | `(tactic| tm_at "sAt") => `(tactic| with_reducible (first | exact At.here | (apply At.there; tm_at "sAt")))
local macro_rules | `(tactic| tm_at "sSlot") => `(tactic| with_reducible (first | exact Slot.here | (apply Slot.there; tm_at "sSlot")))
local macro_rules | `(tactic| tm_at "sKd") => `(tactic| with_reducible (first | exact Kd.here | (apply Kd.there; tm_at "sKd")))
local macro_rules | `(tactic| tm_at "sSel") => `(tactic| with_reducible (first | exact Sel.here | (apply Sel.there; tm_at "sSel")))
local macro_rules | `(tactic| tm_at "sRpl") => `(tactic| with_reducible (first | exact Rpl.here | (apply Rpl.there; tm_at "sRpl")))
local macro_rules | `(tactic| tm_at "sTk") => `(tactic| (first | exact Tk.nil | (apply Tk.cons; (tm_at "sSel"); (tm_at "sTk"))))
local macro_rules | `(tactic| tm_at "sVk") => `(tactic| first
  | exact Vk.l
  | exact Vk.c
  | exact Vk.f)
local macro_rules | `(tactic| tm_at "sLk") => `(tactic| first
  | exact Lk.l
  | exact Lk.c)
local macro_rules | `(tactic| tm_at "sLf") => `(tactic| first
  | exact Or.inl rfl
  | exact Or.inr rfl)
local macro_rules | `(tactic| tm_at "sRoom") => `(tactic| first
  | assumption
  | exact L2.Room.mono (by assumption) (by decide))
local macro_rules | `(tactic| tm_at "sXok") => `(tactic| first
  | assumption
  | exact xok0)
local macro_rules | `(tactic| tm_at "sCv") => `(tactic| (first | with_reducible exact Cv.id | with_reducible exact Cv.lst0 | ((with_reducible refine Cv.pt ?_); tm_at "sEq") | ((with_reducible refine Cv.lst ?_); tm_at "sEq") | ((with_reducible refine Cv.val ?_); tm_at "sEq")))
local macro_rules | `(tactic| tm_at "sEq") => `(tactic| (first | rfl | assumption | (simp; done)))
local macro_rules | `(tactic| tm_at "sSelC") => `(tactic| (first | ((with_reducible apply SelC.here); tm_at "sCv") | ((with_reducible apply SelC.there); tm_at "sSelC")))
local macro_rules | `(tactic| tm_at "fit") => `(tactic| (first | with_reducible exact Fit.refl | with_reducible exact Fit.nil | ((with_reducible apply Fit.find); (case s => tm_at "sSelC"); (case t => tm_at "fit")) | ((with_reducible apply Fit.drop); tm_at "fit")))
local macro_rules | `(tactic| tm_at "sLkF") => `(tactic| with_reducible (first | exact LkF.here | (apply LkF.there (by with_unfolding_all rfl); tm_at "sLkF")))
local macro_rules | `(tactic| tm_at "sNoF") => `(tactic| with_reducible (first | exact NoF.nil | (apply NoF.cons (by with_unfolding_all rfl); tm_at "sNoF")))
local macro_rules | `(tactic| tm_at "sPutF") => `(tactic| with_reducible (first | exact PutF.here | exact PutF.nil | (apply PutF.there (by with_unfolding_all rfl); tm_at "sPutF")))
local macro_rules | `(tactic| tm_at "sHasL") => `(tactic| (first | exact hasL_pt (by tm_at "sSel") | exact hasL_R (by tm_at "sSel")))
local macro_rules | `(tactic| tm_at "sZ") => `(tactic| (first | assumption | (simp only [List.length_cons, List.length_nil, List.length_append, PySem.sizeLine_eq]; omega) | (rw [PySem.sizeLine_eq]; simp; done)))
local macro_rules | `(tactic| tm_at "sIx") => `(tactic| with_unfolding_all rfl)
local macro_rules | `(tactic| tm_at "sSet") => `(tactic| (first | exact SetR.here | (apply SetR.there; tm_at "sSet")))
local macro_rules | `(tactic| tm_at "sPut") => `(tactic| first
  | exact PutAt.c 0 (by with_unfolding_all rfl) (by tm_at "sSet")
  | exact PutAt.c 1 (by with_unfolding_all rfl) (by tm_at "sSet")
  | exact PutAt.c 2 (by with_unfolding_all rfl) (by tm_at "sSet")
  | exact PutAt.c 3 (by with_unfolding_all rfl) (by tm_at "sSet")
  | exact PutAt.c 4 (by with_unfolding_all rfl) (by tm_at "sSet")
  | exact PutAt.c 5 (by with_unfolding_all rfl) (by tm_at "sSet"))
local macro_rules | `(tactic| tm_at "gECall") => `(tactic| first
  | ((guard_target = GE _ _ (Expr.Call (Expr.Name "len" _) _ _ _) _ _ _); (with_reducible refine gb_len (by assumption) (by tm_at "sKd") ?hm ?he ?hpl ?_); (case hm => assumption); (case he => rfl); (case hpl => rfl))
  | ((guard_target = GE _ _ (Expr.Call (Expr.Name "int" _) _ _ _) _ _ _); (with_reducible refine gb_int (by assumption) (by tm_at "sKd") ?hm ?he ?hpl ?_); (case hm => assumption); (case he => rfl); (case hpl => rfl))
  | ((guard_target = GE _ _ (Expr.Call (Expr.Name "str" _) _ _ _) _ _ _); (with_reducible refine gb_str (by assumption) (by tm_at "sKd") ?hm ?he ?hpl ?_); (case hm => assumption); (case he => rfl); (case hpl => rfl))
  | ((guard_target = GE _ _ (Expr.Call (Expr.Name "list" _) _ _ _) _ _ _); (with_reducible refine gb_list (by assumption) (by tm_at "sKd") ?hm ?he ?hpl ?_); (case hm => assumption); (case he => rfl); (case hpl => rfl))
  | ((guard_target = GE _ _ (Expr.Call (Expr.Name "tuple" _) _ _ _) _ _ _); (with_reducible refine gb_tuple (by assumption) (by tm_at "sKd") ?hm ?he ?hpl ?_); (case hm => assumption); (case he => rfl); (case hpl => rfl))
  | ((guard_target = GE _ _ (Expr.Call (Expr.Name "min" _) _ _ _) _ _ _); (with_reducible refine gb_min (by assumption) (by tm_at "sKd") ?hm ?he ?hpl ?_); (case hm => assumption); (case he => rfl); (case hpl => rfl))
  | ((guard_target = GE _ _ (Expr.Call (Expr.Name "max" _) _ _ _) _ _ _); (with_reducible refine gb_max (by assumption) (by tm_at "sKd") ?hm ?he ?hpl ?_); (case hm => assumption); (case he => rfl); (case hpl => rfl))
  | ((guard_target = GE _ _ (Expr.Call (Expr.Name "sum" _) _ _ _) _ _ _); (with_reducible refine gb_sum (by assumption) (by tm_at "sKd") ?hm ?he ?hpl ?_); (case hm => assumption); (case he => rfl); (case hpl => rfl))
  | ((guard_target = GE _ _ (Expr.Call (Expr.Name "sorted" _) _ _ _) _ _ _); (with_reducible refine gb_sorted (by assumption) (by tm_at "sKd") ?hm ?he ?hpl ?_); (case hm => assumption); (case he => rfl); (case hpl => rfl))
  | ((guard_target = GE _ _ (Expr.Call (Expr.Name "abs" _) _ _ _) _ _ _); (with_reducible refine gb_abs (by assumption) (by tm_at "sKd") ?hm ?he ?hpl ?_); (case hm => assumption); (case he => rfl); (case hpl => rfl))
  | ((guard_target = GE _ _ (Expr.Call (Expr.Name "range" _) _ _ _) _ _ _); (with_reducible refine gb_range (by assumption) (by tm_at "sKd") ?hm ?he ?hpl ?_); (case hm => assumption); (case he => rfl); (case hpl => rfl))
  | ((guard_target = GE _ _ (Expr.Call (Expr.Name "any" _) _ _ _) _ _ _); (with_reducible refine gb_any (by assumption) (by tm_at "sKd") ?hm ?he ?hpl ?_); (case hm => assumption); (case he => rfl); (case hpl => rfl))
  | ((guard_target = GE _ _ (Expr.Call (Expr.Name "all" _) _ _ _) _ _ _); (with_reducible refine gb_all (by assumption) (by tm_at "sKd") ?hm ?he ?hpl ?_); (case hm => assumption); (case he => rfl); (case hpl => rfl))
  | ((guard_target = GE _ _ (Expr.Call (Expr.Name "dict" _) _ _ _) _ _ _); (with_reducible refine gb_dict (by assumption) (by tm_at "sKd") ?hm ?he ?hpl ?_); (case hm => assumption); (case he => rfl); (case hpl => rfl))
  | ((guard_target = GE _ _ (Expr.Call (Expr.Name "set" _) _ _ _) _ _ _); (with_reducible refine gb_set (by assumption) (by tm_at "sKd") ?hm ?he ?hpl ?_); (case hm => assumption); (case he => rfl); (case hpl => rfl)))
local macro_rules | `(tactic| tm_at "gECall") => `(tactic| (guard_target = GE _ _ (Expr.Call (Expr.Name "_law_roll" _) (_ :: _) [] _) _ _ _; (refine ge_call (FnAt.e (x := "_law_roll") (by assumption)) (by tm_at "sRoom") (by tm_at "sXok") (Nm.gl (by assumption) (by tm_at "sKd")) ?hdb ?he ?hpl ?_); (case hdb => rfl); (case he => rfl); (case hpl => rfl)))
local macro_rules | `(tactic| tm_at "gECall") => `(tactic| (guard_target = GE _ _ (Expr.Call (Expr.Name "_law_dice" _) (_ :: _) [] _) _ _ _; (refine ge_call (FnAt.e (x := "_law_dice") (by assumption)) (by tm_at "sRoom") (by tm_at "sXok") (Nm.gl (by assumption) (by tm_at "sKd")) ?hdb ?he ?hpl ?_); (case hdb => rfl); (case he => rfl); (case hpl => rfl)))
local macro_rules | `(tactic| tm_at "gECall") => `(tactic| (guard_target = GE _ _ (Expr.Call (Expr.Name "_law_rounds" _) (_ :: _) [] _) _ _ _; (refine ge_call (FnAt.e (x := "_law_rounds") (by assumption)) (by tm_at "sRoom") (by tm_at "sXok") (Nm.gl (by assumption) (by tm_at "sKd")) ?hdb ?he ?hpl ?_); (case hdb => rfl); (case he => rfl); (case hpl => rfl)))
local macro_rules | `(tactic| tm_at "gECall") => `(tactic| (guard_target = GE _ _ (Expr.Call (Expr.Name "_law_deed" _) (_ :: _) [] _) _ _ _; (refine ge_call (FnAt.e (x := "_law_deed") (by assumption)) (by tm_at "sRoom") (by tm_at "sXok") (Nm.gl (by assumption) (by tm_at "sKd")) ?hdb ?he ?hpl ?_); (case hdb => rfl); (case he => rfl); (case hpl => rfl)))
local macro_rules | `(tactic| tm_at "gE") => `(tactic| first
  | ((guard_target = GE _ _ (Expr.Name _ _) _ _ _); (with_reducible refine ge_name (by assumption) (by tm_at "sAt") (by tm_at "sKd") (by tm_at "sVk") rfl ?_))
  | ((guard_target = GE _ _ (Expr.Constant (Const.int _) _ _) _ _ _); (with_reducible refine ge_int ?_))
  | ((guard_target = GE _ _ (Expr.Attribute _ _ _) _ _ _); (with_reducible refine ge_fld ?hb ?_); (case hb => rfl))
  | ((guard_target = GE _ _ (Expr.Subscript _ (Expr.Slice _ _ none _) _) _ _ _); (with_reducible refine ge_slice ?_))
  | ((guard_target = GE _ _ (Expr.Call (Expr.Attribute _ _ _) _ _ _) _ _ _); tm_at "gEMeth")
  | ((guard_target = GE _ _ (Expr.Subscript _ _ _) _ _ _); (with_reducible refine ge_sub ?hs ?_); (case hs => exact fun _ _ => rfl))
  | ((guard_target = GE _ _ (Expr.BinOp _ _ _ _) _ _ _); (with_reducible refine ge_bin ?_))
  | ((guard_target = GE _ _ (Expr.Constant (Const.str _) _ _) _ _ _); (with_reducible refine ge_str ?_))
  | ((guard_target = GE _ _ (Expr.Call (Expr.Name _ _) _ _ _) _ _ _); tm_at "gECall")
  | ((guard_target = GE _ _ (Expr.List _ _) _ _ _); (with_reducible refine ge_lst ?_))
  | ((guard_target = GE _ _ (Expr.Tuple _ _ _) _ _ _); (with_reducible refine ge_tup ?_))
  | ((guard_target = GE _ _ (Expr.Constant Const.none _ _) _ _ _); (with_reducible refine ge_none ?_))
  | ((guard_target = GE _ _ (Expr.Constant (Const.bool _) _ _) _ _ _); (with_reducible refine ge_bl ?_))
  | ((guard_target = GE _ _ (Expr.Compare _ [_] [_] _) _ _ _); (with_reducible refine ge_cmp ?hm ?_); (case hm => first | exact nomark _ | rfl))
  | ((guard_target = GE _ _ (Expr.UnaryOp UnaryOp.Not _ _) _ _ _); (with_reducible refine ge_not ?_))
  | ((guard_target = GE _ _ (Expr.UnaryOp _ _ _) _ _ _); (with_reducible refine ge_un ?_))
  | ((guard_target = GE _ _ (Expr.IfExp _ _ _ _) _ _ _); (with_reducible refine ge_if ?_))
  | ((guard_target = GE _ _ (Expr.Compare _ [_, _] [_, _] _) _ _ _); (with_reducible refine ge_chain ?hm ?_); (case hm => with_unfolding_all rfl))
  | ((guard_target = GE _ _ (Expr.BoolOp _ [_] _) _ _ _); (with_reducible refine ge_one ?_))
  | ((guard_target = GE _ _ (Expr.BoolOp BoolOp.And _ _) _ _ _); (with_reducible refine ge_and ?_))
  | ((guard_target = GE _ _ (Expr.BoolOp BoolOp.Or _ _) _ _ _); (with_reducible refine ge_or ?_)))
local macro_rules | `(tactic| tm_at "gEMeth") => `(tactic| first
  | ((guard_target = GE _ _ (Expr.Call (Expr.Attribute _ "append" _) [_] [] _) _ _ _); (with_reducible refine ge_append ?h1 ?h2 ?h3 ?h4 ?h5 ?_); (case h1 => rfl); (case h2 => rfl); (case h3 => rfl); (case h4 => rfl); (case h5 => rfl))
  | ((guard_target = GE _ _ (Expr.Call (Expr.Attribute _ "extend" _) [_] [] _) _ _ _); (with_reducible refine ge_extend ?h1 ?h2 ?h3 ?h4 ?h5 ?_); (case h1 => rfl); (case h2 => rfl); (case h3 => rfl); (case h4 => rfl); (case h5 => rfl))
  | ((guard_target = GE _ _ (Expr.Call (Expr.Attribute _ "remove" _) [_] [] _) _ _ _); (with_reducible refine ge_remove ?h1 ?h2 ?h3 ?h4 ?h5 ?_); (case h1 => rfl); (case h2 => rfl); (case h3 => rfl); (case h4 => rfl); (case h5 => rfl))
  | ((guard_target = GE _ _ (Expr.Call (Expr.Attribute _ "pop" _) [_] [] _) _ _ _); (with_reducible refine ge_popAt ?h1 ?h2 ?h3 ?h4 ?h5 ?_); (case h1 => rfl); (case h2 => rfl); (case h3 => rfl); (case h4 => rfl); (case h5 => rfl)))
local macro_rules | `(tactic| tm_at "gT") => `(tactic| first
  | ((guard_target = GT _ _ (Expr.Compare _ [_] [_] _) _ _ _); (with_reducible refine gt_cmp ?hm ?_); (case hm => first | exact nomark _ | rfl))
  | ((guard_target = GT _ _ (Expr.UnaryOp UnaryOp.Not _ _) _ _ _); (with_reducible refine gt_not ?_))
  | ((guard_target = GT _ _ (Expr.BoolOp _ _ _) _ _ _); (with_reducible refine gt_bool ?_))
  | ((guard_target = GT _ _ (Expr.Compare _ [_, _] [_, _] _) _ _ _); (with_reducible refine gt_chain ?hm ?_); (case hm => with_unfolding_all rfl))
  | ((guard_target = GT _ _ (Expr.Call _ _ _ _) _ _ _); (with_reducible refine gt_val ?he ?_); (case he => intro _; rfl))
  | ((guard_target = GT _ _ (Expr.Subscript _ _ _) _ _ _); (with_reducible refine gt_val ?he ?_); (case he => intro _; rfl))
  | ((guard_target = GT _ _ (Expr.Name _ _) _ _ _); (with_reducible refine gt_val ?he ?_); (case he => intro _; rfl))
  | ((guard_target = GT _ _ (Expr.Attribute _ _ _) _ _ _); (with_reducible refine gt_val ?he ?_); (case he => intro _; rfl)))
local macro_rules | `(tactic| tm_at "gB") => `(tactic| first
  | ((guard_target = GB _ _ (Expr.BoolOp BoolOp.And [_] _) _ _ _); (with_reducible refine gb_and1 ?_))
  | ((guard_target = GB _ _ (Expr.BoolOp BoolOp.Or [_] _) _ _ _); (with_reducible refine gb_or1 ?_))
  | ((guard_target = GB _ _ (Expr.BoolOp BoolOp.And _ _) _ _ _); (with_reducible refine gb_and ?_))
  | ((guard_target = GB _ _ (Expr.BoolOp BoolOp.Or _ _) _ _ _); (with_reducible refine gb_or ?_)))
local macro_rules | `(tactic| tm_at "gA") => `(tactic| first
  | ((guard_target = GA _ _ ([]) _ _ _); (with_reducible refine ga_nil ?_))
  | ((guard_target = GA _ _ (_ :: _) _ _ _); (with_reducible refine ga_cons ?hst ?_); (case hst => rfl)))
local macro_rules | `(tactic| tm_at "gOp") => `(tactic| first
  | ((guard_target = GOp _ _ (binaryOp Operator.Add) (V.int _) (V.int _) _ _); (with_reducible refine go_add ?_))
  | ((guard_target = GOp _ _ (binaryOp Operator.Sub) (V.int _) (V.int _) _ _); (with_reducible refine go_sub ?_))
  | ((guard_target = GOp _ _ (compareOp CmpOp.Eq) (V.int _) (V.int _) _ _); (with_reducible refine go_eqI ?_))
  | ((guard_target = GOp _ _ (compareOp CmpOp.Lt) (V.int _) (V.int _) _ _); (with_reducible refine go_lt ?_))
  | ((guard_target = GOp _ _ (compareOp CmpOp.LtE) (V.int _) (V.int _) _ _); (with_reducible refine go_le ?_))
  | ((guard_target = GOp _ _ (compareOp CmpOp.Gt) (V.int _) (V.int _) _ _); (with_reducible refine go_gt ?_))
  | ((guard_target = GOp _ _ (compareOp CmpOp.GtE) (V.int _) (V.int _) _ _); (with_reducible refine go_ge ?_))
  | ((guard_target = GOp _ _ (compareOp CmpOp.NotEq) (V.int _) (V.int _) _ _); (with_reducible refine go_neI ?_))
  | ((guard_target = GOp _ _ (binaryOp Operator.Mult) (V.int _) (V.int _) _ _); (with_reducible refine go_mul ?c ?_); (case c => first | (left; constructor <;> omega) | (right; constructor <;> omega)))
  | ((guard_target = GOp _ _ (binaryOp Operator.FloorDiv) (V.int _) (V.int _) _ _); (with_reducible refine go_div ?c ?_); (case c => constructor <;> omega))
  | ((guard_target = GOp _ _ (binaryOp Operator.Mod) (V.int _) (V.int _) _ _); (with_reducible refine go_mod ?c ?_); (case c => omega))
  | ((guard_target = GOp _ _ (compareOp CmpOp.Eq) (V.str _) (V.str _) _ _); (with_reducible refine go_eqT ?_))
  | ((guard_target = GOp _ _ (compareOp CmpOp.NotEq) (V.str _) (V.str _) _ _); (with_reducible refine go_neT ?_))
  | ((guard_target = GOp _ _ (compareOp CmpOp.Eq) (V.bl _) (V.bl _) _ _); (with_reducible refine go_eqB ?_))
  | ((guard_target = GOp _ _ (compareOp CmpOp.NotEq) (V.bl _) (V.bl _) _ _); (with_reducible refine go_neB ?_))
  | ((guard_target = GOp _ _ (compareOp CmpOp.In) (V.int _) (V.ref _) _ _); (with_reducible refine go_inI (by tm_at "sSel") ?_))
  | ((guard_target = GOp _ _ (compareOp CmpOp.NotIn) (V.int _) (V.ref _) _ _); (with_reducible refine go_ninI (by tm_at "sSel") ?_))
  | ((guard_target = GOp _ _ (compareOp CmpOp.In) (V.str _) (V.ref _) _ _); (with_reducible refine go_inT (by tm_at "sSel") ?_))
  | ((guard_target = GOp _ _ (compareOp CmpOp.NotIn) (V.str _) (V.ref _) _ _); (with_reducible refine go_ninT (by tm_at "sSel") ?_))
  | ((guard_target = GOp _ _ (compareOp CmpOp.Eq) (_) (V.non) _ _); (with_reducible refine go_eqS rfl ?_))
  | ((guard_target = GOp _ _ (compareOp CmpOp.NotEq) (_) (V.non) _ _); (with_reducible refine go_neS rfl ?_))
  | ((guard_target = GOp _ _ (compareOp CmpOp.Is) (_) (V.non) _ _); (with_reducible refine go_isN ?_))
  | ((guard_target = GOp _ _ (compareOp CmpOp.IsNot) (_) (V.non) _ _); (with_reducible refine go_notN ?_)))
local macro_rules | `(tactic| tm_at "gC") => `(tactic| first
  | ((guard_target = GC _ _ (Value.type "int") [V.int _] _ _); (with_reducible refine gc_intI ?_))
  | ((guard_target = GC _ _ (Value.type "int") [V.bl _] _ _); (with_reducible refine gc_intB ?_))
  | ((guard_target = GC _ _ (Value.builtin "abs") [V.int _] _ _); (with_reducible refine gc_abs ?_))
  | ((guard_target = GC _ _ (Value.builtin "max") [V.int _, V.int _] _ _); (with_reducible refine gc_max2 ?hc ?_); (case hc => rfl))
  | ((guard_target = GC _ _ (Value.builtin "min") [V.int _, V.int _] _ _); (with_reducible refine gc_min2 ?hc ?_); (case hc => rfl))
  | ((guard_target = GC _ _ (Value.type "range") [V.int _] _ _); (with_reducible refine gc_rng1 ?_))
  | ((guard_target = GC _ _ (Value.type "range") [V.int _, V.int _] _ _); (with_reducible refine gc_rng2 ?_))
  | ((guard_target = GC _ _ (Value.builtin "len") [V.ref _] _ _); (with_reducible refine gc_lenR (by tm_at "sSel") ?_))
  | ((guard_target = GC _ _ (Value.builtin "len") [V.ref _] _ _); (with_reducible refine gc_len (by tm_at "sSel") ?_))
  | ((guard_target = GC _ _ (Value.builtin "len") [V.ref _] _ _); (with_reducible refine gc_lenT (by tm_at "sSel") ?_)))
local macro_rules | `(tactic| tm_at "gF") => `(tactic| first
  | ((guard_target = GF _ _ _ _ _ _); (with_reducible refine gf (by tm_at "sSel") (by tm_at "sLkF") ?hc ?hn ?_); (case hc => assumption); (case hn => assumption))
  | ((guard_target = GFS _ _ _ _ _ _); (with_reducible refine gfs (by tm_at "sRpl") (by tm_at "sPutF") ?hc ?hn ?hz ?_); (case hc => assumption); (case hn => assumption); (case hz => exact Nat.le_of_ble_eq_true rfl))
  | ((guard_target = GFA _ _ _ _ _ _ _ _ _); (with_reducible refine gfa (by tm_at "sSel") (by tm_at "sLkF") ?hc ?hn ?_); (case hc => assumption); (case hn => assumption))
  | ((guard_target = Exists fun _ => Exists fun _ => Exists fun _ => (Rpl _ _ _ _ ∧ _ ∧ _)); (with_reducible refine gfaE (by tm_at "sRpl") (by tm_at "sPutF") ?hz ?_); (case hz => exact Nat.le_of_ble_eq_true rfl))
  | ((guard_target = GAS _ _ _ _ _ _ _ _ _); (with_reducible refine gas (by tm_at "sSel") (by tm_at "sIx") ?_))
  | ((guard_target = (HasL _ _ _ ∧ _)); (with_reducible refine And.intro ?hh ?_); (case hh => tm_at "sHasL"))
  | ((guard_target = (IsIns _ _ _ _ _ ∧ _)); (with_reducible refine And.intro ?hh ?_); (case hh => exact isIns (by tm_at "sSel") (by tm_at "sNoF") (by rfl)))
  | ((guard_target = GApp _ _ _ _ _); (with_reducible refine gapp_pt (by tm_at "sRpl") ?hz ?_); (case hz => tm_at "sZ"))
  | ((guard_target = (List.length _ ≤ PySem.sizeLine ∧ _)); (with_reducible refine And.intro ?hz ?_); (case hz => tm_at "sZ"); intro _)
  | ((guard_target = GIp _ _ Operator.Add (V.int _) (V.int _) _ _); (with_reducible refine gip_add ?_))
  | ((guard_target = GIp _ _ Operator.Sub (V.int _) (V.int _) _ _); (with_reducible refine gip_sub ?_))
  | ((guard_target = GRem _ _ _ _ _); (with_reducible refine grem (by tm_at "sRpl") ?hm ?_); (case hm => assumption))
  | ((guard_target = GO _ _ none _ _ _); (with_reducible refine goN ?_))
  | ((guard_target = GO _ _ (some _) _ _ _); (with_reducible refine goS ?_)))
local macro_rules | `(tactic| tm_at "gIx") => `(tactic| first
  | (with_reducible refine gi_lst (by tm_at "sSel") (by tm_at "sIx") ?_)
  | (with_reducible refine gi_tup (by tm_at "sSel") (by tm_at "sIx") ?_))
local macro_rules | `(tactic| tm_at "gS") => `(tactic| first
  | ((guard_target = GS _ _ (Stmt.Assign [Expr.Name _ _] _ _) _ _ _); (with_reducible refine gs_name (by assumption) (by tm_at "sSlot") (by tm_at "sKd") (by tm_at "sLk") (by tm_at "sLf") ?hsw ?_); (case hsw => rfl))
  | ((guard_target = GS _ _ (Stmt.If _ _ _ _) _ _ _); (with_reducible refine gs_if ?_))
  | ((guard_target = GS _ _ (Stmt.AugAssign (Expr.Name _ _) _ _ _) _ _ _); (with_reducible refine gs_aug (by assumption) (by tm_at "sAt") (by tm_at "sSlot") (by tm_at "sKd") (by tm_at "sLk") (by tm_at "sLf") ?_))
  | ((guard_target = GS _ _ (Stmt.AugAssign (Expr.Attribute _ _ _) _ _ _) _ _ _); (with_reducible refine gs_fldaug ?_))
  | ((guard_target = GS _ _ (Stmt.AugAssign (Expr.Subscript _ _ _) _ _ _) _ _ _); (with_reducible refine gs_augS ?ha ?_); (case ha => intros; rfl))
  | ((guard_target = GS _ _ (Stmt.Return (some _) _) _ _ _); (with_reducible refine gs_ret ?_))
  | ((guard_target = GS _ _ (Stmt.Expr (Expr.Constant _ _ _) _) _ _ _); (with_reducible refine gs_doc ?_))
  | ((guard_target = GS _ _ (Stmt.Expr _ _) _ _ _); (with_reducible refine gs_expr ?hsw ?_); (case hsw => rfl))
  | ((guard_target = GS _ _ (Stmt.Assign [Expr.Attribute _ _ _] _ _) _ _ _); (with_reducible refine gs_fld ?hsw ?_); (case hsw => rfl))
  | ((guard_target = GS _ _ (Stmt.Assign [Expr.Subscript _ _ _] _ _) _ _ _); (with_reducible refine gs_asg ?hsw ?hw ?h1 ?_); (case hsw => rfl); (case hw => rfl); (case h1 => rfl))
  | ((guard_target = GS _ _ (Stmt.Assign [Expr.Tuple _ _ _] _ _) _ _ _); (with_reducible refine gs_asg ?hsw ?hw ?h1 ?_); (case hsw => rfl); (case hw => rfl); (case h1 => rfl))
  | ((guard_target = GS _ _ (Stmt.Return none _) _ _ _); (with_reducible refine gs_retN ?_))
  | ((guard_target = GS _ _ (Stmt.Pass _) _ _ _); (with_reducible refine gs_pass ?_))
  | ((guard_target = GS _ _ (Stmt.Break _) _ _ _); (with_reducible refine gs_break ?_))
  | ((guard_target = GS _ _ (Stmt.Continue _) _ _ _); (with_reducible refine gs_continue ?_)))
local macro_rules | `(tactic| tm_at "gG") => `(tactic| first
  | ((guard_target = GG _ _ (Expr.Name _ _) _ _ _ _); (with_reducible refine gg_name (by assumption) (by tm_at "sSlot") (by tm_at "sKd") (by tm_at "sLk") (by tm_at "sLf") ?_))
  | ((guard_target = GG _ _ (Expr.Subscript _ _ _) _ _ _ _); (with_reducible refine gg_sub ?ha ?_); (case ha => intro _; rfl))
  | ((guard_target = GG _ _ (Expr.Tuple _ _ _) _ _ _ _); (with_reducible refine gg_tup ?hc (by tm_at "sSel") ?hn ?hst ?_); (case hc => rfl); (case hn => rfl); (case hst => rfl)))
local macro_rules | `(tactic| tm_at "g") => `(tactic| first
  | ((guard_target = GE _ _ _ _ _ _); tm_at "gE")
  | ((guard_target = GOp _ _ _ _ _ _ _); tm_at "gOp")
  | ((guard_target = GIx _ _ _ _ _ _); tm_at "gIx")
  | tm_at "gF"
  | ((guard_target = (wipe _ _ = wipe _ _ ∧ _)); refine And.intro rfl ?_)
  | ((guard_target = GGs _ _ [] _ _ _ _); (with_reducible refine ggs_nil ?_))
  | ((guard_target = GGs _ _ (_ :: _) _ _ _ _); (with_reducible refine ggs_cons ?hst ?_); (case hst => rfl))
  | ((guard_target = GTs _ _ [] _ _ _); (with_reducible refine gts_nil ?_))
  | ((guard_target = GTs _ _ [_] _ _ _); (with_reducible refine gts_one ?_))
  | ((guard_target = KB _ _ _); (with_reducible refine KB.mk ?_))
  | ((guard_target = GA _ _ _ _ _ _); tm_at "gA")
  | ((guard_target = GS _ _ _ _ _ _); tm_at "gS")
  | ((guard_target = GSs _ _ (_ :: _) _ _ _); (with_reducible refine gss_cons ?_))
  | ((guard_target = GSs _ _ ([]) _ _ _); (with_reducible refine gss_nil ?_))
  | ((guard_target = GT _ _ _ _ _ _); tm_at "gT")
  | ((guard_target = GB _ _ _ _ _ _); tm_at "gB")
  | ((guard_target = GC _ _ _ _ _ _); tm_at "gC")
  | ((guard_target = GG _ _ _ _ _ _ _); tm_at "gG")
  | ((guard_target = GPutL _ _ _ _ _); (with_reducible refine gput (by tm_at "sRpl") (by tm_at "sPut") ?_))
  | ((guard_target = if true = true then _ else _); (with_reducible refine iteT ?_))
  | ((guard_target = if (!true) = true then _ else _); (with_reducible refine iteNT ?_))
  | ((guard_target = if (!false) = true then _ else _); (with_reducible refine iteNF ?_))
  | ((guard_target = if false = true then _ else _); (with_reducible refine iteF ?_))
  | ((guard_target = Exists _); (with_reducible refine Exists.intro _ (And.intro rfl ?_)))
  | (first | with_reducible refine ite_nI ?_ | with_reducible refine ite_nN ?_ | with_reducible refine ite_nnI ?_ | with_reducible refine ite_nnN ?_ | with_reducible refine ite_nR ?_ | with_reducible refine ite_nnR ?_))
local macro_rules | `(tactic| tm_at "sSetN") => `(tactic| (first | exact SetN.here | (apply SetN.there; tm_at "sSetN")))
local macro_rules | `(tactic| tm_at "sWp") => `(tactic| (first | exact Wp.nil | (apply Wp.cons; (tm_at "sWp"); (tm_at "sSetN"))))
local macro_rules | `(tactic| tm_at "fits") => `(tactic| (first | apply Fits.mk | apply FitL.mk))
local macro_rules | `(tactic| tm_at "ent") => `(tactic| (apply Fit.ent; tm_at "fit"))
local macro_rules | `(tactic| tm_at "go") => `(tactic| repeat (tm_at "g"))
local macro_rules | `(tactic| tm_at "gs") => `(tactic| repeat ((fail_if_success (guard_target = GSs _ _ (_ :: _) _ _ _)); tm_at "g"))
local macro_rules | `(tactic| tm_at "if") => `(tactic| first
  | (with_reducible refine ite_ndec (fun _ => ?_) (fun _ => ?_))
  | (with_reducible refine ite_dec (fun _ => ?_) (fun _ => ?_))
  | (with_reducible refine ite_nb (fun _ => ?_) (fun _ => ?_))
  | (with_reducible refine ite_b (fun _ => ?_) (fun _ => ?_)))
local macro_rules | `(tactic| tm_at "fit") => `(tactic| (guard_target = Fit _ (CpsR _ _ _ _ :: _); (first | ((with_reducible apply Fit.find); (case s => tm_at "sSelC"); (case t => tm_at "fit")) | ((with_reducible apply cps_want); (case f => tm_at "fit"); (case e => first | rfl | (simp only [vLd]; done) | (simp [raise_ld, vLd, *]; done))))))
local macro_rules | `(tactic| tm_at "fit") => `(tactic| (guard_target = Fit _ (RestP _ _ _ [] :: _); (first | ((with_reducible apply Fit.find); (case s => tm_at "sSelC"); (case t => tm_at "fit")) | ((with_reducible apply rest_want); (case hk => assumption); (case f => tm_at "fit")) | ((with_reducible apply rest_back); (case s => tm_at "sSel"); (case hk => assumption); (case f => tm_at "fit")))))
local macro_rules | `(tactic| tm_at "gEMeth") => `(tactic| (guard_target = GE _ _ (Expr.Call (Expr.Attribute _ "last_mark" _) [] _ _) _ _ _; (refine ge_meth0 (MeAt.e (C := "Copy") (m := "last_mark") (by assumption)) (by tm_at "sRoom") (by tm_at "sXok") ?ht ?_); (case ht => exact ⟨_, rfl⟩)))
local macro_rules | `(tactic| tm_at "gEMeth") => `(tactic| (guard_target = GE _ _ (Expr.Call (Expr.Attribute _ "raise_high" _) [] _ _) _ _ _; (refine ge_meth0 (MeAt.e (C := "Copies") (m := "raise_high") (by assumption)) (by tm_at "sRoom") (by tm_at "sXok") ?ht ?_); (case ht => exact ⟨_, rfl⟩)))
local macro_rules | `(tactic| tm_at "gEMeth") => `(tactic| (guard_target = GE _ _ (Expr.Call (Expr.Attribute _ "sure" _) [] _ _) _ _ _; (refine ge_meth0 (MeAt.e (C := "Copies") (m := "sure") (by assumption)) (by tm_at "sRoom") (by tm_at "sXok") ?ht ?_); (case ht => exact ⟨_, rfl⟩)))
local macro_rules | `(tactic| tm_at "gEMeth") => `(tactic| (guard_target = GE _ _ (Expr.Call (Expr.Attribute _ "alike" _) [] _ _) _ _ _; (refine ge_meth0 (MeAt.e (C := "Copies") (m := "alike") (by assumption)) (by tm_at "sRoom") (by tm_at "sXok") ?ht ?_); (case ht => exact ⟨_, rfl⟩)))
local macro_rules | `(tactic| tm_at "gEMeth") => `(tactic| (guard_target = GE _ _ (Expr.Call (Expr.Attribute _ "turn_end" _) (_ :: _) _ _) _ _ _; (refine ge_meth (MeAt.e (C := "Copy") (m := "turn_end") (by assumption)) (by tm_at "sRoom") (by tm_at "sXok") ?hst ?hpl ?ht ?_); (case hst => rfl); (case hpl => rfl); (case ht => exact ⟨_, rfl⟩)))
local macro_rules | `(tactic| tm_at "gEMeth") => `(tactic| (guard_target = GE _ _ (Expr.Call (Expr.Attribute _ "agree" _) (_ :: _) _ _) _ _ _; (refine ge_meth (MeAt.e (C := "Copies") (m := "agree") (by assumption)) (by tm_at "sRoom") (by tm_at "sXok") ?hst ?hpl ?ht ?_); (case hst => rfl); (case hpl => rfl); (case ht => exact ⟨_, rfl⟩)))
local macro_rules | `(tactic| tm_at "gEMeth") => `(tactic| (guard_target = GE _ _ (Expr.Call (Expr.Attribute _ "give" _) (_ :: _) _ _) _ _ _; (refine ge_meth (MeAt.e (C := "Copies") (m := "give") (by assumption)) (by tm_at "sRoom") (by tm_at "sXok") ?hst ?hpl ?ht ?_); (case hst => rfl); (case hpl => rfl); (case ht => exact ⟨_, rfl⟩)))
local macro_rules | `(tactic| tm_at "gEMeth") => `(tactic| (guard_target = GE _ _ (Expr.Call (Expr.Attribute _ "ask" _) (_ :: _) _ _) _ _ _; (refine ge_meth (MeAt.e (C := "Copies") (m := "ask") (by assumption)) (by tm_at "sRoom") (by tm_at "sXok") ?hst ?hpl ?ht ?_); (case hst => rfl); (case hpl => rfl); (case ht => exact ⟨_, rfl⟩)))
local macro_rules | `(tactic| tm_at "gEMeth") => `(tactic| (guard_target = GE _ _ (Expr.Call (Expr.Attribute _ "down" _) (_ :: _) _ _) _ _ _; (refine ge_meth (MeAt.e (C := "Copies") (m := "down") (by assumption)) (by tm_at "sRoom") (by tm_at "sXok") ?hst ?hpl ?ht ?_); (case hst => rfl); (case hpl => rfl); (case ht => exact ⟨_, rfl⟩)))
local macro_rules | `(tactic| tm_at "gEMeth") => `(tactic| (guard_target = GE _ _ (Expr.Call (Expr.Attribute _ "up_again" _) (_ :: _) _ _) _ _ _; (refine ge_meth (MeAt.e (C := "Copies") (m := "up_again") (by assumption)) (by tm_at "sRoom") (by tm_at "sXok") ?hst ?hpl ?ht ?_); (case hst => rfl); (case hpl => rfl); (case ht => exact ⟨_, rfl⟩)))
local macro_rules | `(tactic| tm_at "gEMeth") => `(tactic| (guard_target = GE _ _ (Expr.Call (Expr.Attribute _ "lead" _) (_ :: _) _ _) _ _ _; (refine ge_meth (MeAt.e (C := "Copies") (m := "lead") (by assumption)) (by tm_at "sRoom") (by tm_at "sXok") ?hst ?hpl ?ht ?_); (case hst => rfl); (case hpl => rfl); (case ht => exact ⟨_, rfl⟩)))
local macro_rules | `(tactic| tm_at "gEMeth") => `(tactic| (guard_target = GE _ _ (Expr.Call (Expr.Attribute _ "give_as" _) (_ :: _) _ _) _ _ _; (refine ge_meth (MeAt.e (C := "Copies") (m := "give_as") (by assumption)) (by tm_at "sRoom") (by tm_at "sXok") ?hst ?hpl ?ht ?_); (case hst => rfl); (case hpl => rfl); (case ht => exact ⟨_, rfl⟩)))
local macro_rules | `(tactic| tm_at "gEMeth") => `(tactic| (guard_target = GE _ _ (Expr.Call (Expr.Attribute _ "lag" _) (_ :: _) _ _) _ _ _; (refine ge_meth (MeAt.e (C := "Copies") (m := "lag") (by assumption)) (by tm_at "sRoom") (by tm_at "sXok") ?hst ?hpl ?ht ?_); (case hst => rfl); (case hpl => rfl); (case ht => exact ⟨_, rfl⟩)))
local macro_rules | `(tactic| tm_at "sIx") => `(tactic| exact at3 (by assumption))
local macro_rules | `(tactic| tm_at "sPut") => `(tactic| (first | exact put3 (g := V.int) (by assumption) | exact put3 (g := V.bl) (by assumption)))
local macro_rules | `(tactic| tm_at "gF") => `(tactic| ((guard_target = (IsIns _ _ _ _ _ ∧ _)); (with_reducible refine And.intro ?hh ?_); (case hh => exact ins_cps (by tm_at "sSel") (fun _ _ _ _ _ _ _ _ => by tm_at "sNoF"))))
section
variable {T : List (Addr × Str)} {P : Program} {w : World} {Kf : PySem.W.Frag} {mg : Str → Option Value} {base : Heap} {f : Addr} {fd : FuncData}
theorem call_lm {a d r : Addr} {c : Cp} {L R : List SA} {K : GK} {kx : KX} (e : Ent T L (cpP Kf a d r c R)) (k : K (.int c.rs.length) (cpP Kf a d r c R)) : spE T (spLM Kf) [.ref a] L K kx := CallS.mk ⟨a, d, r, c, R, rfl, rfl, k⟩ e
def spRH (Kf : PySem.W.Frag) : SpL := fun vs L K kx => ∃ (o : Addr) (a : Nat → Addr) (S : CS) (l : Nat) (R : List SA), vs = [.ref o] ∧ L = CpsR Kf o a S :: R ∧ S.leader = some l ∧ Wf S ∧ K .non (CpsR Kf o a (raise S l) :: R)
theorem ok_rh (fx : Fx Kf mg) (hlm : MeAt T P w Kf mg base 1 "Copy" "last_mark" (spLM Kf)) (F : FunD Kf "raise_high" "Copies.raise_high" (defArgs s_Copies_raise_high) (defBody s_Copies_raise_high) (defScope s_Copies_raise_high) [] [] f fd) : FnOk P w Kf mg base (L2.CX P w) 2 f fd ["self"] (spOf T (spRH Kf)) := by
  refine def_in F sc_Copies_raise_high (fun vs L K kx h => ?_) (fun A outer s H E hr n vs L KK kx h hx σ hσ => ?_)
  · obtain ⟨o, a, S, l, R, rfl, _⟩ := h; rfl
  · obtain ⟨o, a, S, l, R, rfl, rfl, hld, wf, k⟩ := h
    obtain rfl : σ = [some (.ref o), none, none, none] := hσ
    cases fx
    obtain ⟨hl, hlw⟩ := wf.ld l hld
    refine cps_in (v := .int (l : Int)) (by tm_at "sSel") (by rw [hld]; rfl) fun dc lc lu lw lk lj => ?_
    refine foc_in hl (by tm_at "sSel") fun dx r => ?_
    refine gss_cons ?_
    tm_at "go"
    refine ge_lcL ow0_Copies_raise_high rfl n.ndN (blkOk_by (N := n_Copies_raise_high) (sc := defScope s_Copies_raise_high) (by decide +kernel)) (by tm_at "sWp") (fun _ => rfl) ?_
    tm_at "go"
    refine ⟨_, _, rfl, ⟨_, by tm_at "sSel"⟩, lcgo (fun D (ys : List Int) => pt D (.lst (ys.map V.int))) (fun i ys => ys = (S.wl.take i).map (kn S)) [] rfl (fun _ _ h => h) ?_ ?_⟩
    · rintro D i x Lx ys hi ⟨hx, rfl⟩ e s' H' C cl fp
      simp only [List.nil_append]
      refine gg_blk (kc := kc0_Copies_raise_high) n rfl (by decide) fun nb => ?_
      obtain ⟨y, hy, rfl⟩ : ∃ y, S.wl[i]? = some y ∧ x = V.int y := by
        rw [List.getElem?_map] at hx
        cases hq : S.wl[i]? with
        | none => rw [hq] at hx; cases hx
        | some y => rw [hq] at hx; cases hx; exact ⟨y, rfl, rfl⟩
      obtain ⟨j, hj, rfl⟩ := wf.wl y (List.mem_of_getElem? hy)
      tm_at "go"
      intro s' H' C cl fp
      refine gts_blk (kc := kc0_Copies_raise_high) n rfl (by decide) fun nb => ?_
      tm_at "go"
      intro s' H' C cl fp
      refine ge_blk (kc := kc0_Copies_raise_high) n rfl (by decide) fun nb => ?_
      tm_at "go"
      refine lcend_pt (by tm_at "sRpl") ?_ ⟨ys ++ [S.known j], ?_, ?_⟩
      · have := wf.wlz
        have h2 : ys.length ≤ S.wl.length := by rw [e, List.length_map]; exact List.length_take_le' _ _
        rw [List.length_map, sizeLine_eq]; omega
      · show _ = _
        rw [take_succ hy, List.map_append, e]; rfl
      · tm_at "ent"
    · intro D ys e
      tm_at "go"
      rw [List.length_map, List.take_length] at e
      refine gc_minL rfl (by tm_at "sSel") ?_ fun m hm hmin => ?_
      · rw [e]; intro z; rw [List.map_eq_nil_iff] at z; rw [z] at hlw; cases hlw
      · tm_at "go"
        have em : minL (S.wl.map (kn S)) = m := by rw [← e]; exact minL_of hm hmin
        refine call_lm (by tm_at "ent") ?_
        tm_at "go"
        apply Clo.mk k
        have e2 : raise S l = { S with c := fset S.c l { S.c l with high := mx (S.c l).high (mn m (S.c l).rs.length) } } := by unfold raise raiseC; rw [em]
        rw [e2]
        tm_at "ent"
end
end K04
set_option Elab.async false
set_option linter.all false
set_option maxRecDepth 100000
set_option pp.deepTerms false
set_option pp.deepTerms.threshold 10
set_option pp.maxSteps 1500
namespace K04
open PySem PySem.Spec L2 SW
open PyProof.Rows hiding St
local macro_rules | `(tactic| tm_at "sAt") => `(tactic| with_reducible (first | exact At.here | (apply At.there; tm_at "sAt")))
local macro_rules | `(tactic| tm_at "sSlot") => `(tactic| with_reducible (first | exact Slot.here | (apply Slot.there; tm_at "sSlot")))
local macro_rules | `(tactic| tm_at "sKd") => `(tactic| with_reducible (first | exact Kd.here | (apply Kd.there; tm_at "sKd")))
local macro_rules | `(tactic| tm_at "sSel") => `(tactic| with_reducible (first | exact Sel.here | (apply Sel.there; tm_at "sSel")))
local macro_rules | `(tactic| tm_at "sRpl") => `(tactic| with_reducible (first | exact Rpl.here | (apply Rpl.there; tm_at "sRpl")))
local macro_rules | `(tactic| tm_at "sTk") => `(tactic| (first | exact Tk.nil | (apply Tk.cons; (tm_at "sSel"); (tm_at "sTk"))))
local macro_rules | `(tactic| tm_at "sVk") => `(tactic| first
  | exact Vk.l
  | exact Vk.c
  | exact Vk.f)
local macro_rules | `(tactic| tm_at "sLk") => `(tactic| first
  | exact Lk.l
  | exact Lk.c)
local macro_rules | `(tactic| tm_at "sLf") => `(tactic| first
  | exact Or.inl rfl
  | exact Or.inr rfl)
local macro_rules | `(tactic| tm_at "sRoom") => `(tactic| first
  | assumption
  | exact L2.Room.mono (by assumption) (by decide))
local macro_rules | `(tactic| tm_at "sXok") => `(tactic| first
  | assumption
  | exact xok0)
local macro_rules | `(tactic| tm_at "sCv") => `(tactic| (first | with_reducible exact Cv.id | with_reducible exact Cv.lst0 | ((with_reducible refine Cv.pt ?_); tm_at "sEq") | ((with_reducible refine Cv.lst ?_); tm_at "sEq") | ((with_reducible refine Cv.val ?_); tm_at "sEq")))
local macro_rules | `(tactic| tm_at "sEq") => `(tactic| (first | rfl | assumption | (simp; done)))
local macro_rules | `(tactic| tm_at "sSelC") => `(tactic| (first | ((with_reducible apply SelC.here); tm_at "sCv") | ((with_reducible apply SelC.there); tm_at "sSelC")))
local macro_rules | `(tactic| tm_at "fit") => `(tactic| (first | with_reducible exact Fit.refl | with_reducible exact Fit.nil | ((with_reducible apply Fit.find); (case s => tm_at "sSelC"); (case t => tm_at "fit")) | ((with_reducible apply Fit.drop); tm_at "fit")))
local macro_rules | `(tactic| tm_at "sLkF") => `(tactic| with_reducible (first | exact LkF.here | (apply LkF.there (by with_unfolding_all rfl); tm_at "sLkF")))
local macro_rules | `(tactic| tm_at "sNoF") => `(tactic| with_reducible (first | exact NoF.nil | (apply NoF.cons (by with_unfolding_all rfl); tm_at "sNoF")))
local macro_rules | `(tactic| tm_at "sPutF") => `(tactic| with_reducible (first | exact PutF.here | exact PutF.nil | (apply PutF.there (by with_unfolding_all rfl); tm_at "sPutF")))
local macro_rules | `(tactic| tm_at "sHasL") => `(tactic| (first | exact hasL_pt (by tm_at "sSel") | exact hasL_R (by tm_at "sSel")))
local macro_rules | `(tactic| tm_at "sZ") => `(tactic| (first | assumption | (simp only [List.length_cons, List.length_nil, List.length_append, PySem.sizeLine_eq]; omega) | (rw [PySem.sizeLine_eq]; simp; done)))
local macro_rules | `(tactic| tm_at "sIx") => `(tactic| with_unfolding_all rfl)
local macro_rules | `(tactic| tm_at "sSet") => `(tactic| (first | exact SetR.here | (apply SetR.there; tm_at "sSet")))
local macro_rules | `(tactic| tm_at "sPut") => `(tactic| first
  | exact PutAt.c 0 (by with_unfolding_all rfl) (by tm_at "sSet")
  | exact PutAt.c 1 (by with_unfolding_all rfl) (by tm_at "sSet")
  | exact PutAt.c 2 (by with_unfolding_all rfl) (by tm_at "sSet")
  | exact PutAt.c 3 (by with_unfolding_all rfl) (by tm_at "sSet")
  | exact PutAt.c 4 (by with_unfolding_all rfl) (by tm_at "sSet")
  | exact PutAt.c 5 (by with_unfolding_all rfl) (by tm_at "sSet"))
local macro_rules | `(tactic| tm_at "gECall") => `(tactic| first
  | ((guard_target = GE _ _ (Expr.Call (Expr.Name "len" _) _ _ _) _ _ _); (with_reducible refine gb_len (by assumption) (by tm_at "sKd") ?hm ?he ?hpl ?_); (case hm => assumption); (case he => rfl); (case hpl => rfl))
  | ((guard_target = GE _ _ (Expr.Call (Expr.Name "int" _) _ _ _) _ _ _); (with_reducible refine gb_int (by assumption) (by tm_at "sKd") ?hm ?he ?hpl ?_); (case hm => assumption); (case he => rfl); (case hpl => rfl))
  | ((guard_target = GE _ _ (Expr.Call (Expr.Name "str" _) _ _ _) _ _ _); (with_reducible refine gb_str (by assumption) (by tm_at "sKd") ?hm ?he ?hpl ?_); (case hm => assumption); (case he => rfl); (case hpl => rfl))
  | ((guard_target = GE _ _ (Expr.Call (Expr.Name "list" _) _ _ _) _ _ _); (with_reducible refine gb_list (by assumption) (by tm_at "sKd") ?hm ?he ?hpl ?_); (case hm => assumption); (case he => rfl); (case hpl => rfl))
  | ((guard_target = GE _ _ (Expr.Call (Expr.Name "tuple" _) _ _ _) _ _ _); (with_reducible refine gb_tuple (by assumption) (by tm_at "sKd") ?hm ?he ?hpl ?_); (case hm => assumption); (case he => rfl); (case hpl => rfl))
  | ((guard_target = GE _ _ (Expr.Call (Expr.Name "min" _) _ _ _) _ _ _); (with_reducible refine gb_min (by assumption) (by tm_at "sKd") ?hm ?he ?hpl ?_); (case hm => assumption); (case he => rfl); (case hpl => rfl))
  | ((guard_target = GE _ _ (Expr.Call (Expr.Name "max" _) _ _ _) _ _ _); (with_reducible refine gb_max (by assumption) (by tm_at "sKd") ?hm ?he ?hpl ?_); (case hm => assumption); (case he => rfl); (case hpl => rfl))
  | ((guard_target = GE _ _ (Expr.Call (Expr.Name "sum" _) _ _ _) _ _ _); (with_reducible refine gb_sum (by assumption) (by tm_at "sKd") ?hm ?he ?hpl ?_); (case hm => assumption); (case he => rfl); (case hpl => rfl))
  | ((guard_target = GE _ _ (Expr.Call (Expr.Name "sorted" _) _ _ _) _ _ _); (with_reducible refine gb_sorted (by assumption) (by tm_at "sKd") ?hm ?he ?hpl ?_); (case hm => assumption); (case he => rfl); (case hpl => rfl))
  | ((guard_target = GE _ _ (Expr.Call (Expr.Name "abs" _) _ _ _) _ _ _); (with_reducible refine gb_abs (by assumption) (by tm_at "sKd") ?hm ?he ?hpl ?_); (case hm => assumption); (case he => rfl); (case hpl => rfl))
  | ((guard_target = GE _ _ (Expr.Call (Expr.Name "range" _) _ _ _) _ _ _); (with_reducible refine gb_range (by assumption) (by tm_at "sKd") ?hm ?he ?hpl ?_); (case hm => assumption); (case he => rfl); (case hpl => rfl))
  | ((guard_target = GE _ _ (Expr.Call (Expr.Name "any" _) _ _ _) _ _ _); (with_reducible refine gb_any (by assumption) (by tm_at "sKd") ?hm ?he ?hpl ?_); (case hm => assumption); (case he => rfl); (case hpl => rfl))
  | ((guard_target = GE _ _ (Expr.Call (Expr.Name "all" _) _ _ _) _ _ _); (with_reducible refine gb_all (by assumption) (by tm_at "sKd") ?hm ?he ?hpl ?_); (case hm => assumption); (case he => rfl); (case hpl => rfl))
  | ((guard_target = GE _ _ (Expr.Call (Expr.Name "dict" _) _ _ _) _ _ _); (with_reducible refine gb_dict (by assumption) (by tm_at "sKd") ?hm ?he ?hpl ?_); (case hm => assumption); (case he => rfl); (case hpl => rfl))
  | ((guard_target = GE _ _ (Expr.Call (Expr.Name "set" _) _ _ _) _ _ _); (with_reducible refine gb_set (by assumption) (by tm_at "sKd") ?hm ?he ?hpl ?_); (case hm => assumption); (case he => rfl); (case hpl => rfl)))
local macro_rules | `(tactic| tm_at "gECall") => `(tactic| (guard_target = GE _ _ (Expr.Call (Expr.Name "_law_roll" _) (_ :: _) [] _) _ _ _; (refine ge_call (FnAt.e (x := "_law_roll") (by assumption)) (by tm_at "sRoom") (by tm_at "sXok") (Nm.gl (by assumption) (by tm_at "sKd")) ?hdb ?he ?hpl ?_); (case hdb => rfl); (case he => rfl); (case hpl => rfl)))
local macro_rules | `(tactic| tm_at "gECall") => `(tactic| (guard_target = GE _ _ (Expr.Call (Expr.Name "_law_dice" _) (_ :: _) [] _) _ _ _; (refine ge_call (FnAt.e (x := "_law_dice") (by assumption)) (by tm_at "sRoom") (by tm_at "sXok") (Nm.gl (by assumption) (by tm_at "sKd")) ?hdb ?he ?hpl ?_); (case hdb => rfl); (case he => rfl); (case hpl => rfl)))
local macro_rules | `(tactic| tm_at "gECall") => `(tactic| (guard_target = GE _ _ (Expr.Call (Expr.Name "_law_rounds" _) (_ :: _) [] _) _ _ _; (refine ge_call (FnAt.e (x := "_law_rounds") (by assumption)) (by tm_at "sRoom") (by tm_at "sXok") (Nm.gl (by assumption) (by tm_at "sKd")) ?hdb ?he ?hpl ?_); (case hdb => rfl); (case he => rfl); (case hpl => rfl)))
local macro_rules | `(tactic| tm_at "gECall") => `(tactic| (guard_target = GE _ _ (Expr.Call (Expr.Name "_law_deed" _) (_ :: _) [] _) _ _ _; (refine ge_call (FnAt.e (x := "_law_deed") (by assumption)) (by tm_at "sRoom") (by tm_at "sXok") (Nm.gl (by assumption) (by tm_at "sKd")) ?hdb ?he ?hpl ?_); (case hdb => rfl); (case he => rfl); (case hpl => rfl)))
local macro_rules | `(tactic| tm_at "gE") => `(tactic| first
  | ((guard_target = GE _ _ (Expr.Name _ _) _ _ _); (with_reducible refine ge_name (by assumption) (by tm_at "sAt") (by tm_at "sKd") (by tm_at "sVk") rfl ?_))
  | ((guard_target = GE _ _ (Expr.Constant (Const.int _) _ _) _ _ _); (with_reducible refine ge_int ?_))
  | ((guard_target = GE _ _ (Expr.Attribute _ _ _) _ _ _); (with_reducible refine ge_fld ?hb ?_); (case hb => rfl))
  | ((guard_target = GE _ _ (Expr.Subscript _ (Expr.Slice _ _ none _) _) _ _ _); (with_reducible refine ge_slice ?_))
  | ((guard_target = GE _ _ (Expr.Call (Expr.Attribute _ _ _) _ _ _) _ _ _); tm_at "gEMeth")
  | ((guard_target = GE _ _ (Expr.Subscript _ _ _) _ _ _); (with_reducible refine ge_sub ?hs ?_); (case hs => exact fun _ _ => rfl))
  | ((guard_target = GE _ _ (Expr.BinOp _ _ _ _) _ _ _); (with_reducible refine ge_bin ?_))
  | ((guard_target = GE _ _ (Expr.Constant (Const.str _) _ _) _ _ _); (with_reducible refine ge_str ?_))
  | ((guard_target = GE _ _ (Expr.Call (Expr.Name _ _) _ _ _) _ _ _); tm_at "gECall")
  | ((guard_target = GE _ _ (Expr.List _ _) _ _ _); (with_reducible refine ge_lst ?_))
  | ((guard_target = GE _ _ (Expr.Tuple _ _ _) _ _ _); (with_reducible refine ge_tup ?_))
  | ((guard_target = GE _ _ (Expr.Constant Const.none _ _) _ _ _); (with_reducible refine ge_none ?_))
  | ((guard_target = GE _ _ (Expr.Constant (Const.bool _) _ _) _ _ _); (with_reducible refine ge_bl ?_))
  | ((guard_target = GE _ _ (Expr.Compare _ [_] [_] _) _ _ _); (with_reducible refine ge_cmp ?hm ?_); (case hm => first | exact nomark _ | rfl))
  | ((guard_target = GE _ _ (Expr.UnaryOp UnaryOp.Not _ _) _ _ _); (with_reducible refine ge_not ?_))
  | ((guard_target = GE _ _ (Expr.UnaryOp _ _ _) _ _ _); (with_reducible refine ge_un ?_))
  | ((guard_target = GE _ _ (Expr.IfExp _ _ _ _) _ _ _); (with_reducible refine ge_if ?_))
  | ((guard_target = GE _ _ (Expr.Compare _ [_, _] [_, _] _) _ _ _); (with_reducible refine ge_chain ?hm ?_); (case hm => with_unfolding_all rfl))
  | ((guard_target = GE _ _ (Expr.BoolOp _ [_] _) _ _ _); (with_reducible refine ge_one ?_))
  | ((guard_target = GE _ _ (Expr.BoolOp BoolOp.And _ _) _ _ _); (with_reducible refine ge_and ?_))
  | ((guard_target = GE _ _ (Expr.BoolOp BoolOp.Or _ _) _ _ _); (with_reducible refine ge_or ?_)))
local macro_rules | `(tactic| tm_at "gEMeth") => `(tactic| first
  | ((guard_target = GE _ _ (Expr.Call (Expr.Attribute _ "append" _) [_] [] _) _ _ _); (with_reducible refine ge_append ?h1 ?h2 ?h3 ?h4 ?h5 ?_); (case h1 => rfl); (case h2 => rfl); (case h3 => rfl); (case h4 => rfl); (case h5 => rfl))
  | ((guard_target = GE _ _ (Expr.Call (Expr.Attribute _ "extend" _) [_] [] _) _ _ _); (with_reducible refine ge_extend ?h1 ?h2 ?h3 ?h4 ?h5 ?_); (case h1 => rfl); (case h2 => rfl); (case h3 => rfl); (case h4 => rfl); (case h5 => rfl))
  | ((guard_target = GE _ _ (Expr.Call (Expr.Attribute _ "remove" _) [_] [] _) _ _ _); (with_reducible refine ge_remove ?h1 ?h2 ?h3 ?h4 ?h5 ?_); (case h1 => rfl); (case h2 => rfl); (case h3 => rfl); (case h4 => rfl); (case h5 => rfl))
  | ((guard_target = GE _ _ (Expr.Call (Expr.Attribute _ "pop" _) [_] [] _) _ _ _); (with_reducible refine ge_popAt ?h1 ?h2 ?h3 ?h4 ?h5 ?_); (case h1 => rfl); (case h2 => rfl); (case h3 => rfl); (case h4 => rfl); (case h5 => rfl)))
local macro_rules | `(tactic| tm_at "gT") => `(tactic| first
  | ((guard_target = GT _ _ (Expr.Compare _ [_] [_] _) _ _ _); (with_reducible refine gt_cmp ?hm ?_); (case hm => first | exact nomark _ | rfl))
  | ((guard_target = GT _ _ (Expr.UnaryOp UnaryOp.Not _ _) _ _ _); (with_reducible refine gt_not ?_))
  | ((guard_target = GT _ _ (Expr.BoolOp _ _ _) _ _ _); (with_reducible refine gt_bool ?_))
  | ((guard_target = GT _ _ (Expr.Compare _ [_, _] [_, _] _) _ _ _); (with_reducible refine gt_chain ?hm ?_); (case hm => with_unfolding_all rfl))
  | ((guard_target = GT _ _ (Expr.Call _ _ _ _) _ _ _); (with_reducible refine gt_val ?he ?_); (case he => intro _; rfl))
  | ((guard_target = GT _ _ (Expr.Subscript _ _ _) _ _ _); (with_reducible refine gt_val ?he ?_); (case he => intro _; rfl))
  | ((guard_target = GT _ _ (Expr.Name _ _) _ _ _); (with_reducible refine gt_val ?he ?_); (case he => intro _; rfl))
  | ((guard_target = GT _ _ (Expr.Attribute _ _ _) _ _ _); (with_reducible refine gt_val ?he ?_); (case he => intro _; rfl)))
local macro_rules | `(tactic| tm_at "gB") => `(tactic| first
  | ((guard_target = GB _ _ (Expr.BoolOp BoolOp.And [_] _) _ _ _); (with_reducible refine gb_and1 ?_))
  | ((guard_target = GB _ _ (Expr.BoolOp BoolOp.Or [_] _) _ _ _); (with_reducible refine gb_or1 ?_))
  | ((guard_target = GB _ _ (Expr.BoolOp BoolOp.And _ _) _ _ _); (with_reducible refine gb_and ?_))
  | ((guard_target = GB _ _ (Expr.BoolOp BoolOp.Or _ _) _ _ _); (with_reducible refine gb_or ?_)))
local macro_rules | `(tactic| tm_at "gA") => `(tactic| first
  | ((guard_target = GA _ _ ([]) _ _ _); (with_reducible refine ga_nil ?_))
  | ((guard_target = GA _ _ (_ :: _) _ _ _); (with_reducible refine ga_cons ?hst ?_); (case hst => rfl)))
local macro_rules | `(tactic| tm_at "gOp") => `(tactic| first
  | ((guard_target = GOp _ _ (binaryOp Operator.Add) (V.int _) (V.int _) _ _); (with_reducible refine go_add ?_))
  | ((guard_target = GOp _ _ (binaryOp Operator.Sub) (V.int _) (V.int _) _ _); (with_reducible refine go_sub ?_))
  | ((guard_target = GOp _ _ (compareOp CmpOp.Eq) (V.int _) (V.int _) _ _); (with_reducible refine go_eqI ?_))
  | ((guard_target = GOp _ _ (compareOp CmpOp.Lt) (V.int _) (V.int _) _ _); (with_reducible refine go_lt ?_))
  | ((guard_target = GOp _ _ (compareOp CmpOp.LtE) (V.int _) (V.int _) _ _); (with_reducible refine go_le ?_))
  | ((guard_target = GOp _ _ (compareOp CmpOp.Gt) (V.int _) (V.int _) _ _); (with_reducible refine go_gt ?_))
  | ((guard_target = GOp _ _ (compareOp CmpOp.GtE) (V.int _) (V.int _) _ _); (with_reducible refine go_ge ?_))
  | ((guard_target = GOp _ _ (compareOp CmpOp.NotEq) (V.int _) (V.int _) _ _); (with_reducible refine go_neI ?_))
  | ((guard_target = GOp _ _ (binaryOp Operator.Mult) (V.int _) (V.int _) _ _); (with_reducible refine go_mul ?c ?_); (case c => first | (left; constructor <;> omega) | (right; constructor <;> omega)))
  | ((guard_target = GOp _ _ (binaryOp Operator.FloorDiv) (V.int _) (V.int _) _ _); (with_reducible refine go_div ?c ?_); (case c => constructor <;> omega))
  | ((guard_target = GOp _ _ (binaryOp Operator.Mod) (V.int _) (V.int _) _ _); (with_reducible refine go_mod ?c ?_); (case c => omega))
  | ((guard_target = GOp _ _ (compareOp CmpOp.Eq) (V.str _) (V.str _) _ _); (with_reducible refine go_eqT ?_))
  | ((guard_target = GOp _ _ (compareOp CmpOp.NotEq) (V.str _) (V.str _) _ _); (with_reducible refine go_neT ?_))
  | ((guard_target = GOp _ _ (compareOp CmpOp.Eq) (V.bl _) (V.bl _) _ _); (with_reducible refine go_eqB ?_))
  | ((guard_target = GOp _ _ (compareOp CmpOp.NotEq) (V.bl _) (V.bl _) _ _); (with_reducible refine go_neB ?_))
  | ((guard_target = GOp _ _ (compareOp CmpOp.In) (V.int _) (V.ref _) _ _); (with_reducible refine go_inI (by tm_at "sSel") ?_))
  | ((guard_target = GOp _ _ (compareOp CmpOp.NotIn) (V.int _) (V.ref _) _ _); (with_reducible refine go_ninI (by tm_at "sSel") ?_))
  | ((guard_target = GOp _ _ (compareOp CmpOp.In) (V.str _) (V.ref _) _ _); (with_reducible refine go_inT (by tm_at "sSel") ?_))
  | ((guard_target = GOp _ _ (compareOp CmpOp.NotIn) (V.str _) (V.ref _) _ _); (with_reducible refine go_ninT (by tm_at "sSel") ?_))
  | ((guard_target = GOp _ _ (compareOp CmpOp.Eq) (_) (V.non) _ _); (with_reducible refine go_eqS rfl ?_))
  | ((guard_target = GOp _ _ (compareOp CmpOp.NotEq) (_) (V.non) _ _); (with_reducible refine go_neS rfl ?_))
  | ((guard_target = GOp _ _ (compareOp CmpOp.Is) (_) (V.non) _ _); (with_reducible refine go_isN ?_))
  | ((guard_target = GOp _ _ (compareOp CmpOp.IsNot) (_) (V.non) _ _); (with_reducible refine go_notN ?_)))
local macro_rules | `(tactic| tm_at "gC") => `(tactic| first
  | ((guard_target = GC _ _ (Value.type "int") [V.int _] _ _); (with_reducible refine gc_intI ?_))
  | ((guard_target = GC _ _ (Value.type "int") [V.bl _] _ _); (with_reducible refine gc_intB ?_))
  | ((guard_target = GC _ _ (Value.builtin "abs") [V.int _] _ _); (with_reducible refine gc_abs ?_))
  | ((guard_target = GC _ _ (Value.builtin "max") [V.int _, V.int _] _ _); (with_reducible refine gc_max2 ?hc ?_); (case hc => rfl))
  | ((guard_target = GC _ _ (Value.builtin "min") [V.int _, V.int _] _ _); (with_reducible refine gc_min2 ?hc ?_); (case hc => rfl))
  | ((guard_target = GC _ _ (Value.type "range") [V.int _] _ _); (with_reducible refine gc_rng1 ?_))
  | ((guard_target = GC _ _ (Value.type "range") [V.int _, V.int _] _ _); (with_reducible refine gc_rng2 ?_))
  | ((guard_target = GC _ _ (Value.builtin "len") [V.ref _] _ _); (with_reducible refine gc_lenR (by tm_at "sSel") ?_))
  | ((guard_target = GC _ _ (Value.builtin "len") [V.ref _] _ _); (with_reducible refine gc_len (by tm_at "sSel") ?_))
  | ((guard_target = GC _ _ (Value.builtin "len") [V.ref _] _ _); (with_reducible refine gc_lenT (by tm_at "sSel") ?_)))
local macro_rules | `(tactic| tm_at "gF") => `(tactic| first
  | ((guard_target = GF _ _ _ _ _ _); (with_reducible refine gf (by tm_at "sSel") (by tm_at "sLkF") ?hc ?hn ?_); (case hc => assumption); (case hn => assumption))
  | ((guard_target = GFS _ _ _ _ _ _); (with_reducible refine gfs (by tm_at "sRpl") (by tm_at "sPutF") ?hc ?hn ?hz ?_); (case hc => assumption); (case hn => assumption); (case hz => exact Nat.le_of_ble_eq_true rfl))
  | ((guard_target = GFA _ _ _ _ _ _ _ _ _); (with_reducible refine gfa (by tm_at "sSel") (by tm_at "sLkF") ?hc ?hn ?_); (case hc => assumption); (case hn => assumption))
  | ((guard_target = Exists fun _ => Exists fun _ => Exists fun _ => (Rpl _ _ _ _ ∧ _ ∧ _)); (with_reducible refine gfaE (by tm_at "sRpl") (by tm_at "sPutF") ?hz ?_); (case hz => exact Nat.le_of_ble_eq_true rfl))
  | ((guard_target = GAS _ _ _ _ _ _ _ _ _); (with_reducible refine gas (by tm_at "sSel") (by tm_at "sIx") ?_))
  | ((guard_target = (HasL _ _ _ ∧ _)); (with_reducible refine And.intro ?hh ?_); (case hh => tm_at "sHasL"))
  | ((guard_target = (IsIns _ _ _ _ _ ∧ _)); (with_reducible refine And.intro ?hh ?_); (case hh => exact isIns (by tm_at "sSel") (by tm_at "sNoF") (by rfl)))
  | ((guard_target = GApp _ _ _ _ _); (with_reducible refine gapp_pt (by tm_at "sRpl") ?hz ?_); (case hz => tm_at "sZ"))
  | ((guard_target = (List.length _ ≤ PySem.sizeLine ∧ _)); (with_reducible refine And.intro ?hz ?_); (case hz => tm_at "sZ"); intro _)
  | ((guard_target = GIp _ _ Operator.Add (V.int _) (V.int _) _ _); (with_reducible refine gip_add ?_))
  | ((guard_target = GIp _ _ Operator.Sub (V.int _) (V.int _) _ _); (with_reducible refine gip_sub ?_))
  | ((guard_target = GRem _ _ _ _ _); (with_reducible refine grem (by tm_at "sRpl") ?hm ?_); (case hm => assumption))
  | ((guard_target = GO _ _ none _ _ _); (with_reducible refine goN ?_))
  | ((guard_target = GO _ _ (some _) _ _ _); (with_reducible refine goS ?_)))
local macro_rules | `(tactic| tm_at "gIx") => `(tactic| first
  | (with_reducible refine gi_lst (by tm_at "sSel") (by tm_at "sIx") ?_)
  | (with_reducible refine gi_tup (by tm_at "sSel") (by tm_at "sIx") ?_))
local macro_rules | `(tactic| tm_at "gS") => `(tactic| first
  | ((guard_target = GS _ _ (Stmt.Assign [Expr.Name _ _] _ _) _ _ _); (with_reducible refine gs_name (by assumption) (by tm_at "sSlot") (by tm_at "sKd") (by tm_at "sLk") (by tm_at "sLf") ?hsw ?_); (case hsw => rfl))
  | ((guard_target = GS _ _ (Stmt.If _ _ _ _) _ _ _); (with_reducible refine gs_if ?_))
  | ((guard_target = GS _ _ (Stmt.AugAssign (Expr.Name _ _) _ _ _) _ _ _); (with_reducible refine gs_aug (by assumption) (by tm_at "sAt") (by tm_at "sSlot") (by tm_at "sKd") (by tm_at "sLk") (by tm_at "sLf") ?_))
  | ((guard_target = GS _ _ (Stmt.AugAssign (Expr.Attribute _ _ _) _ _ _) _ _ _); (with_reducible refine gs_fldaug ?_))
  | ((guard_target = GS _ _ (Stmt.AugAssign (Expr.Subscript _ _ _) _ _ _) _ _ _); (with_reducible refine gs_augS ?ha ?_); (case ha => intros; rfl))
  | ((guard_target = GS _ _ (Stmt.Return (some _) _) _ _ _); (with_reducible refine gs_ret ?_))
  | ((guard_target = GS _ _ (Stmt.Expr (Expr.Constant _ _ _) _) _ _ _); (with_reducible refine gs_doc ?_))
  | ((guard_target = GS _ _ (Stmt.Expr _ _) _ _ _); (with_reducible refine gs_expr ?hsw ?_); (case hsw => rfl))
  | ((guard_target = GS _ _ (Stmt.Assign [Expr.Attribute _ _ _] _ _) _ _ _); (with_reducible refine gs_fld ?hsw ?_); (case hsw => rfl))
  | ((guard_target = GS _ _ (Stmt.Assign [Expr.Subscript _ _ _] _ _) _ _ _); (with_reducible refine gs_asg ?hsw ?hw ?h1 ?_); (case hsw => rfl); (case hw => rfl); (case h1 => rfl))
  | ((guard_target = GS _ _ (Stmt.Assign [Expr.Tuple _ _ _] _ _) _ _ _); (with_reducible refine gs_asg ?hsw ?hw ?h1 ?_); (case hsw => rfl); (case hw => rfl); (case h1 => rfl))
  | ((guard_target = GS _ _ (Stmt.Return none _) _ _ _); (with_reducible refine gs_retN ?_))
  | ((guard_target = GS _ _ (Stmt.Pass _) _ _ _); (with_reducible refine gs_pass ?_))
  | ((guard_target = GS _ _ (Stmt.Break _) _ _ _); (with_reducible refine gs_break ?_))
  | ((guard_target = GS _ _ (Stmt.Continue _) _ _ _); (with_reducible refine gs_continue ?_)))
local macro_rules | `(tactic| tm_at "gG") => `(tactic| first
  | ((guard_target = GG _ _ (Expr.Name _ _) _ _ _ _); (with_reducible refine gg_name (by assumption) (by tm_at "sSlot") (by tm_at "sKd") (by tm_at "sLk") (by tm_at "sLf") ?_))
  | ((guard_target = GG _ _ (Expr.Subscript _ _ _) _ _ _ _); (with_reducible refine gg_sub ?ha ?_); (case ha => intro _; rfl))
  | ((guard_target = GG _ _ (Expr.Tuple _ _ _) _ _ _ _); (with_reducible refine gg_tup ?hc (by tm_at "sSel") ?hn ?hst ?_); (case hc => rfl); (case hn => rfl); (case hst => rfl)))
local macro_rules | `(tactic| tm_at "g") => `(tactic| first
  | ((guard_target = GE _ _ _ _ _ _); tm_at "gE")
  | ((guard_target = GOp _ _ _ _ _ _ _); tm_at "gOp")
  | ((guard_target = GIx _ _ _ _ _ _); tm_at "gIx")
  | tm_at "gF"
  | ((guard_target = (wipe _ _ = wipe _ _ ∧ _)); refine And.intro rfl ?_)
  | ((guard_target = GGs _ _ [] _ _ _ _); (with_reducible refine ggs_nil ?_))
  | ((guard_target = GGs _ _ (_ :: _) _ _ _ _); (with_reducible refine ggs_cons ?hst ?_); (case hst => rfl))
  | ((guard_target = GTs _ _ [] _ _ _); (with_reducible refine gts_nil ?_))
  | ((guard_target = GTs _ _ [_] _ _ _); (with_reducible refine gts_one ?_))
  | ((guard_target = KB _ _ _); (with_reducible refine KB.mk ?_))
  | ((guard_target = GA _ _ _ _ _ _); tm_at "gA")
  | ((guard_target = GS _ _ _ _ _ _); tm_at "gS")
  | ((guard_target = GSs _ _ (_ :: _) _ _ _); (with_reducible refine gss_cons ?_))
  | ((guard_target = GSs _ _ ([]) _ _ _); (with_reducible refine gss_nil ?_))
  | ((guard_target = GT _ _ _ _ _ _); tm_at "gT")
  | ((guard_target = GB _ _ _ _ _ _); tm_at "gB")
  | ((guard_target = GC _ _ _ _ _ _); tm_at "gC")
  | ((guard_target = GG _ _ _ _ _ _ _); tm_at "gG")
  | ((guard_target = GPutL _ _ _ _ _); (with_reducible refine gput (by tm_at "sRpl") (by tm_at "sPut") ?_))
  | ((guard_target = if true = true then _ else _); (with_reducible refine iteT ?_))
  | ((guard_target = if (!true) = true then _ else _); (with_reducible refine iteNT ?_))
  | ((guard_target = if (!false) = true then _ else _); (with_reducible refine iteNF ?_))
  | ((guard_target = if false = true then _ else _); (with_reducible refine iteF ?_))
  | ((guard_target = Exists _); (with_reducible refine Exists.intro _ (And.intro rfl ?_)))
  | (first | with_reducible refine ite_nI ?_ | with_reducible refine ite_nN ?_ | with_reducible refine ite_nnI ?_ | with_reducible refine ite_nnN ?_ | with_reducible refine ite_nR ?_ | with_reducible refine ite_nnR ?_))
local macro_rules | `(tactic| tm_at "sSetN") => `(tactic| (first | exact SetN.here | (apply SetN.there; tm_at "sSetN")))
local macro_rules | `(tactic| tm_at "sWp") => `(tactic| (first | exact Wp.nil | (apply Wp.cons; (tm_at "sWp"); (tm_at "sSetN"))))
local macro_rules | `(tactic| tm_at "fits") => `(tactic| (first | apply Fits.mk | apply FitL.mk))
local macro_rules | `(tactic| tm_at "ent") => `(tactic| (apply Fit.ent; tm_at "fit"))
local macro_rules | `(tactic| tm_at "go") => `(tactic| repeat (tm_at "g"))
local macro_rules | `(tactic| tm_at "gs") => `(tactic| repeat ((fail_if_success (guard_target = GSs _ _ (_ :: _) _ _ _)); tm_at "g"))
local macro_rules | `(tactic| tm_at "if") => `(tactic| first
  | (with_reducible refine ite_ndec (fun _ => ?_) (fun _ => ?_))
  | (with_reducible refine ite_dec (fun _ => ?_) (fun _ => ?_))
  | (with_reducible refine ite_nb (fun _ => ?_) (fun _ => ?_))
  | (with_reducible refine ite_b (fun _ => ?_) (fun _ => ?_)))
local macro_rules | `(tactic| tm_at "fit") => `(tactic| (guard_target = Fit _ (CpsR _ _ _ _ :: _); (first | ((with_reducible apply Fit.find); (case s => tm_at "sSelC"); (case t => tm_at "fit")) | ((with_reducible apply cps_want); (case f => tm_at "fit"); (case e => first | rfl | (simp only [vLd]; done) | (simp [raise_ld, vLd, *]; done))))))
local macro_rules | `(tactic| tm_at "fit") => `(tactic| (guard_target = Fit _ (RestP _ _ _ [] :: _); (first | ((with_reducible apply Fit.find); (case s => tm_at "sSelC"); (case t => tm_at "fit")) | ((with_reducible apply rest_want); (case hk => assumption); (case f => tm_at "fit")) | ((with_reducible apply rest_back); (case s => tm_at "sSel"); (case hk => assumption); (case f => tm_at "fit")))))
local macro_rules | `(tactic| tm_at "gEMeth") => `(tactic| (guard_target = GE _ _ (Expr.Call (Expr.Attribute _ "last_mark" _) [] _ _) _ _ _; (refine ge_meth0 (MeAt.e (C := "Copy") (m := "last_mark") (by assumption)) (by tm_at "sRoom") (by tm_at "sXok") ?ht ?_); (case ht => exact ⟨_, rfl⟩)))
local macro_rules | `(tactic| tm_at "gEMeth") => `(tactic| (guard_target = GE _ _ (Expr.Call (Expr.Attribute _ "raise_high" _) [] _ _) _ _ _; (refine ge_meth0 (MeAt.e (C := "Copies") (m := "raise_high") (by assumption)) (by tm_at "sRoom") (by tm_at "sXok") ?ht ?_); (case ht => exact ⟨_, rfl⟩)))
local macro_rules | `(tactic| tm_at "gEMeth") => `(tactic| (guard_target = GE _ _ (Expr.Call (Expr.Attribute _ "sure" _) [] _ _) _ _ _; (refine ge_meth0 (MeAt.e (C := "Copies") (m := "sure") (by assumption)) (by tm_at "sRoom") (by tm_at "sXok") ?ht ?_); (case ht => exact ⟨_, rfl⟩)))
local macro_rules | `(tactic| tm_at "gEMeth") => `(tactic| (guard_target = GE _ _ (Expr.Call (Expr.Attribute _ "alike" _) [] _ _) _ _ _; (refine ge_meth0 (MeAt.e (C := "Copies") (m := "alike") (by assumption)) (by tm_at "sRoom") (by tm_at "sXok") ?ht ?_); (case ht => exact ⟨_, rfl⟩)))
local macro_rules | `(tactic| tm_at "gEMeth") => `(tactic| (guard_target = GE _ _ (Expr.Call (Expr.Attribute _ "turn_end" _) (_ :: _) _ _) _ _ _; (refine ge_meth (MeAt.e (C := "Copy") (m := "turn_end") (by assumption)) (by tm_at "sRoom") (by tm_at "sXok") ?hst ?hpl ?ht ?_); (case hst => rfl); (case hpl => rfl); (case ht => exact ⟨_, rfl⟩)))
local macro_rules | `(tactic| tm_at "gEMeth") => `(tactic| (guard_target = GE _ _ (Expr.Call (Expr.Attribute _ "agree" _) (_ :: _) _ _) _ _ _; (refine ge_meth (MeAt.e (C := "Copies") (m := "agree") (by assumption)) (by tm_at "sRoom") (by tm_at "sXok") ?hst ?hpl ?ht ?_); (case hst => rfl); (case hpl => rfl); (case ht => exact ⟨_, rfl⟩)))
local macro_rules | `(tactic| tm_at "gEMeth") => `(tactic| (guard_target = GE _ _ (Expr.Call (Expr.Attribute _ "give" _) (_ :: _) _ _) _ _ _; (refine ge_meth (MeAt.e (C := "Copies") (m := "give") (by assumption)) (by tm_at "sRoom") (by tm_at "sXok") ?hst ?hpl ?ht ?_); (case hst => rfl); (case hpl => rfl); (case ht => exact ⟨_, rfl⟩)))
local macro_rules | `(tactic| tm_at "gEMeth") => `(tactic| (guard_target = GE _ _ (Expr.Call (Expr.Attribute _ "ask" _) (_ :: _) _ _) _ _ _; (refine ge_meth (MeAt.e (C := "Copies") (m := "ask") (by assumption)) (by tm_at "sRoom") (by tm_at "sXok") ?hst ?hpl ?ht ?_); (case hst => rfl); (case hpl => rfl); (case ht => exact ⟨_, rfl⟩)))
local macro_rules | `(tactic| tm_at "gEMeth") => `(tactic| (guard_target = GE _ _ (Expr.Call (Expr.Attribute _ "down" _) (_ :: _) _ _) _ _ _; (refine ge_meth (MeAt.e (C := "Copies") (m := "down") (by assumption)) (by tm_at "sRoom") (by tm_at "sXok") ?hst ?hpl ?ht ?_); (case hst => rfl); (case hpl => rfl); (case ht => exact ⟨_, rfl⟩)))
local macro_rules | `(tactic| tm_at "gEMeth") => `(tactic| (guard_target = GE _ _ (Expr.Call (Expr.Attribute _ "up_again" _) (_ :: _) _ _) _ _ _; (refine ge_meth (MeAt.e (C := "Copies") (m := "up_again") (by assumption)) (by tm_at "sRoom") (by tm_at "sXok") ?hst ?hpl ?ht ?_); (case hst => rfl); (case hpl => rfl); (case ht => exact ⟨_, rfl⟩)))
local macro_rules | `(tactic| tm_at "gEMeth") => `(tactic| (guard_target = GE _ _ (Expr.Call (Expr.Attribute _ "lead" _) (_ :: _) _ _) _ _ _; (refine ge_meth (MeAt.e (C := "Copies") (m := "lead") (by assumption)) (by tm_at "sRoom") (by tm_at "sXok") ?hst ?hpl ?ht ?_); (case hst => rfl); (case hpl => rfl); (case ht => exact ⟨_, rfl⟩)))
local macro_rules | `(tactic| tm_at "gEMeth") => `(tactic| (guard_target = GE _ _ (Expr.Call (Expr.Attribute _ "give_as" _) (_ :: _) _ _) _ _ _; (refine ge_meth (MeAt.e (C := "Copies") (m := "give_as") (by assumption)) (by tm_at "sRoom") (by tm_at "sXok") ?hst ?hpl ?ht ?_); (case hst => rfl); (case hpl => rfl); (case ht => exact ⟨_, rfl⟩)))
local macro_rules | `(tactic| tm_at "gEMeth") => `(tactic| (guard_target = GE _ _ (Expr.Call (Expr.Attribute _ "lag" _) (_ :: _) _ _) _ _ _; (refine ge_meth (MeAt.e (C := "Copies") (m := "lag") (by assumption)) (by tm_at "sRoom") (by tm_at "sXok") ?hst ?hpl ?ht ?_); (case hst => rfl); (case hpl => rfl); (case ht => exact ⟨_, rfl⟩)))
local macro_rules | `(tactic| tm_at "sIx") => `(tactic| exact at3 (by assumption))
local macro_rules | `(tactic| tm_at "sPut") => `(tactic| (first | exact put3 (g := V.int) (by assumption) | exact put3 (g := V.bl) (by assumption)))
local macro_rules | `(tactic| tm_at "gF") => `(tactic| ((guard_target = (IsIns _ _ _ _ _ ∧ _)); (with_reducible refine And.intro ?hh ?_); (case hh => exact ins_cps (by tm_at "sSel") (fun _ _ _ _ _ _ _ _ => by tm_at "sNoF"))))
theorem raise_rs {S : CS} {l i : Nat} : ((raise S l).c i).rs = (S.c i).rs := by
  unfold raise raiseC
  show (fset S.c l _ i).rs = _
  by_cases h : i = l
  · subst h; rw [fset_same]
  · rw [fset_ne h]
theorem Wf.raise {S : CS} {l : Nat} (w : Wf S) : Wf (raise S l) := ⟨w.wl, w.ld, fun i hi => by rw [raise_rs]; exact w.len i hi, w.wlz, w.nd⟩
section
variable {T : List (Addr × Str)} {P : Program} {w : World} {Kf : PySem.W.Frag} {mg : Str → Option Value} {base : Heap} {f : Addr} {fd : FuncData}
theorem call_rh {o : Addr} {a : Nat → Addr} {S : CS} {l : Nat} {L R : List SA} {K : GK} {kx : KX} (e : Ent T L (CpsR Kf o a S :: R)) (hl : S.leader = some l) (wf : Wf S) (k : K .non (CpsR Kf o a (raise S l) :: R)) : spE T (spRH Kf) [.ref o] L K kx := CallS.mk ⟨o, a, S, l, R, rfl, rfl, hl, wf, k⟩ e
abbrev ND (Kf : PySem.W.Frag) : Value := .ref (He.ga Kf "NotDue")
def spGive (Kf : PySem.W.Frag) : SpL := fun vs L K kx => ∃ (o : Addr) (a : Nat → Addr) (S : CS) (what : Str) (R : List SA), vs = [.ref o, .str what] ∧ L = CpsR Kf o a S :: R ∧ Wf S ∧ (∀ i, i < 3 → (S.c i).rs.length < 1000) ∧ strGood what ∧
  (∀ l, S.leader = some l → ¬ ((S.wl.length : Nat) : Int) < S.least → K (.int ((S.c l).rs.length : Nat)) (CpsR Kf o a (giveP S l what) :: R)) ∧
  (S.leader = none ∨ ((S.wl.length : Nat) : Int) < S.least → kx (ND Kf) none (CpsR Kf o a S :: R))
theorem ok_give (fx : Fx Kf mg) (hlm : MeAt T P w Kf mg base 1 "Copy" "last_mark" (spLM Kf)) (hrh : MeAt T P w Kf mg base 2 "Copies" "raise_high" (spRH Kf)) (F : FunD Kf "give" "Copies.give" (defArgs s_Copies_give) (defBody s_Copies_give) (defScope s_Copies_give) [] [] f fd) : FnOk P w Kf mg base (L2.CX P w) 3 f fd ["self", "what"] (spOf T (spGive Kf)) := by
  refine def_in F sc_Copies_give (fun vs L K kx h => ?_) (fun A outer s H E hr n vs L KK kx h hx σ hσ => ?_)
  · obtain ⟨o, a, S, l, R, rfl, _⟩ := h; rfl
  · obtain ⟨o, a, S, what, R, rfl, rfl, wf, hz, hw, k, kn⟩ := h
    obtain rfl : σ = [some (.ref o), some (.str what), none] := hσ
    cases fx
    cases hld : S.leader with
    | none =>
      refine cps_in (v := .non) (by tm_at "sSel") (by rw [hld]; rfl) fun dc lc lu lw lk lj => ?_
      refine gss_cons ?_
      tm_at "go"
      refine gs_raise n (by tm_at "sKd") rfl (by assumption) hx rfl ?_
      apply Clo.mk (kn (.inl hld))
      tm_at "ent"
    | some l =>
      obtain ⟨hl, hlw⟩ := wf.ld l hld
      refine cps_in (v := .int (l : Int)) (by tm_at "sSel") (by rw [hld]; rfl) fun dc lc lu lw lk lj => ?_
      refine gss_cons ?_
      tm_at "go"
      tm_at "if"
      · rename_i hc
        rw [List.length_map] at hc
        tm_at "go"
        refine gs_raise n (by tm_at "sKd") rfl (by assumption) hx rfl ?_
        apply Clo.mk (kn (.inr hc))
        tm_at "ent"
      · rename_i hc
        rw [List.length_map] at hc
        refine foc_in hl (by tm_at "sSel") fun dx r => ?_
        tm_at "go"
        refine gapp_R (d := (S.turn, what)) (by tm_at "sRpl") ?_ (rv_pair (by tm_at "sSel") rv_int (rv_str hw)) ?_
        · have := hz l hl; rw [sizeLine_eq]; omega
        tm_at "go"
        refine call_lm (c := { S.c l with rs := (S.c l).rs ++ [(S.turn, what)] }) (by tm_at "ent") ?_
        tm_at "go"
        refine call_rh (S := { S with c := fset S.c l { S.c l with rs := (S.c l).rs ++ [(S.turn, what)] }, known := fset S.known l (((S.c l).rs ++ [(S.turn, what)]).length : Nat) }) (l := l) (by tm_at "ent") hld ?_ ?_
        · refine ⟨wf.wl, wf.ld, fun i hi => ?_, wf.wlz, wf.nd⟩
          by_cases hil : i = l
          · subst hil
            show (fset S.c i _ i).rs.length ≤ 1000
            rw [fset_same]; have := hz i hi; simp; omega
          · show (fset S.c l _ i).rs.length ≤ 1000
            rw [fset_ne hil]; exact wf.len i hi
        refine cps_in (v := .int (l : Int)) (by tm_at "sSel") (by rw [raise_ld]; show vLd S.leader = _; rw [hld]; rfl) fun dc lc lu lw lk lj => ?_
        refine foc_in hl (by tm_at "sSel") fun dx r => ?_
        tm_at "go"
        refine call_lm (by tm_at "ent") ?_
        tm_at "go"
        have e : (((giveP S l what).c l).rs.length : Int) - 1 = ((S.c l).rs.length : Nat) := by
          unfold giveP
          rw [raise_rs]
          show ((fset S.c l _ l).rs.length : Int) - 1 = _
          rw [fset_same]; simp
        have hk := k l hld hc
        rw [← e] at hk
        apply Clo.mk hk
        show Ent T _ (CpsR Kf o a (raise _ l) :: R)
        tm_at "ent"
end
end K04
set_option Elab.async false
set_option linter.all false
set_option maxRecDepth 100000
set_option pp.deepTerms false
set_option pp.deepTerms.threshold 10
set_option pp.maxSteps 1500
namespace K04
open PySem PySem.Spec L2 SW
open PyProof.Rows hiding St
local macro_rules | `(tactic| tm_at "sAt") => `(tactic| with_reducible (first | exact At.here | (apply At.there; tm_at "sAt")))
local macro_rules | `(tactic| tm_at "sSlot") => `(tactic| with_reducible (first | exact Slot.here | (apply Slot.there; tm_at "sSlot")))
local macro_rules | `(tactic| tm_at "sKd") => `(tactic| with_reducible (first | exact Kd.here | (apply Kd.there; tm_at "sKd")))
local macro_rules | `(tactic| tm_at "sSel") => `(tactic| with_reducible (first | exact Sel.here | (apply Sel.there; tm_at "sSel")))
local macro_rules | `(tactic| tm_at "sRpl") => `(tactic| with_reducible (first | exact Rpl.here | (apply Rpl.there; tm_at "sRpl")))
local macro_rules | `(tactic| tm_at "sTk") => `(tactic| (first | exact Tk.nil | (apply Tk.cons; (tm_at "sSel"); (tm_at "sTk"))))
local macro_rules | `(tactic| tm_at "sVk") => `(tactic| first
  | exact Vk.l
  | exact Vk.c
  | exact Vk.f)
local macro_rules | `(tactic| tm_at "sLk") => `(tactic| first
  | exact Lk.l
  | exact Lk.c)
local macro_rules | `(tactic| tm_at "sLf") => `(tactic| first
  | exact Or.inl rfl
  | exact Or.inr rfl)
local macro_rules | `(tactic| tm_at "sRoom") => `(tactic| first
  | assumption
  | exact L2.Room.mono (by assumption) (by decide))
local macro_rules | `(tactic| tm_at "sXok") => `(tactic| first
  | assumption
  | exact xok0)
local macro_rules | `(tactic| tm_at "sCv") => `(tactic| (first | with_reducible exact Cv.id | with_reducible exact Cv.lst0 | ((with_reducible refine Cv.pt ?_); tm_at "sEq") | ((with_reducible refine Cv.lst ?_); tm_at "sEq") | ((with_reducible refine Cv.val ?_); tm_at "sEq")))
local macro_rules | `(tactic| tm_at "sEq") => `(tactic| (first | rfl | assumption | (simp; done)))
local macro_rules | `(tactic| tm_at "sSelC") => `(tactic| (first | ((with_reducible apply SelC.here); tm_at "sCv") | ((with_reducible apply SelC.there); tm_at "sSelC")))
local macro_rules | `(tactic| tm_at "fit") => `(tactic| (first | with_reducible exact Fit.refl | with_reducible exact Fit.nil | ((with_reducible apply Fit.find); (case s => tm_at "sSelC"); (case t => tm_at "fit")) | ((with_reducible apply Fit.drop); tm_at "fit")))
local macro_rules | `(tactic| tm_at "sLkF") => `(tactic| with_reducible (first | exact LkF.here | (apply LkF.there (by with_unfolding_all rfl); tm_at "sLkF")))
local macro_rules | `(tactic| tm_at "sNoF") => `(tactic| with_reducible (first | exact NoF.nil | (apply NoF.cons (by with_unfolding_all rfl); tm_at "sNoF")))
local macro_rules | `(tactic| tm_at "sPutF") => `(tactic| with_reducible (first | exact PutF.here | exact PutF.nil | (apply PutF.there (by with_unfolding_all rfl); tm_at "sPutF")))
local macro_rules | `(tactic| tm_at "sHasL") => `(tactic| (first | exact hasL_pt (by tm_at "sSel") | exact hasL_R (by tm_at "sSel")))
local macro_rules | `(tactic| tm_at "sZ") => `(tactic| (first | assumption | (simp only [List.length_cons, List.length_nil, List.length_append, PySem.sizeLine_eq]; omega) | (rw [PySem.sizeLine_eq]; simp; done)))
local macro_rules | `(tactic| tm_at "sIx") => `(tactic| with_unfolding_all rfl)
local macro_rules | `(tactic| tm_at "sSet") => `(tactic| (first | exact SetR.here | (apply SetR.there; tm_at "sSet")))
local macro_rules | `(tactic| tm_at "sPut") => `(tactic| first
  | exact PutAt.c 0 (by with_unfolding_all rfl) (by tm_at "sSet")
  | exact PutAt.c 1 (by with_unfolding_all rfl) (by tm_at "sSet")
  | exact PutAt.c 2 (by with_unfolding_all rfl) (by tm_at "sSet")
  | exact PutAt.c 3 (by with_unfolding_all rfl) (by tm_at "sSet")
  | exact PutAt.c 4 (by with_unfolding_all rfl) (by tm_at "sSet")
  | exact PutAt.c 5 (by with_unfolding_all rfl) (by tm_at "sSet"))
local macro_rules | `(tactic| tm_at "gECall") => `(tactic| first
  | ((guard_target = GE _ _ (Expr.Call (Expr.Name "len" _) _ _ _) _ _ _); (with_reducible refine gb_len (by assumption) (by tm_at "sKd") ?hm ?he ?hpl ?_); (case hm => assumption); (case he => rfl); (case hpl => rfl))
  | ((guard_target = GE _ _ (Expr.Call (Expr.Name "int" _) _ _ _) _ _ _); (with_reducible refine gb_int (by assumption) (by tm_at "sKd") ?hm ?he ?hpl ?_); (case hm => assumption); (case he => rfl); (case hpl => rfl))
  | ((guard_target = GE _ _ (Expr.Call (Expr.Name "str" _) _ _ _) _ _ _); (with_reducible refine gb_str (by assumption) (by tm_at "sKd") ?hm ?he ?hpl ?_); (case hm => assumption); (case he => rfl); (case hpl => rfl))
  | ((guard_target = GE _ _ (Expr.Call (Expr.Name "list" _) _ _ _) _ _ _); (with_reducible refine gb_list (by assumption) (by tm_at "sKd") ?hm ?he ?hpl ?_); (case hm => assumption); (case he => rfl); (case hpl => rfl))
  | ((guard_target = GE _ _ (Expr.Call (Expr.Name "tuple" _) _ _ _) _ _ _); (with_reducible refine gb_tuple (by assumption) (by tm_at "sKd") ?hm ?he ?hpl ?_); (case hm => assumption); (case he => rfl); (case hpl => rfl))
  | ((guard_target = GE _ _ (Expr.Call (Expr.Name "min" _) _ _ _) _ _ _); (with_reducible refine gb_min (by assumption) (by tm_at "sKd") ?hm ?he ?hpl ?_); (case hm => assumption); (case he => rfl); (case hpl => rfl))
  | ((guard_target = GE _ _ (Expr.Call (Expr.Name "max" _) _ _ _) _ _ _); (with_reducible refine gb_max (by assumption) (by tm_at "sKd") ?hm ?he ?hpl ?_); (case hm => assumption); (case he => rfl); (case hpl => rfl))
  | ((guard_target = GE _ _ (Expr.Call (Expr.Name "sum" _) _ _ _) _ _ _); (with_reducible refine gb_sum (by assumption) (by tm_at "sKd") ?hm ?he ?hpl ?_); (case hm => assumption); (case he => rfl); (case hpl => rfl))
  | ((guard_target = GE _ _ (Expr.Call (Expr.Name "sorted" _) _ _ _) _ _ _); (with_reducible refine gb_sorted (by assumption) (by tm_at "sKd") ?hm ?he ?hpl ?_); (case hm => assumption); (case he => rfl); (case hpl => rfl))
  | ((guard_target = GE _ _ (Expr.Call (Expr.Name "abs" _) _ _ _) _ _ _); (with_reducible refine gb_abs (by assumption) (by tm_at "sKd") ?hm ?he ?hpl ?_); (case hm => assumption); (case he => rfl); (case hpl => rfl))
  | ((guard_target = GE _ _ (Expr.Call (Expr.Name "range" _) _ _ _) _ _ _); (with_reducible refine gb_range (by assumption) (by tm_at "sKd") ?hm ?he ?hpl ?_); (case hm => assumption); (case he => rfl); (case hpl => rfl))
  | ((guard_target = GE _ _ (Expr.Call (Expr.Name "any" _) _ _ _) _ _ _); (with_reducible refine gb_any (by assumption) (by tm_at "sKd") ?hm ?he ?hpl ?_); (case hm => assumption); (case he => rfl); (case hpl => rfl))
  | ((guard_target = GE _ _ (Expr.Call (Expr.Name "all" _) _ _ _) _ _ _); (with_reducible refine gb_all (by assumption) (by tm_at "sKd") ?hm ?he ?hpl ?_); (case hm => assumption); (case he => rfl); (case hpl => rfl))
  | ((guard_target = GE _ _ (Expr.Call (Expr.Name "dict" _) _ _ _) _ _ _); (with_reducible refine gb_dict (by assumption) (by tm_at "sKd") ?hm ?he ?hpl ?_); (case hm => assumption); (case he => rfl); (case hpl => rfl))
  | ((guard_target = GE _ _ (Expr.Call (Expr.Name "set" _) _ _ _) _ _ _); (with_reducible refine gb_set (by assumption) (by tm_at "sKd") ?hm ?he ?hpl ?_); (case hm => assumption); (case he => rfl); (case hpl => rfl)))
local macro_rules | `(tactic| tm_at "gECall") => `(tactic| (guard_target = GE _ _ (Expr.Call (Expr.Name "_law_roll" _) (_ :: _) [] _) _ _ _; (refine ge_call (FnAt.e (x := "_law_roll") (by assumption)) (by tm_at "sRoom") (by tm_at "sXok") (Nm.gl (by assumption) (by tm_at "sKd")) ?hdb ?he ?hpl ?_); (case hdb => rfl); (case he => rfl); (case hpl => rfl)))
local macro_rules | `(tactic| tm_at "gECall") => `(tactic| (guard_target = GE _ _ (Expr.Call (Expr.Name "_law_dice" _) (_ :: _) [] _) _ _ _; (refine ge_call (FnAt.e (x := "_law_dice") (by assumption)) (by tm_at "sRoom") (by tm_at "sXok") (Nm.gl (by assumption) (by tm_at "sKd")) ?hdb ?he ?hpl ?_); (case hdb => rfl); (case he => rfl); (case hpl => rfl)))
local macro_rules | `(tactic| tm_at "gECall") => `(tactic| (guard_target = GE _ _ (Expr.Call (Expr.Name "_law_rounds" _) (_ :: _) [] _) _ _ _; (refine ge_call (FnAt.e (x := "_law_rounds") (by assumption)) (by tm_at "sRoom") (by tm_at "sXok") (Nm.gl (by assumption) (by tm_at "sKd")) ?hdb ?he ?hpl ?_); (case hdb => rfl); (case he => rfl); (case hpl => rfl)))
local macro_rules | `(tactic| tm_at "gECall") => `(tactic| (guard_target = GE _ _ (Expr.Call (Expr.Name "_law_deed" _) (_ :: _) [] _) _ _ _; (refine ge_call (FnAt.e (x := "_law_deed") (by assumption)) (by tm_at "sRoom") (by tm_at "sXok") (Nm.gl (by assumption) (by tm_at "sKd")) ?hdb ?he ?hpl ?_); (case hdb => rfl); (case he => rfl); (case hpl => rfl)))
local macro_rules | `(tactic| tm_at "gE") => `(tactic| first
  | ((guard_target = GE _ _ (Expr.Name _ _) _ _ _); (with_reducible refine ge_name (by assumption) (by tm_at "sAt") (by tm_at "sKd") (by tm_at "sVk") rfl ?_))
  | ((guard_target = GE _ _ (Expr.Constant (Const.int _) _ _) _ _ _); (with_reducible refine ge_int ?_))
  | ((guard_target = GE _ _ (Expr.Attribute _ _ _) _ _ _); (with_reducible refine ge_fld ?hb ?_); (case hb => rfl))
  | ((guard_target = GE _ _ (Expr.Subscript _ (Expr.Slice _ _ none _) _) _ _ _); (with_reducible refine ge_slice ?_))
  | ((guard_target = GE _ _ (Expr.Call (Expr.Attribute _ _ _) _ _ _) _ _ _); tm_at "gEMeth")
  | ((guard_target = GE _ _ (Expr.Subscript _ _ _) _ _ _); (with_reducible refine ge_sub ?hs ?_); (case hs => exact fun _ _ => rfl))
  | ((guard_target = GE _ _ (Expr.BinOp _ _ _ _) _ _ _); (with_reducible refine ge_bin ?_))
  | ((guard_target = GE _ _ (Expr.Constant (Const.str _) _ _) _ _ _); (with_reducible refine ge_str ?_))
  | ((guard_target = GE _ _ (Expr.Call (Expr.Name _ _) _ _ _) _ _ _); tm_at "gECall")
  | ((guard_target = GE _ _ (Expr.List _ _) _ _ _); (with_reducible refine ge_lst ?_))
  | ((guard_target = GE _ _ (Expr.Tuple _ _ _) _ _ _); (with_reducible refine ge_tup ?_))
  | ((guard_target = GE _ _ (Expr.Constant Const.none _ _) _ _ _); (with_reducible refine ge_none ?_))
  | ((guard_target = GE _ _ (Expr.Constant (Const.bool _) _ _) _ _ _); (with_reducible refine ge_bl ?_))
  | ((guard_target = GE _ _ (Expr.Compare _ [_] [_] _) _ _ _); (with_reducible refine ge_cmp ?hm ?_); (case hm => first | exact nomark _ | rfl))
  | ((guard_target = GE _ _ (Expr.UnaryOp UnaryOp.Not _ _) _ _ _); (with_reducible refine ge_not ?_))
  | ((guard_target = GE _ _ (Expr.UnaryOp _ _ _) _ _ _); (with_reducible refine ge_un ?_))
  | ((guard_target = GE _ _ (Expr.IfExp _ _ _ _) _ _ _); (with_reducible refine ge_if ?_))
  | ((guard_target = GE _ _ (Expr.Compare _ [_, _] [_, _] _) _ _ _); (with_reducible refine ge_chain ?hm ?_); (case hm => with_unfolding_all rfl))
  | ((guard_target = GE _ _ (Expr.BoolOp _ [_] _) _ _ _); (with_reducible refine ge_one ?_))
  | ((guard_target = GE _ _ (Expr.BoolOp BoolOp.And _ _) _ _ _); (with_reducible refine ge_and ?_))
  | ((guard_target = GE _ _ (Expr.BoolOp BoolOp.Or _ _) _ _ _); (with_reducible refine ge_or ?_)))
local macro_rules | `(tactic| tm_at "gEMeth") => `(tactic| first
  | ((guard_target = GE _ _ (Expr.Call (Expr.Attribute _ "append" _) [_] [] _) _ _ _); (with_reducible refine ge_append ?h1 ?h2 ?h3 ?h4 ?h5 ?_); (case h1 => rfl); (case h2 => rfl); (case h3 => rfl); (case h4 => rfl); (case h5 => rfl))
  | ((guard_target = GE _ _ (Expr.Call (Expr.Attribute _ "extend" _) [_] [] _) _ _ _); (with_reducible refine ge_extend ?h1 ?h2 ?h3 ?h4 ?h5 ?_); (case h1 => rfl); (case h2 => rfl); (case h3 => rfl); (case h4 => rfl); (case h5 => rfl))
  | ((guard_target = GE _ _ (Expr.Call (Expr.Attribute _ "remove" _) [_] [] _) _ _ _); (with_reducible refine ge_remove ?h1 ?h2 ?h3 ?h4 ?h5 ?_); (case h1 => rfl); (case h2 => rfl); (case h3 => rfl); (case h4 => rfl); (case h5 => rfl))
  | ((guard_target = GE _ _ (Expr.Call (Expr.Attribute _ "pop" _) [_] [] _) _ _ _); (with_reducible refine ge_popAt ?h1 ?h2 ?h3 ?h4 ?h5 ?_); (case h1 => rfl); (case h2 => rfl); (case h3 => rfl); (case h4 => rfl); (case h5 => rfl)))
local macro_rules | `(tactic| tm_at "gT") => `(tactic| first
  | ((guard_target = GT _ _ (Expr.Compare _ [_] [_] _) _ _ _); (with_reducible refine gt_cmp ?hm ?_); (case hm => first | exact nomark _ | rfl))
  | ((guard_target = GT _ _ (Expr.UnaryOp UnaryOp.Not _ _) _ _ _); (with_reducible refine gt_not ?_))
  | ((guard_target = GT _ _ (Expr.BoolOp _ _ _) _ _ _); (with_reducible refine gt_bool ?_))
  | ((guard_target = GT _ _ (Expr.Compare _ [_, _] [_, _] _) _ _ _); (with_reducible refine gt_chain ?hm ?_); (case hm => with_unfolding_all rfl))
  | ((guard_target = GT _ _ (Expr.Call _ _ _ _) _ _ _); (with_reducible refine gt_val ?he ?_); (case he => intro _; rfl))
  | ((guard_target = GT _ _ (Expr.Subscript _ _ _) _ _ _); (with_reducible refine gt_val ?he ?_); (case he => intro _; rfl))
  | ((guard_target = GT _ _ (Expr.Name _ _) _ _ _); (with_reducible refine gt_val ?he ?_); (case he => intro _; rfl))
  | ((guard_target = GT _ _ (Expr.Attribute _ _ _) _ _ _); (with_reducible refine gt_val ?he ?_); (case he => intro _; rfl)))
local macro_rules | `(tactic| tm_at "gB") => `(tactic| first
  | ((guard_target = GB _ _ (Expr.BoolOp BoolOp.And [_] _) _ _ _); (with_reducible refine gb_and1 ?_))
  | ((guard_target = GB _ _ (Expr.BoolOp BoolOp.Or [_] _) _ _ _); (with_reducible refine gb_or1 ?_))
  | ((guard_target = GB _ _ (Expr.BoolOp BoolOp.And _ _) _ _ _); (with_reducible refine gb_and ?_))
  | ((guard_target = GB _ _ (Expr.BoolOp BoolOp.Or _ _) _ _ _); (with_reducible refine gb_or ?_)))
local macro_rules | `(tactic| tm_at "gA") => `(tactic| first
  | ((guard_target = GA _ _ ([]) _ _ _); (with_reducible refine ga_nil ?_))
  | ((guard_target = GA _ _ (_ :: _) _ _ _); (with_reducible refine ga_cons ?hst ?_); (case hst => rfl)))
local macro_rules | `(tactic| tm_at "gOp") => `(tactic| first
  | ((guard_target = GOp _ _ (binaryOp Operator.Add) (V.int _) (V.int _) _ _); (with_reducible refine go_add ?_))
  | ((guard_target = GOp _ _ (binaryOp Operator.Sub) (V.int _) (V.int _) _ _); (with_reducible refine go_sub ?_))
  | ((guard_target = GOp _ _ (compareOp CmpOp.Eq) (V.int _) (V.int _) _ _); (with_reducible refine go_eqI ?_))
  | ((guard_target = GOp _ _ (compareOp CmpOp.Lt) (V.int _) (V.int _) _ _); (with_reducible refine go_lt ?_))
  | ((guard_target = GOp _ _ (compareOp CmpOp.LtE) (V.int _) (V.int _) _ _); (with_reducible refine go_le ?_))
  | ((guard_target = GOp _ _ (compareOp CmpOp.Gt) (V.int _) (V.int _) _ _); (with_reducible refine go_gt ?_))
  | ((guard_target = GOp _ _ (compareOp CmpOp.GtE) (V.int _) (V.int _) _ _); (with_reducible refine go_ge ?_))
  | ((guard_target = GOp _ _ (compareOp CmpOp.NotEq) (V.int _) (V.int _) _ _); (with_reducible refine go_neI ?_))
  | ((guard_target = GOp _ _ (binaryOp Operator.Mult) (V.int _) (V.int _) _ _); (with_reducible refine go_mul ?c ?_); (case c => first | (left; constructor <;> omega) | (right; constructor <;> omega)))
  | ((guard_target = GOp _ _ (binaryOp Operator.FloorDiv) (V.int _) (V.int _) _ _); (with_reducible refine go_div ?c ?_); (case c => constructor <;> omega))
  | ((guard_target = GOp _ _ (binaryOp Operator.Mod) (V.int _) (V.int _) _ _); (with_reducible refine go_mod ?c ?_); (case c => omega))
  | ((guard_target = GOp _ _ (compareOp CmpOp.Eq) (V.str _) (V.str _) _ _); (with_reducible refine go_eqT ?_))
  | ((guard_target = GOp _ _ (compareOp CmpOp.NotEq) (V.str _) (V.str _) _ _); (with_reducible refine go_neT ?_))
  | ((guard_target = GOp _ _ (compareOp CmpOp.Eq) (V.bl _) (V.bl _) _ _); (with_reducible refine go_eqB ?_))
  | ((guard_target = GOp _ _ (compareOp CmpOp.NotEq) (V.bl _) (V.bl _) _ _); (with_reducible refine go_neB ?_))
  | ((guard_target = GOp _ _ (compareOp CmpOp.In) (V.int _) (V.ref _) _ _); (with_reducible refine go_inI (by tm_at "sSel") ?_))
  | ((guard_target = GOp _ _ (compareOp CmpOp.NotIn) (V.int _) (V.ref _) _ _); (with_reducible refine go_ninI (by tm_at "sSel") ?_))
  | ((guard_target = GOp _ _ (compareOp CmpOp.In) (V.str _) (V.ref _) _ _); (with_reducible refine go_inT (by tm_at "sSel") ?_))
  | ((guard_target = GOp _ _ (compareOp CmpOp.NotIn) (V.str _) (V.ref _) _ _); (with_reducible refine go_ninT (by tm_at "sSel") ?_))
  | ((guard_target = GOp _ _ (compareOp CmpOp.Eq) (_) (V.non) _ _); (with_reducible refine go_eqS rfl ?_))
  | ((guard_target = GOp _ _ (compareOp CmpOp.NotEq) (_) (V.non) _ _); (with_reducible refine go_neS rfl ?_))
  | ((guard_target = GOp _ _ (compareOp CmpOp.Is) (_) (V.non) _ _); (with_reducible refine go_isN ?_))
  | ((guard_target = GOp _ _ (compareOp CmpOp.IsNot) (_) (V.non) _ _); (with_reducible refine go_notN ?_)))
local macro_rules | `(tactic| tm_at "gC") => `(tactic| first
  | ((guard_target = GC _ _ (Value.type "int") [V.int _] _ _); (with_reducible refine gc_intI ?_))
  | ((guard_target = GC _ _ (Value.type "int") [V.bl _] _ _); (with_reducible refine gc_intB ?_))
  | ((guard_target = GC _ _ (Value.builtin "abs") [V.int _] _ _); (with_reducible refine gc_abs ?_))
  | ((guard_target = GC _ _ (Value.builtin "max") [V.int _, V.int _] _ _); (with_reducible refine gc_max2 ?hc ?_); (case hc => rfl))
  | ((guard_target = GC _ _ (Value.builtin "min") [V.int _, V.int _] _ _); (with_reducible refine gc_min2 ?hc ?_); (case hc => rfl))
  | ((guard_target = GC _ _ (Value.type "range") [V.int _] _ _); (with_reducible refine gc_rng1 ?_))
  | ((guard_target = GC _ _ (Value.type "range") [V.int _, V.int _] _ _); (with_reducible refine gc_rng2 ?_))
  | ((guard_target = GC _ _ (Value.builtin "len") [V.ref _] _ _); (with_reducible refine gc_lenR (by tm_at "sSel") ?_))
  | ((guard_target = GC _ _ (Value.builtin "len") [V.ref _] _ _); (with_reducible refine gc_len (by tm_at "sSel") ?_))
  | ((guard_target = GC _ _ (Value.builtin "len") [V.ref _] _ _); (with_reducible refine gc_lenT (by tm_at "sSel") ?_)))
local macro_rules | `(tactic| tm_at "gF") => `(tactic| first
  | ((guard_target = GF _ _ _ _ _ _); (with_reducible refine gf (by tm_at "sSel") (by tm_at "sLkF") ?hc ?hn ?_); (case hc => assumption); (case hn => assumption))
  | ((guard_target = GFS _ _ _ _ _ _); (with_reducible refine gfs (by tm_at "sRpl") (by tm_at "sPutF") ?hc ?hn ?hz ?_); (case hc => assumption); (case hn => assumption); (case hz => exact Nat.le_of_ble_eq_true rfl))
  | ((guard_target = GFA _ _ _ _ _ _ _ _ _); (with_reducible refine gfa (by tm_at "sSel") (by tm_at "sLkF") ?hc ?hn ?_); (case hc => assumption); (case hn => assumption))
  | ((guard_target = Exists fun _ => Exists fun _ => Exists fun _ => (Rpl _ _ _ _ ∧ _ ∧ _)); (with_reducible refine gfaE (by tm_at "sRpl") (by tm_at "sPutF") ?hz ?_); (case hz => exact Nat.le_of_ble_eq_true rfl))
  | ((guard_target = GAS _ _ _ _ _ _ _ _ _); (with_reducible refine gas (by tm_at "sSel") (by tm_at "sIx") ?_))
  | ((guard_target = (HasL _ _ _ ∧ _)); (with_reducible refine And.intro ?hh ?_); (case hh => tm_at "sHasL"))
  | ((guard_target = (IsIns _ _ _ _ _ ∧ _)); (with_reducible refine And.intro ?hh ?_); (case hh => exact isIns (by tm_at "sSel") (by tm_at "sNoF") (by rfl)))
  | ((guard_target = GApp _ _ _ _ _); (with_reducible refine gapp_pt (by tm_at "sRpl") ?hz ?_); (case hz => tm_at "sZ"))
  | ((guard_target = (List.length _ ≤ PySem.sizeLine ∧ _)); (with_reducible refine And.intro ?hz ?_); (case hz => tm_at "sZ"); intro _)
  | ((guard_target = GIp _ _ Operator.Add (V.int _) (V.int _) _ _); (with_reducible refine gip_add ?_))
  | ((guard_target = GIp _ _ Operator.Sub (V.int _) (V.int _) _ _); (with_reducible refine gip_sub ?_))
  | ((guard_target = GRem _ _ _ _ _); (with_reducible refine grem (by tm_at "sRpl") ?hm ?_); (case hm => assumption))
  | ((guard_target = GO _ _ none _ _ _); (with_reducible refine goN ?_))
  | ((guard_target = GO _ _ (some _) _ _ _); (with_reducible refine goS ?_)))
local macro_rules | `(tactic| tm_at "gIx") => `(tactic| first
  | (with_reducible refine gi_lst (by tm_at "sSel") (by tm_at "sIx") ?_)
  | (with_reducible refine gi_tup (by tm_at "sSel") (by tm_at "sIx") ?_))
local macro_rules | `(tactic| tm_at "gS") => `(tactic| first
  | ((guard_target = GS _ _ (Stmt.Assign [Expr.Name _ _] _ _) _ _ _); (with_reducible refine gs_name (by assumption) (by tm_at "sSlot") (by tm_at "sKd") (by tm_at "sLk") (by tm_at "sLf") ?hsw ?_); (case hsw => rfl))
  | ((guard_target = GS _ _ (Stmt.If _ _ _ _) _ _ _); (with_reducible refine gs_if ?_))
  | ((guard_target = GS _ _ (Stmt.AugAssign (Expr.Name _ _) _ _ _) _ _ _); (with_reducible refine gs_aug (by assumption) (by tm_at "sAt") (by tm_at "sSlot") (by tm_at "sKd") (by tm_at "sLk") (by tm_at "sLf") ?_))
  | ((guard_target = GS _ _ (Stmt.AugAssign (Expr.Attribute _ _ _) _ _ _) _ _ _); (with_reducible refine gs_fldaug ?_))
  | ((guard_target = GS _ _ (Stmt.AugAssign (Expr.Subscript _ _ _) _ _ _) _ _ _); (with_reducible refine gs_augS ?ha ?_); (case ha => intros; rfl))
  | ((guard_target = GS _ _ (Stmt.Return (some _) _) _ _ _); (with_reducible refine gs_ret ?_))
  | ((guard_target = GS _ _ (Stmt.Expr (Expr.Constant _ _ _) _) _ _ _); (with_reducible refine gs_doc ?_))
  | ((guard_target = GS _ _ (Stmt.Expr _ _) _ _ _); (with_reducible refine gs_expr ?hsw ?_); (case hsw => rfl))
  | ((guard_target = GS _ _ (Stmt.Assign [Expr.Attribute _ _ _] _ _) _ _ _); (with_reducible refine gs_fld ?hsw ?_); (case hsw => rfl))
  | ((guard_target = GS _ _ (Stmt.Assign [Expr.Subscript _ _ _] _ _) _ _ _); (with_reducible refine gs_asg ?hsw ?hw ?h1 ?_); (case hsw => rfl); (case hw => rfl); (case h1 => rfl))
  | ((guard_target = GS _ _ (Stmt.Assign [Expr.Tuple _ _ _] _ _) _ _ _); (with_reducible refine gs_asg ?hsw ?hw ?h1 ?_); (case hsw => rfl); (case hw => rfl); (case h1 => rfl))
  | ((guard_target = GS _ _ (Stmt.Return none _) _ _ _); (with_reducible refine gs_retN ?_))
  | ((guard_target = GS _ _ (Stmt.Pass _) _ _ _); (with_reducible refine gs_pass ?_))
  | ((guard_target = GS _ _ (Stmt.Break _) _ _ _); (with_reducible refine gs_break ?_))
  | ((guard_target = GS _ _ (Stmt.Continue _) _ _ _); (with_reducible refine gs_continue ?_)))
local macro_rules | `(tactic| tm_at "gG") => `(tactic| first
  | ((guard_target = GG _ _ (Expr.Name _ _) _ _ _ _); (with_reducible refine gg_name (by assumption) (by tm_at "sSlot") (by tm_at "sKd") (by tm_at "sLk") (by tm_at "sLf") ?_))
  | ((guard_target = GG _ _ (Expr.Subscript _ _ _) _ _ _ _); (with_reducible refine gg_sub ?ha ?_); (case ha => intro _; rfl))
  | ((guard_target = GG _ _ (Expr.Tuple _ _ _) _ _ _ _); (with_reducible refine gg_tup ?hc (by tm_at "sSel") ?hn ?hst ?_); (case hc => rfl); (case hn => rfl); (case hst => rfl)))
local macro_rules | `(tactic| tm_at "g") => `(tactic| first
  | ((guard_target = GE _ _ _ _ _ _); tm_at "gE")
  | ((guard_target = GOp _ _ _ _ _ _ _); tm_at "gOp")
  | ((guard_target = GIx _ _ _ _ _ _); tm_at "gIx")
  | tm_at "gF"
  | ((guard_target = (wipe _ _ = wipe _ _ ∧ _)); refine And.intro rfl ?_)
  | ((guard_target = GGs _ _ [] _ _ _ _); (with_reducible refine ggs_nil ?_))
  | ((guard_target = GGs _ _ (_ :: _) _ _ _ _); (with_reducible refine ggs_cons ?hst ?_); (case hst => rfl))
  | ((guard_target = GTs _ _ [] _ _ _); (with_reducible refine gts_nil ?_))
  | ((guard_target = GTs _ _ [_] _ _ _); (with_reducible refine gts_one ?_))
  | ((guard_target = KB _ _ _); (with_reducible refine KB.mk ?_))
  | ((guard_target = GA _ _ _ _ _ _); tm_at "gA")
  | ((guard_target = GS _ _ _ _ _ _); tm_at "gS")
  | ((guard_target = GSs _ _ (_ :: _) _ _ _); (with_reducible refine gss_cons ?_))
  | ((guard_target = GSs _ _ ([]) _ _ _); (with_reducible refine gss_nil ?_))
  | ((guard_target = GT _ _ _ _ _ _); tm_at "gT")
  | ((guard_target = GB _ _ _ _ _ _); tm_at "gB")
  | ((guard_target = GC _ _ _ _ _ _); tm_at "gC")
  | ((guard_target = GG _ _ _ _ _ _ _); tm_at "gG")
  | ((guard_target = GPutL _ _ _ _ _); (with_reducible refine gput (by tm_at "sRpl") (by tm_at "sPut") ?_))
  | ((guard_target = if true = true then _ else _); (with_reducible refine iteT ?_))
  | ((guard_target = if (!true) = true then _ else _); (with_reducible refine iteNT ?_))
  | ((guard_target = if (!false) = true then _ else _); (with_reducible refine iteNF ?_))
  | ((guard_target = if false = true then _ else _); (with_reducible refine iteF ?_))
  | ((guard_target = Exists _); (with_reducible refine Exists.intro _ (And.intro rfl ?_)))
  | (first | with_reducible refine ite_nI ?_ | with_reducible refine ite_nN ?_ | with_reducible refine ite_nnI ?_ | with_reducible refine ite_nnN ?_ | with_reducible refine ite_nR ?_ | with_reducible refine ite_nnR ?_))
local macro_rules | `(tactic| tm_at "sSetN") => `(tactic| (first | exact SetN.here | (apply SetN.there; tm_at "sSetN")))
local macro_rules | `(tactic| tm_at "sWp") => `(tactic| (first | exact Wp.nil | (apply Wp.cons; (tm_at "sWp"); (tm_at "sSetN"))))
local macro_rules | `(tactic| tm_at "fits") => `(tactic| (first | apply Fits.mk | apply FitL.mk))
local macro_rules | `(tactic| tm_at "ent") => `(tactic| (apply Fit.ent; tm_at "fit"))
local macro_rules | `(tactic| tm_at "go") => `(tactic| repeat (tm_at "g"))
local macro_rules | `(tactic| tm_at "gs") => `(tactic| repeat ((fail_if_success (guard_target = GSs _ _ (_ :: _) _ _ _)); tm_at "g"))
local macro_rules | `(tactic| tm_at "if") => `(tactic| first
  | (with_reducible refine ite_ndec (fun _ => ?_) (fun _ => ?_))
  | (with_reducible refine ite_dec (fun _ => ?_) (fun _ => ?_))
  | (with_reducible refine ite_nb (fun _ => ?_) (fun _ => ?_))
  | (with_reducible refine ite_b (fun _ => ?_) (fun _ => ?_)))
local macro_rules | `(tactic| tm_at "fit") => `(tactic| (guard_target = Fit _ (CpsR _ _ _ _ :: _); (first | ((with_reducible apply Fit.find); (case s => tm_at "sSelC"); (case t => tm_at "fit")) | ((with_reducible apply cps_want); (case f => tm_at "fit"); (case e => first | rfl | (simp only [vLd]; done) | (simp [raise_ld, vLd, *]; done))))))
local macro_rules | `(tactic| tm_at "fit") => `(tactic| (guard_target = Fit _ (RestP _ _ _ [] :: _); (first | ((with_reducible apply Fit.find); (case s => tm_at "sSelC"); (case t => tm_at "fit")) | ((with_reducible apply rest_want); (case hk => assumption); (case f => tm_at "fit")) | ((with_reducible apply rest_back); (case s => tm_at "sSel"); (case hk => assumption); (case f => tm_at "fit")))))
local macro_rules | `(tactic| tm_at "gEMeth") => `(tactic| (guard_target = GE _ _ (Expr.Call (Expr.Attribute _ "last_mark" _) [] _ _) _ _ _; (refine ge_meth0 (MeAt.e (C := "Copy") (m := "last_mark") (by assumption)) (by tm_at "sRoom") (by tm_at "sXok") ?ht ?_); (case ht => exact ⟨_, rfl⟩)))
local macro_rules | `(tactic| tm_at "gEMeth") => `(tactic| (guard_target = GE _ _ (Expr.Call (Expr.Attribute _ "raise_high" _) [] _ _) _ _ _; (refine ge_meth0 (MeAt.e (C := "Copies") (m := "raise_high") (by assumption)) (by tm_at "sRoom") (by tm_at "sXok") ?ht ?_); (case ht => exact ⟨_, rfl⟩)))
local macro_rules | `(tactic| tm_at "gEMeth") => `(tactic| (guard_target = GE _ _ (Expr.Call (Expr.Attribute _ "sure" _) [] _ _) _ _ _; (refine ge_meth0 (MeAt.e (C := "Copies") (m := "sure") (by assumption)) (by tm_at "sRoom") (by tm_at "sXok") ?ht ?_); (case ht => exact ⟨_, rfl⟩)))
local macro_rules | `(tactic| tm_at "gEMeth") => `(tactic| (guard_target = GE _ _ (Expr.Call (Expr.Attribute _ "alike" _) [] _ _) _ _ _; (refine ge_meth0 (MeAt.e (C := "Copies") (m := "alike") (by assumption)) (by tm_at "sRoom") (by tm_at "sXok") ?ht ?_); (case ht => exact ⟨_, rfl⟩)))
local macro_rules | `(tactic| tm_at "gEMeth") => `(tactic| (guard_target = GE _ _ (Expr.Call (Expr.Attribute _ "turn_end" _) (_ :: _) _ _) _ _ _; (refine ge_meth (MeAt.e (C := "Copy") (m := "turn_end") (by assumption)) (by tm_at "sRoom") (by tm_at "sXok") ?hst ?hpl ?ht ?_); (case hst => rfl); (case hpl => rfl); (case ht => exact ⟨_, rfl⟩)))
local macro_rules | `(tactic| tm_at "gEMeth") => `(tactic| (guard_target = GE _ _ (Expr.Call (Expr.Attribute _ "agree" _) (_ :: _) _ _) _ _ _; (refine ge_meth (MeAt.e (C := "Copies") (m := "agree") (by assumption)) (by tm_at "sRoom") (by tm_at "sXok") ?hst ?hpl ?ht ?_); (case hst => rfl); (case hpl => rfl); (case ht => exact ⟨_, rfl⟩)))
local macro_rules | `(tactic| tm_at "gEMeth") => `(tactic| (guard_target = GE _ _ (Expr.Call (Expr.Attribute _ "give" _) (_ :: _) _ _) _ _ _; (refine ge_meth (MeAt.e (C := "Copies") (m := "give") (by assumption)) (by tm_at "sRoom") (by tm_at "sXok") ?hst ?hpl ?ht ?_); (case hst => rfl); (case hpl => rfl); (case ht => exact ⟨_, rfl⟩)))
local macro_rules | `(tactic| tm_at "gEMeth") => `(tactic| (guard_target = GE _ _ (Expr.Call (Expr.Attribute _ "ask" _) (_ :: _) _ _) _ _ _; (refine ge_meth (MeAt.e (C := "Copies") (m := "ask") (by assumption)) (by tm_at "sRoom") (by tm_at "sXok") ?hst ?hpl ?ht ?_); (case hst => rfl); (case hpl => rfl); (case ht => exact ⟨_, rfl⟩)))
local macro_rules | `(tactic| tm_at "gEMeth") => `(tactic| (guard_target = GE _ _ (Expr.Call (Expr.Attribute _ "down" _) (_ :: _) _ _) _ _ _; (refine ge_meth (MeAt.e (C := "Copies") (m := "down") (by assumption)) (by tm_at "sRoom") (by tm_at "sXok") ?hst ?hpl ?ht ?_); (case hst => rfl); (case hpl => rfl); (case ht => exact ⟨_, rfl⟩)))
local macro_rules | `(tactic| tm_at "gEMeth") => `(tactic| (guard_target = GE _ _ (Expr.Call (Expr.Attribute _ "up_again" _) (_ :: _) _ _) _ _ _; (refine ge_meth (MeAt.e (C := "Copies") (m := "up_again") (by assumption)) (by tm_at "sRoom") (by tm_at "sXok") ?hst ?hpl ?ht ?_); (case hst => rfl); (case hpl => rfl); (case ht => exact ⟨_, rfl⟩)))
local macro_rules | `(tactic| tm_at "gEMeth") => `(tactic| (guard_target = GE _ _ (Expr.Call (Expr.Attribute _ "lead" _) (_ :: _) _ _) _ _ _; (refine ge_meth (MeAt.e (C := "Copies") (m := "lead") (by assumption)) (by tm_at "sRoom") (by tm_at "sXok") ?hst ?hpl ?ht ?_); (case hst => rfl); (case hpl => rfl); (case ht => exact ⟨_, rfl⟩)))
local macro_rules | `(tactic| tm_at "gEMeth") => `(tactic| (guard_target = GE _ _ (Expr.Call (Expr.Attribute _ "give_as" _) (_ :: _) _ _) _ _ _; (refine ge_meth (MeAt.e (C := "Copies") (m := "give_as") (by assumption)) (by tm_at "sRoom") (by tm_at "sXok") ?hst ?hpl ?ht ?_); (case hst => rfl); (case hpl => rfl); (case ht => exact ⟨_, rfl⟩)))
local macro_rules | `(tactic| tm_at "gEMeth") => `(tactic| (guard_target = GE _ _ (Expr.Call (Expr.Attribute _ "lag" _) (_ :: _) _ _) _ _ _; (refine ge_meth (MeAt.e (C := "Copies") (m := "lag") (by assumption)) (by tm_at "sRoom") (by tm_at "sXok") ?hst ?hpl ?ht ?_); (case hst => rfl); (case hpl => rfl); (case ht => exact ⟨_, rfl⟩)))
local macro_rules | `(tactic| tm_at "sIx") => `(tactic| exact at3 (by assumption))
local macro_rules | `(tactic| tm_at "sPut") => `(tactic| (first | exact put3 (g := V.int) (by assumption) | exact put3 (g := V.bl) (by assumption)))
local macro_rules | `(tactic| tm_at "gF") => `(tactic| ((guard_target = (IsIns _ _ _ _ _ ∧ _)); (with_reducible refine And.intro ?hh ?_); (case hh => exact ins_cps (by tm_at "sSel") (fun _ _ _ _ _ _ _ _ => by tm_at "sNoF"))))
theorem erase_in {x y : Int} {l : List Int} (h : x ∈ l.erase y) : x ∈ l := List.mem_of_mem_erase h
theorem erase_ne {x y : Int} {l : List Int} (h : x ∈ l) (n : x ≠ y) : x ∈ l.erase y := (List.mem_erase_of_ne n).mpr h
theorem Wf.drop {S : CS} {k l : Nat} (w : Wf S) (hld : S.leader = some l) (n : k ≠ l) {up' : Nat → Bool} {j' : Nat → Bool} : Wf { S with wl := S.wl.erase (k : Int), up := up', joined := j' } := by
  refine ⟨fun x hx => w.wl x (erase_in hx), fun l' h' => ?_, w.len, Nat.le_trans (List.length_erase_le) w.wlz, w.nd.erase _⟩
  rw [show l' = l from by have : S.leader = some l' := h'; rw [hld] at this; cases this; rfl]
  obtain ⟨h1, h2⟩ := w.ld l hld
  exact ⟨h1, erase_ne h2 (by intro z; exact n (by exact_mod_cast z.symm))⟩
section
variable {T : List (Addr × Str)} {P : Program} {w : World} {Kf : PySem.W.Frag} {mg : Str → Option Value} {base : Heap} {f : Addr} {fd : FuncData}
/-! ### up_again -/
def spUp (Kf : PySem.W.Frag) : SpL := fun vs L K kx => ∃ (o : Addr) (a : Nat → Addr) (S : CS) (k : Nat) (R : List SA), vs = [.ref o, .int (k : Int)] ∧ L = CpsR Kf o a S :: R ∧ k < 3 ∧
  (S.up k = false → K .non (CpsR Kf o a { S with up := fset S.up k true } :: R)) ∧ (S.up k = true → kx (ND Kf) none (CpsR Kf o a S :: R))
theorem ok_up (fx : Fx Kf mg) (F : FunD Kf "up_again" "Copies.up_again" (defArgs s_Copies_up_again) (defBody s_Copies_up_again) (defScope s_Copies_up_again) [] [] f fd) : FnOk P w Kf mg base (L2.CX P w) 1 f fd ["self", "k"] (spOf T (spUp Kf)) := by
  refine def_in F sc_Copies_up_again (fun vs L K kx h => ?_) (fun A outer s H E hr n vs L KK kx h hx σ hσ => ?_)
  · obtain ⟨o, a, S, l, R, rfl, _⟩ := h; rfl
  · obtain ⟨o, a, S, k, R, rfl, rfl, hk, k1, k2⟩ := h
    obtain rfl : σ = [some (.ref o), some (.int (k : Int))] := hσ
    cases fx
    refine cps_in (v := vLd S.leader) (by tm_at "sSel") rfl fun dc lc lu lw lk lj => ?_
    refine gss_cons ?_
    tm_at "go"
    tm_at "if"
    · rename_i hu
      tm_at "go"
      refine gs_raise n (by tm_at "sKd") rfl (by assumption) hx rfl ?_
      apply Clo.mk (k2 hu)
      tm_at "ent"
    · rename_i hu
      tm_at "go"
      apply Clo.mk (k1 hu)
      tm_at "ent"
/-! ### lag -/
def spLag (Kf : PySem.W.Frag) : SpL := fun vs L K kx => ∃ (o : Addr) (a : Nat → Addr) (S : CS) (k : Nat) (R : List SA), vs = [.ref o, .int (k : Int)] ∧ L = CpsR Kf o a S :: R ∧ k < 3 ∧ Wf S ∧
  (∀ l, S.leader = some l → k ≠ l → (k : Int) ∈ S.wl → K .non (CpsR Kf o a (lagP S l k) :: R)) ∧ ((S.leader = none ∨ S.leader = some k ∨ (k : Int) ∉ S.wl) → kx (ND Kf) none (CpsR Kf o a S :: R))
theorem ok_lag (fx : Fx Kf mg) (hrh : MeAt T P w Kf mg base 2 "Copies" "raise_high" (spRH Kf)) (F : FunD Kf "lag" "Copies.lag" (defArgs s_Copies_lag) (defBody s_Copies_lag) (defScope s_Copies_lag) [] [] f fd) : FnOk P w Kf mg base (L2.CX P w) 3 f fd ["self", "k"] (spOf T (spLag Kf)) := by
  refine def_in F sc_Copies_lag (fun vs L K kx h => ?_) (fun A outer s H E hr n vs L KK kx h hx σ hσ => ?_)
  · obtain ⟨o, a, S, l, R, rfl, _⟩ := h; rfl
  · obtain ⟨o, a, S, k, R, rfl, rfl, hk, wf, k1, k2⟩ := h
    obtain rfl : σ = [some (.ref o), some (.int (k : Int))] := hσ
    cases fx
    cases hld : S.leader with
    | none =>
      refine cps_in (v := .non) (by tm_at "sSel") (by rw [hld]; rfl) fun dc lc lu lw lk lj => ?_
      refine gss_cons ?_
      tm_at "go"
      refine gs_raise n (by tm_at "sKd") rfl (by assumption) hx rfl ?_
      apply Clo.mk (k2 (.inl hld))
      tm_at "ent"
    | some l =>
      refine cps_in (v := .int (l : Int)) (by tm_at "sSel") (by rw [hld]; rfl) fun dc lc lu lw lk lj => ?_
      refine gss_cons ?_
      tm_at "go"
      tm_at "if"
      · rename_i hc
        have hc : k = l := by exact_mod_cast hc
        subst hc
        tm_at "go"
        refine gs_raise n (by tm_at "sKd") rfl (by assumption) hx rfl ?_
        apply Clo.mk (k2 (.inr (.inl hld)))
        tm_at "ent"
      · rename_i hc
        have hne : k ≠ l := fun z => hc (by rw [z])
        tm_at "go"
        tm_at "if"
        · rename_i hm
          tm_at "go"
          refine gs_raise n (by tm_at "sKd") rfl (by assumption) hx rfl ?_
          apply Clo.mk (k2 (.inr (.inr hm)))
          tm_at "ent"
        · rename_i hm
          tm_at "go"
          refine call_rh (S := { S with wl := S.wl.erase (k : Int) }) (l := l) (by tm_at "ent") hld (wf.drop hld hne) ?_
          tm_at "go"
          apply Clo.mk (k1 l hld hne hm)
          show Ent T _ (CpsR Kf o a (raise _ l) :: R)
          tm_at "ent"
/-! ### down -/
def spDown (Kf : PySem.W.Frag) : SpL := fun vs L K kx => ∃ (o : Addr) (a : Nat → Addr) (S : CS) (k : Nat) (R : List SA), vs = [.ref o, .int (k : Int)] ∧ L = CpsR Kf o a S :: R ∧ k < 3 ∧ Wf S ∧
  (S.up k = true → K .non (CpsR Kf o a (downP S k) :: R)) ∧ (S.up k = false → kx (ND Kf) none (CpsR Kf o a S :: R))
theorem ok_down (fx : Fx Kf mg) (hrh : MeAt T P w Kf mg base 2 "Copies" "raise_high" (spRH Kf)) (F : FunD Kf "down" "Copies.down" (defArgs s_Copies_down) (defBody s_Copies_down) (defScope s_Copies_down) [] [] f fd) : FnOk P w Kf mg base (L2.CX P w) 3 f fd ["self", "k"] (spOf T (spDown Kf)) := by
  refine def_in F sc_Copies_down (fun vs L K kx h => ?_) (fun A outer s H E hr n vs L KK kx h hx σ hσ => ?_)
  · obtain ⟨o, a, S, l, R, rfl, _⟩ := h; rfl
  · obtain ⟨o, a, S, k, R, rfl, rfl, hk, wf, k1, k2⟩ := h
    obtain rfl : σ = [some (.ref o), some (.int (k : Int))] := hσ
    cases fx
    by_cases hu : S.up k = true
    case neg =>
      have hu : S.up k = false := by simpa using hu
      refine cps_in (v := vLd S.leader) (by tm_at "sSel") rfl fun dc lc lu lw lk lj => ?_
      refine gss_cons ?_
      tm_at "go"
      rw [hu]
      tm_at "if"
      · tm_at "go"
        refine gs_raise n (by tm_at "sKd") rfl (by assumption) hx rfl ?_
        apply Clo.mk (k2 hu)
        tm_at "ent"
      · rename_i z; cases z
    case pos =>
    cases hld : S.leader with
    | none =>
      refine cps_in (v := .non) (by tm_at "sSel") (by rw [hld]; rfl) fun dc lc lu lw lk lj => ?_
      refine gss_cons ?_
      tm_at "go"
      tm_at "if"
      · rename_i z; rw [hu] at z; cases z
      · tm_at "go"
        have e : downP S k = { S with up := fset S.up k false, joined := fset S.joined k false } := by unfold downP; rw [hld]
        have k1 := k1 hu
        rw [e] at k1
        tm_at "if"
        · rename_i hm
          tm_at "go"
          apply Clo.mk k1
          tm_at "ent"
        · tm_at "go"
          apply Clo.mk k1
          tm_at "ent"
    | some l =>
      refine cps_in (v := .int (l : Int)) (by tm_at "sSel") (by rw [hld]; rfl) fun dc lc lu lw lk lj => ?_
      refine gss_cons ?_
      tm_at "go"
      tm_at "if"
      · rename_i z; rw [hu] at z; cases z
      · tm_at "go"
        tm_at "if"
        · rename_i hc
          have hc : k = l := by exact_mod_cast hc
          subst hc
          tm_at "go"
          have e : downP S k = { S with up := fset S.up k false, joined := fset S.joined k false, leader := none } := by unfold downP; rw [hld]; simp
          have k1 := k1 hu
          rw [e] at k1
          apply Clo.mk k1
          tm_at "ent"
        · rename_i hc
          have hne : k ≠ l := fun z => hc (by rw [z])
          tm_at "go"
          tm_at "if"
          · rename_i hm
            tm_at "go"
            refine call_rh (S := { S with up := fset S.up k false, joined := fset S.joined k false, wl := S.wl.erase (k : Int) }) (l := l) (by tm_at "ent") hld (wf.drop hld hne) ?_
            tm_at "go"
            have e : downP S k = raise { S with up := fset S.up k false, joined := fset S.joined k false, wl := S.wl.erase (k : Int) } l := by unfold downP; rw [hld]; simp [hne, hm]
            have k1 := k1 hu
            rw [e] at k1
            apply Clo.mk k1
            tm_at "ent"
          · rename_i hm
            tm_at "go"
            have e : downP S k = { S with up := fset S.up k false, joined := fset S.joined k false } := by unfold downP; rw [hld]; simp [hne, hm]
            have k1 := k1 hu
            rw [e] at k1
            apply Clo.mk k1
            tm_at "ent"
end
end K04
set_option Elab.async false
set_option linter.all false
set_option maxRecDepth 100000
set_option pp.deepTerms false
set_option pp.deepTerms.threshold 10
set_option pp.maxSteps 1500
namespace K04
open PySem PySem.Spec L2 SW
open PyProof.Rows hiding St
local macro_rules | `(tactic| tm_at "sAt") => `(tactic| with_reducible (first | exact At.here | (apply At.there; tm_at "sAt")))
local macro_rules | `(tactic| tm_at "sSlot") => `(tactic| with_reducible (first | exact Slot.here | (apply Slot.there; tm_at "sSlot")))
local macro_rules | `(tactic| tm_at "sKd") => `(tactic| with_reducible (first | exact Kd.here | (apply Kd.there; tm_at "sKd")))
local macro_rules | `(tactic| tm_at "sSel") => `(tactic| with_reducible (first | exact Sel.here | (apply Sel.there; tm_at "sSel")))
local macro_rules | `(tactic| tm_at "sRpl") => `(tactic| with_reducible (first | exact Rpl.here | (apply Rpl.there; tm_at "sRpl")))
local macro_rules | `(tactic| tm_at "sTk") => `(tactic| (first | exact Tk.nil | (apply Tk.cons; (tm_at "sSel"); (tm_at "sTk"))))
local macro_rules | `(tactic| tm_at "sVk") => `(tactic| first
  | exact Vk.l
  | exact Vk.c
  | exact Vk.f)
local macro_rules | `(tactic| tm_at "sLk") => `(tactic| first
  | exact Lk.l
  | exact Lk.c)
local macro_rules | `(tactic| tm_at "sLf") => `(tactic| first
  | exact Or.inl rfl
  | exact Or.inr rfl)
local macro_rules | `(tactic| tm_at "sRoom") => `(tactic| first
  | assumption
  | exact L2.Room.mono (by assumption) (by decide))
local macro_rules | `(tactic| tm_at "sXok") => `(tactic| first
  | assumption
  | exact xok0)
local macro_rules | `(tactic| tm_at "sCv") => `(tactic| (first | with_reducible exact Cv.id | with_reducible exact Cv.lst0 | ((with_reducible refine Cv.pt ?_); tm_at "sEq") | ((with_reducible refine Cv.lst ?_); tm_at "sEq") | ((with_reducible refine Cv.val ?_); tm_at "sEq")))
local macro_rules | `(tactic| tm_at "sEq") => `(tactic| (first | rfl | assumption | (simp; done)))
local macro_rules | `(tactic| tm_at "sSelC") => `(tactic| (first | ((with_reducible apply SelC.here); tm_at "sCv") | ((with_reducible apply SelC.there); tm_at "sSelC")))
local macro_rules | `(tactic| tm_at "fit") => `(tactic| (first | with_reducible exact Fit.refl | with_reducible exact Fit.nil | ((with_reducible apply Fit.find); (case s => tm_at "sSelC"); (case t => tm_at "fit")) | ((with_reducible apply Fit.drop); tm_at "fit")))
local macro_rules | `(tactic| tm_at "sLkF") => `(tactic| with_reducible (first | exact LkF.here | (apply LkF.there (by with_unfolding_all rfl); tm_at "sLkF")))
local macro_rules | `(tactic| tm_at "sNoF") => `(tactic| with_reducible (first | exact NoF.nil | (apply NoF.cons (by with_unfolding_all rfl); tm_at "sNoF")))
local macro_rules | `(tactic| tm_at "sPutF") => `(tactic| with_reducible (first | exact PutF.here | exact PutF.nil | (apply PutF.there (by with_unfolding_all rfl); tm_at "sPutF")))
local macro_rules | `(tactic| tm_at "sHasL") => `(tactic| (first | exact hasL_pt (by tm_at "sSel") | exact hasL_R (by tm_at "sSel")))
local macro_rules | `(tactic| tm_at "sZ") => `(tactic| (first | assumption | (simp only [List.length_cons, List.length_nil, List.length_append, PySem.sizeLine_eq]; omega) | (rw [PySem.sizeLine_eq]; simp; done)))
local macro_rules | `(tactic| tm_at "sIx") => `(tactic| with_unfolding_all rfl)
local macro_rules | `(tactic| tm_at "sSet") => `(tactic| (first | exact SetR.here | (apply SetR.there; tm_at "sSet")))
local macro_rules | `(tactic| tm_at "sPut") => `(tactic| first
  | exact PutAt.c 0 (by with_unfolding_all rfl) (by tm_at "sSet")
  | exact PutAt.c 1 (by with_unfolding_all rfl) (by tm_at "sSet")
  | exact PutAt.c 2 (by with_unfolding_all rfl) (by tm_at "sSet")
  | exact PutAt.c 3 (by with_unfolding_all rfl) (by tm_at "sSet")
  | exact PutAt.c 4 (by with_unfolding_all rfl) (by tm_at "sSet")
  | exact PutAt.c 5 (by with_unfolding_all rfl) (by tm_at "sSet"))
local macro_rules | `(tactic| tm_at "gECall") => `(tactic| first
  | ((guard_target = GE _ _ (Expr.Call (Expr.Name "len" _) _ _ _) _ _ _); (with_reducible refine gb_len (by assumption) (by tm_at "sKd") ?hm ?he ?hpl ?_); (case hm => assumption); (case he => rfl); (case hpl => rfl))
  | ((guard_target = GE _ _ (Expr.Call (Expr.Name "int" _) _ _ _) _ _ _); (with_reducible refine gb_int (by assumption) (by tm_at "sKd") ?hm ?he ?hpl ?_); (case hm => assumption); (case he => rfl); (case hpl => rfl))
  | ((guard_target = GE _ _ (Expr.Call (Expr.Name "str" _) _ _ _) _ _ _); (with_reducible refine gb_str (by assumption) (by tm_at "sKd") ?hm ?he ?hpl ?_); (case hm => assumption); (case he => rfl); (case hpl => rfl))
  | ((guard_target = GE _ _ (Expr.Call (Expr.Name "list" _) _ _ _) _ _ _); (with_reducible refine gb_list (by assumption) (by tm_at "sKd") ?hm ?he ?hpl ?_); (case hm => assumption); (case he => rfl); (case hpl => rfl))
  | ((guard_target = GE _ _ (Expr.Call (Expr.Name "tuple" _) _ _ _) _ _ _); (with_reducible refine gb_tuple (by assumption) (by tm_at "sKd") ?hm ?he ?hpl ?_); (case hm => assumption); (case he => rfl); (case hpl => rfl))
  | ((guard_target = GE _ _ (Expr.Call (Expr.Name "min" _) _ _ _) _ _ _); (with_reducible refine gb_min (by assumption) (by tm_at "sKd") ?hm ?he ?hpl ?_); (case hm => assumption); (case he => rfl); (case hpl => rfl))
  | ((guard_target = GE _ _ (Expr.Call (Expr.Name "max" _) _ _ _) _ _ _); (with_reducible refine gb_max (by assumption) (by tm_at "sKd") ?hm ?he ?hpl ?_); (case hm => assumption); (case he => rfl); (case hpl => rfl))
  | ((guard_target = GE _ _ (Expr.Call (Expr.Name "sum" _) _ _ _) _ _ _); (with_reducible refine gb_sum (by assumption) (by tm_at "sKd") ?hm ?he ?hpl ?_); (case hm => assumption); (case he => rfl); (case hpl => rfl))
  | ((guard_target = GE _ _ (Expr.Call (Expr.Name "sorted" _) _ _ _) _ _ _); (with_reducible refine gb_sorted (by assumption) (by tm_at "sKd") ?hm ?he ?hpl ?_); (case hm => assumption); (case he => rfl); (case hpl => rfl))
  | ((guard_target = GE _ _ (Expr.Call (Expr.Name "abs" _) _ _ _) _ _ _); (with_reducible refine gb_abs (by assumption) (by tm_at "sKd") ?hm ?he ?hpl ?_); (case hm => assumption); (case he => rfl); (case hpl => rfl))
  | ((guard_target = GE _ _ (Expr.Call (Expr.Name "range" _) _ _ _) _ _ _); (with_reducible refine gb_range (by assumption) (by tm_at "sKd") ?hm ?he ?hpl ?_); (case hm => assumption); (case he => rfl); (case hpl => rfl))
  | ((guard_target = GE _ _ (Expr.Call (Expr.Name "any" _) _ _ _) _ _ _); (with_reducible refine gb_any (by assumption) (by tm_at "sKd") ?hm ?he ?hpl ?_); (case hm => assumption); (case he => rfl); (case hpl => rfl))
  | ((guard_target = GE _ _ (Expr.Call (Expr.Name "all" _) _ _ _) _ _ _); (with_reducible refine gb_all (by assumption) (by tm_at "sKd") ?hm ?he ?hpl ?_); (case hm => assumption); (case he => rfl); (case hpl => rfl))
  | ((guard_target = GE _ _ (Expr.Call (Expr.Name "dict" _) _ _ _) _ _ _); (with_reducible refine gb_dict (by assumption) (by tm_at "sKd") ?hm ?he ?hpl ?_); (case hm => assumption); (case he => rfl); (case hpl => rfl))
  | ((guard_target = GE _ _ (Expr.Call (Expr.Name "set" _) _ _ _) _ _ _); (with_reducible refine gb_set (by assumption) (by tm_at "sKd") ?hm ?he ?hpl ?_); (case hm => assumption); (case he => rfl); (case hpl => rfl)))
local macro_rules | `(tactic| tm_at "gECall") => `(tactic| (guard_target = GE _ _ (Expr.Call (Expr.Name "_law_roll" _) (_ :: _) [] _) _ _ _; (refine ge_call (FnAt.e (x := "_law_roll") (by assumption)) (by tm_at "sRoom") (by tm_at "sXok") (Nm.gl (by assumption) (by tm_at "sKd")) ?hdb ?he ?hpl ?_); (case hdb => rfl); (case he => rfl); (case hpl => rfl)))
local macro_rules | `(tactic| tm_at "gECall") => `(tactic| (guard_target = GE _ _ (Expr.Call (Expr.Name "_law_dice" _) (_ :: _) [] _) _ _ _; (refine ge_call (FnAt.e (x := "_law_dice") (by assumption)) (by tm_at "sRoom") (by tm_at "sXok") (Nm.gl (by assumption) (by tm_at "sKd")) ?hdb ?he ?hpl ?_); (case hdb => rfl); (case he => rfl); (case hpl => rfl)))
local macro_rules | `(tactic| tm_at "gECall") => `(tactic| (guard_target = GE _ _ (Expr.Call (Expr.Name "_law_rounds" _) (_ :: _) [] _) _ _ _; (refine ge_call (FnAt.e (x := "_law_rounds") (by assumption)) (by tm_at "sRoom") (by tm_at "sXok") (Nm.gl (by assumption) (by tm_at "sKd")) ?hdb ?he ?hpl ?_); (case hdb => rfl); (case he => rfl); (case hpl => rfl)))
local macro_rules | `(tactic| tm_at "gECall") => `(tactic| (guard_target = GE _ _ (Expr.Call (Expr.Name "_law_deed" _) (_ :: _) [] _) _ _ _; (refine ge_call (FnAt.e (x := "_law_deed") (by assumption)) (by tm_at "sRoom") (by tm_at "sXok") (Nm.gl (by assumption) (by tm_at "sKd")) ?hdb ?he ?hpl ?_); (case hdb => rfl); (case he => rfl); (case hpl => rfl)))
local macro_rules | `(tactic| tm_at "gE") => `(tactic| first
  | ((guard_target = GE _ _ (Expr.Name _ _) _ _ _); (with_reducible refine ge_name (by assumption) (by tm_at "sAt") (by tm_at "sKd") (by tm_at "sVk") rfl ?_))
  | ((guard_target = GE _ _ (Expr.Constant (Const.int _) _ _) _ _ _); (with_reducible refine ge_int ?_))
  | ((guard_target = GE _ _ (Expr.Attribute _ _ _) _ _ _); (with_reducible refine ge_fld ?hb ?_); (case hb => rfl))
  | ((guard_target = GE _ _ (Expr.Subscript _ (Expr.Slice _ _ none _) _) _ _ _); (with_reducible refine ge_slice ?_))
  | ((guard_target = GE _ _ (Expr.Call (Expr.Attribute _ _ _) _ _ _) _ _ _); tm_at "gEMeth")
  | ((guard_target = GE _ _ (Expr.Subscript _ _ _) _ _ _); (with_reducible refine ge_sub ?hs ?_); (case hs => exact fun _ _ => rfl))
  | ((guard_target = GE _ _ (Expr.BinOp _ _ _ _) _ _ _); (with_reducible refine ge_bin ?_))
  | ((guard_target = GE _ _ (Expr.Constant (Const.str _) _ _) _ _ _); (with_reducible refine ge_str ?_))
  | ((guard_target = GE _ _ (Expr.Call (Expr.Name _ _) _ _ _) _ _ _); tm_at "gECall")
  | ((guard_target = GE _ _ (Expr.List _ _) _ _ _); (with_reducible refine ge_lst ?_))
  | ((guard_target = GE _ _ (Expr.Tuple _ _ _) _ _ _); (with_reducible refine ge_tup ?_))
  | ((guard_target = GE _ _ (Expr.Constant Const.none _ _) _ _ _); (with_reducible refine ge_none ?_))
  | ((guard_target = GE _ _ (Expr.Constant (Const.bool _) _ _) _ _ _); (with_reducible refine ge_bl ?_))
  | ((guard_target = GE _ _ (Expr.Compare _ [_] [_] _) _ _ _); (with_reducible refine ge_cmp ?hm ?_); (case hm => first | exact nomark _ | rfl))
  | ((guard_target = GE _ _ (Expr.UnaryOp UnaryOp.Not _ _) _ _ _); (with_reducible refine ge_not ?_))
  | ((guard_target = GE _ _ (Expr.UnaryOp _ _ _) _ _ _); (with_reducible refine ge_un ?_))
  | ((guard_target = GE _ _ (Expr.IfExp _ _ _ _) _ _ _); (with_reducible refine ge_if ?_))
  | ((guard_target = GE _ _ (Expr.Compare _ [_, _] [_, _] _) _ _ _); (with_reducible refine ge_chain ?hm ?_); (case hm => with_unfolding_all rfl))
  | ((guard_target = GE _ _ (Expr.BoolOp _ [_] _) _ _ _); (with_reducible refine ge_one ?_))
  | ((guard_target = GE _ _ (Expr.BoolOp BoolOp.And _ _) _ _ _); (with_reducible refine ge_and ?_))
  | ((guard_target = GE _ _ (Expr.BoolOp BoolOp.Or _ _) _ _ _); (with_reducible refine ge_or ?_)))
local macro_rules | `(tactic| tm_at "gEMeth") => `(tactic| first
  | ((guard_target = GE _ _ (Expr.Call (Expr.Attribute _ "append" _) [_] [] _) _ _ _); (with_reducible refine ge_append ?h1 ?h2 ?h3 ?h4 ?h5 ?_); (case h1 => rfl); (case h2 => rfl); (case h3 => rfl); (case h4 => rfl); (case h5 => rfl))
  | ((guard_target = GE _ _ (Expr.Call (Expr.Attribute _ "extend" _) [_] [] _) _ _ _); (with_reducible refine ge_extend ?h1 ?h2 ?h3 ?h4 ?h5 ?_); (case h1 => rfl); (case h2 => rfl); (case h3 => rfl); (case h4 => rfl); (case h5 => rfl))
  | ((guard_target = GE _ _ (Expr.Call (Expr.Attribute _ "remove" _) [_] [] _) _ _ _); (with_reducible refine ge_remove ?h1 ?h2 ?h3 ?h4 ?h5 ?_); (case h1 => rfl); (case h2 => rfl); (case h3 => rfl); (case h4 => rfl); (case h5 => rfl))
  | ((guard_target = GE _ _ (Expr.Call (Expr.Attribute _ "pop" _) [_] [] _) _ _ _); (with_reducible refine ge_popAt ?h1 ?h2 ?h3 ?h4 ?h5 ?_); (case h1 => rfl); (case h2 => rfl); (case h3 => rfl); (case h4 => rfl); (case h5 => rfl)))
local macro_rules | `(tactic| tm_at "gT") => `(tactic| first
  | ((guard_target = GT _ _ (Expr.Compare _ [_] [_] _) _ _ _); (with_reducible refine gt_cmp ?hm ?_); (case hm => first | exact nomark _ | rfl))
  | ((guard_target = GT _ _ (Expr.UnaryOp UnaryOp.Not _ _) _ _ _); (with_reducible refine gt_not ?_))
  | ((guard_target = GT _ _ (Expr.BoolOp _ _ _) _ _ _); (with_reducible refine gt_bool ?_))
  | ((guard_target = GT _ _ (Expr.Compare _ [_, _] [_, _] _) _ _ _); (with_reducible refine gt_chain ?hm ?_); (case hm => with_unfolding_all rfl))
  | ((guard_target = GT _ _ (Expr.Call _ _ _ _) _ _ _); (with_reducible refine gt_val ?he ?_); (case he => intro _; rfl))
  | ((guard_target = GT _ _ (Expr.Subscript _ _ _) _ _ _); (with_reducible refine gt_val ?he ?_); (case he => intro _; rfl))
  | ((guard_target = GT _ _ (Expr.Name _ _) _ _ _); (with_reducible refine gt_val ?he ?_); (case he => intro _; rfl))
  | ((guard_target = GT _ _ (Expr.Attribute _ _ _) _ _ _); (with_reducible refine gt_val ?he ?_); (case he => intro _; rfl)))
local macro_rules | `(tactic| tm_at "gB") => `(tactic| first
  | ((guard_target = GB _ _ (Expr.BoolOp BoolOp.And [_] _) _ _ _); (with_reducible refine gb_and1 ?_))
  | ((guard_target = GB _ _ (Expr.BoolOp BoolOp.Or [_] _) _ _ _); (with_reducible refine gb_or1 ?_))
  | ((guard_target = GB _ _ (Expr.BoolOp BoolOp.And _ _) _ _ _); (with_reducible refine gb_and ?_))
  | ((guard_target = GB _ _ (Expr.BoolOp BoolOp.Or _ _) _ _ _); (with_reducible refine gb_or ?_)))
local macro_rules | `(tactic| tm_at "gA") => `(tactic| first
  | ((guard_target = GA _ _ ([]) _ _ _); (with_reducible refine ga_nil ?_))
  | ((guard_target = GA _ _ (_ :: _) _ _ _); (with_reducible refine ga_cons ?hst ?_); (case hst => rfl)))
local macro_rules | `(tactic| tm_at "gOp") => `(tactic| first
  | ((guard_target = GOp _ _ (binaryOp Operator.Add) (V.int _) (V.int _) _ _); (with_reducible refine go_add ?_))
  | ((guard_target = GOp _ _ (binaryOp Operator.Sub) (V.int _) (V.int _) _ _); (with_reducible refine go_sub ?_))
  | ((guard_target = GOp _ _ (compareOp CmpOp.Eq) (V.int _) (V.int _) _ _); (with_reducible refine go_eqI ?_))
  | ((guard_target = GOp _ _ (compareOp CmpOp.Lt) (V.int _) (V.int _) _ _); (with_reducible refine go_lt ?_))
  | ((guard_target = GOp _ _ (compareOp CmpOp.LtE) (V.int _) (V.int _) _ _); (with_reducible refine go_le ?_))
  | ((guard_target = GOp _ _ (compareOp CmpOp.Gt) (V.int _) (V.int _) _ _); (with_reducible refine go_gt ?_))
  | ((guard_target = GOp _ _ (compareOp CmpOp.GtE) (V.int _) (V.int _) _ _); (with_reducible refine go_ge ?_))
  | ((guard_target = GOp _ _ (compareOp CmpOp.NotEq) (V.int _) (V.int _) _ _); (with_reducible refine go_neI ?_))
  | ((guard_target = GOp _ _ (binaryOp Operator.Mult) (V.int _) (V.int _) _ _); (with_reducible refine go_mul ?c ?_); (case c => first | (left; constructor <;> omega) | (right; constructor <;> omega)))
  | ((guard_target = GOp _ _ (binaryOp Operator.FloorDiv) (V.int _) (V.int _) _ _); (with_reducible refine go_div ?c ?_); (case c => constructor <;> omega))
  | ((guard_target = GOp _ _ (binaryOp Operator.Mod) (V.int _) (V.int _) _ _); (with_reducible refine go_mod ?c ?_); (case c => omega))
  | ((guard_target = GOp _ _ (compareOp CmpOp.Eq) (V.str _) (V.str _) _ _); (with_reducible refine go_eqT ?_))
  | ((guard_target = GOp _ _ (compareOp CmpOp.NotEq) (V.str _) (V.str _) _ _); (with_reducible refine go_neT ?_))
  | ((guard_target = GOp _ _ (compareOp CmpOp.Eq) (V.bl _) (V.bl _) _ _); (with_reducible refine go_eqB ?_))
  | ((guard_target = GOp _ _ (compareOp CmpOp.NotEq) (V.bl _) (V.bl _) _ _); (with_reducible refine go_neB ?_))
  | ((guard_target = GOp _ _ (compareOp CmpOp.In) (V.int _) (V.ref _) _ _); (with_reducible refine go_inI (by tm_at "sSel") ?_))
  | ((guard_target = GOp _ _ (compareOp CmpOp.NotIn) (V.int _) (V.ref _) _ _); (with_reducible refine go_ninI (by tm_at "sSel") ?_))
  | ((guard_target = GOp _ _ (compareOp CmpOp.In) (V.str _) (V.ref _) _ _); (with_reducible refine go_inT (by tm_at "sSel") ?_))
  | ((guard_target = GOp _ _ (compareOp CmpOp.NotIn) (V.str _) (V.ref _) _ _); (with_reducible refine go_ninT (by tm_at "sSel") ?_))
  | ((guard_target = GOp _ _ (compareOp CmpOp.Eq) (_) (V.non) _ _); (with_reducible refine go_eqS rfl ?_))
  | ((guard_target = GOp _ _ (compareOp CmpOp.NotEq) (_) (V.non) _ _); (with_reducible refine go_neS rfl ?_))
  | ((guard_target = GOp _ _ (compareOp CmpOp.Is) (_) (V.non) _ _); (with_reducible refine go_isN ?_))
  | ((guard_target = GOp _ _ (compareOp CmpOp.IsNot) (_) (V.non) _ _); (with_reducible refine go_notN ?_)))
local macro_rules | `(tactic| tm_at "gC") => `(tactic| first
  | ((guard_target = GC _ _ (Value.type "int") [V.int _] _ _); (with_reducible refine gc_intI ?_))
  | ((guard_target = GC _ _ (Value.type "int") [V.bl _] _ _); (with_reducible refine gc_intB ?_))
  | ((guard_target = GC _ _ (Value.builtin "abs") [V.int _] _ _); (with_reducible refine gc_abs ?_))
  | ((guard_target = GC _ _ (Value.builtin "max") [V.int _, V.int _] _ _); (with_reducible refine gc_max2 ?hc ?_); (case hc => rfl))
  | ((guard_target = GC _ _ (Value.builtin "min") [V.int _, V.int _] _ _); (with_reducible refine gc_min2 ?hc ?_); (case hc => rfl))
  | ((guard_target = GC _ _ (Value.type "range") [V.int _] _ _); (with_reducible refine gc_rng1 ?_))
  | ((guard_target = GC _ _ (Value.type "range") [V.int _, V.int _] _ _); (with_reducible refine gc_rng2 ?_))
  | ((guard_target = GC _ _ (Value.builtin "len") [V.ref _] _ _); (with_reducible refine gc_lenR (by tm_at "sSel") ?_))
  | ((guard_target = GC _ _ (Value.builtin "len") [V.ref _] _ _); (with_reducible refine gc_len (by tm_at "sSel") ?_))
  | ((guard_target = GC _ _ (Value.builtin "len") [V.ref _] _ _); (with_reducible refine gc_lenT (by tm_at "sSel") ?_)))
local macro_rules | `(tactic| tm_at "gF") => `(tactic| first
  | ((guard_target = GF _ _ _ _ _ _); (with_reducible refine gf (by tm_at "sSel") (by tm_at "sLkF") ?hc ?hn ?_); (case hc => assumption); (case hn => assumption))
  | ((guard_target = GFS _ _ _ _ _ _); (with_reducible refine gfs (by tm_at "sRpl") (by tm_at "sPutF") ?hc ?hn ?hz ?_); (case hc => assumption); (case hn => assumption); (case hz => exact Nat.le_of_ble_eq_true rfl))
  | ((guard_target = GFA _ _ _ _ _ _ _ _ _); (with_reducible refine gfa (by tm_at "sSel") (by tm_at "sLkF") ?hc ?hn ?_); (case hc => assumption); (case hn => assumption))
  | ((guard_target = Exists fun _ => Exists fun _ => Exists fun _ => (Rpl _ _ _ _ ∧ _ ∧ _)); (with_reducible refine gfaE (by tm_at "sRpl") (by tm_at "sPutF") ?hz ?_); (case hz => exact Nat.le_of_ble_eq_true rfl))
  | ((guard_target = GAS _ _ _ _ _ _ _ _ _); (with_reducible refine gas (by tm_at "sSel") (by tm_at "sIx") ?_))
  | ((guard_target = (HasL _ _ _ ∧ _)); (with_reducible refine And.intro ?hh ?_); (case hh => tm_at "sHasL"))
  | ((guard_target = (IsIns _ _ _ _ _ ∧ _)); (with_reducible refine And.intro ?hh ?_); (case hh => exact isIns (by tm_at "sSel") (by tm_at "sNoF") (by rfl)))
  | ((guard_target = GApp _ _ _ _ _); (with_reducible refine gapp_pt (by tm_at "sRpl") ?hz ?_); (case hz => tm_at "sZ"))
  | ((guard_target = (List.length _ ≤ PySem.sizeLine ∧ _)); (with_reducible refine And.intro ?hz ?_); (case hz => tm_at "sZ"); intro _)
  | ((guard_target = GIp _ _ Operator.Add (V.int _) (V.int _) _ _); (with_reducible refine gip_add ?_))
  | ((guard_target = GIp _ _ Operator.Sub (V.int _) (V.int _) _ _); (with_reducible refine gip_sub ?_))
  | ((guard_target = GRem _ _ _ _ _); (with_reducible refine grem (by tm_at "sRpl") ?hm ?_); (case hm => assumption))
  | ((guard_target = GO _ _ none _ _ _); (with_reducible refine goN ?_))
  | ((guard_target = GO _ _ (some _) _ _ _); (with_reducible refine goS ?_)))
local macro_rules | `(tactic| tm_at "gIx") => `(tactic| first
  | (with_reducible refine gi_lst (by tm_at "sSel") (by tm_at "sIx") ?_)
  | (with_reducible refine gi_tup (by tm_at "sSel") (by tm_at "sIx") ?_))
local macro_rules | `(tactic| tm_at "gS") => `(tactic| first
  | ((guard_target = GS _ _ (Stmt.Assign [Expr.Name _ _] _ _) _ _ _); (with_reducible refine gs_name (by assumption) (by tm_at "sSlot") (by tm_at "sKd") (by tm_at "sLk") (by tm_at "sLf") ?hsw ?_); (case hsw => rfl))
  | ((guard_target = GS _ _ (Stmt.If _ _ _ _) _ _ _); (with_reducible refine gs_if ?_))
  | ((guard_target = GS _ _ (Stmt.AugAssign (Expr.Name _ _) _ _ _) _ _ _); (with_reducible refine gs_aug (by assumption) (by tm_at "sAt") (by tm_at "sSlot") (by tm_at "sKd") (by tm_at "sLk") (by tm_at "sLf") ?_))
  | ((guard_target = GS _ _ (Stmt.AugAssign (Expr.Attribute _ _ _) _ _ _) _ _ _); (with_reducible refine gs_fldaug ?_))
  | ((guard_target = GS _ _ (Stmt.AugAssign (Expr.Subscript _ _ _) _ _ _) _ _ _); (with_reducible refine gs_augS ?ha ?_); (case ha => intros; rfl))
  | ((guard_target = GS _ _ (Stmt.Return (some _) _) _ _ _); (with_reducible refine gs_ret ?_))
  | ((guard_target = GS _ _ (Stmt.Expr (Expr.Constant _ _ _) _) _ _ _); (with_reducible refine gs_doc ?_))
  | ((guard_target = GS _ _ (Stmt.Expr _ _) _ _ _); (with_reducible refine gs_expr ?hsw ?_); (case hsw => rfl))
  | ((guard_target = GS _ _ (Stmt.Assign [Expr.Attribute _ _ _] _ _) _ _ _); (with_reducible refine gs_fld ?hsw ?_); (case hsw => rfl))
  | ((guard_target = GS _ _ (Stmt.Assign [Expr.Subscript _ _ _] _ _) _ _ _); (with_reducible refine gs_asg ?hsw ?hw ?h1 ?_); (case hsw => rfl); (case hw => rfl); (case h1 => rfl))
  | ((guard_target = GS _ _ (Stmt.Assign [Expr.Tuple _ _ _] _ _) _ _ _); (with_reducible refine gs_asg ?hsw ?hw ?h1 ?_); (case hsw => rfl); (case hw => rfl); (case h1 => rfl))
  | ((guard_target = GS _ _ (Stmt.Return none _) _ _ _); (with_reducible refine gs_retN ?_))
  | ((guard_target = GS _ _ (Stmt.Pass _) _ _ _); (with_reducible refine gs_pass ?_))
  | ((guard_target = GS _ _ (Stmt.Break _) _ _ _); (with_reducible refine gs_break ?_))
  | ((guard_target = GS _ _ (Stmt.Continue _) _ _ _); (with_reducible refine gs_continue ?_)))
local macro_rules | `(tactic| tm_at "gG") => `(tactic| first
  | ((guard_target = GG _ _ (Expr.Name _ _) _ _ _ _); (with_reducible refine gg_name (by assumption) (by tm_at "sSlot") (by tm_at "sKd") (by tm_at "sLk") (by tm_at "sLf") ?_))
  | ((guard_target = GG _ _ (Expr.Subscript _ _ _) _ _ _ _); (with_reducible refine gg_sub ?ha ?_); (case ha => intro _; rfl))
  | ((guard_target = GG _ _ (Expr.Tuple _ _ _) _ _ _ _); (with_reducible refine gg_tup ?hc (by tm_at "sSel") ?hn ?hst ?_); (case hc => rfl); (case hn => rfl); (case hst => rfl)))
local macro_rules | `(tactic| tm_at "g") => `(tactic| first
  | ((guard_target = GE _ _ _ _ _ _); tm_at "gE")
  | ((guard_target = GOp _ _ _ _ _ _ _); tm_at "gOp")
  | ((guard_target = GIx _ _ _ _ _ _); tm_at "gIx")
  | tm_at "gF"
  | ((guard_target = (wipe _ _ = wipe _ _ ∧ _)); refine And.intro rfl ?_)
  | ((guard_target = GGs _ _ [] _ _ _ _); (with_reducible refine ggs_nil ?_))
  | ((guard_target = GGs _ _ (_ :: _) _ _ _ _); (with_reducible refine ggs_cons ?hst ?_); (case hst => rfl))
  | ((guard_target = GTs _ _ [] _ _ _); (with_reducible refine gts_nil ?_))
  | ((guard_target = GTs _ _ [_] _ _ _); (with_reducible refine gts_one ?_))
  | ((guard_target = KB _ _ _); (with_reducible refine KB.mk ?_))
  | ((guard_target = GA _ _ _ _ _ _); tm_at "gA")
  | ((guard_target = GS _ _ _ _ _ _); tm_at "gS")
  | ((guard_target = GSs _ _ (_ :: _) _ _ _); (with_reducible refine gss_cons ?_))
  | ((guard_target = GSs _ _ ([]) _ _ _); (with_reducible refine gss_nil ?_))
  | ((guard_target = GT _ _ _ _ _ _); tm_at "gT")
  | ((guard_target = GB _ _ _ _ _ _); tm_at "gB")
  | ((guard_target = GC _ _ _ _ _ _); tm_at "gC")
  | ((guard_target = GG _ _ _ _ _ _ _); tm_at "gG")
  | ((guard_target = GPutL _ _ _ _ _); (with_reducible refine gput (by tm_at "sRpl") (by tm_at "sPut") ?_))
  | ((guard_target = if true = true then _ else _); (with_reducible refine iteT ?_))
  | ((guard_target = if (!true) = true then _ else _); (with_reducible refine iteNT ?_))
  | ((guard_target = if (!false) = true then _ else _); (with_reducible refine iteNF ?_))
  | ((guard_target = if false = true then _ else _); (with_reducible refine iteF ?_))
  | ((guard_target = Exists _); (with_reducible refine Exists.intro _ (And.intro rfl ?_)))
  | (first | with_reducible refine ite_nI ?_ | with_reducible refine ite_nN ?_ | with_reducible refine ite_nnI ?_ | with_reducible refine ite_nnN ?_ | with_reducible refine ite_nR ?_ | with_reducible refine ite_nnR ?_))
local macro_rules | `(tactic| tm_at "sSetN") => `(tactic| (first | exact SetN.here | (apply SetN.there; tm_at "sSetN")))
local macro_rules | `(tactic| tm_at "sWp") => `(tactic| (first | exact Wp.nil | (apply Wp.cons; (tm_at "sWp"); (tm_at "sSetN"))))
local macro_rules | `(tactic| tm_at "fits") => `(tactic| (first | apply Fits.mk | apply FitL.mk))
local macro_rules | `(tactic| tm_at "ent") => `(tactic| (apply Fit.ent; tm_at "fit"))
local macro_rules | `(tactic| tm_at "go") => `(tactic| repeat (tm_at "g"))
local macro_rules | `(tactic| tm_at "gs") => `(tactic| repeat ((fail_if_success (guard_target = GSs _ _ (_ :: _) _ _ _)); tm_at "g"))
local macro_rules | `(tactic| tm_at "if") => `(tactic| first
  | (with_reducible refine ite_ndec (fun _ => ?_) (fun _ => ?_))
  | (with_reducible refine ite_dec (fun _ => ?_) (fun _ => ?_))
  | (with_reducible refine ite_nb (fun _ => ?_) (fun _ => ?_))
  | (with_reducible refine ite_b (fun _ => ?_) (fun _ => ?_)))
local macro_rules | `(tactic| tm_at "fit") => `(tactic| (guard_target = Fit _ (CpsR _ _ _ _ :: _); (first | ((with_reducible apply Fit.find); (case s => tm_at "sSelC"); (case t => tm_at "fit")) | ((with_reducible apply cps_want); (case f => tm_at "fit"); (case e => first | rfl | (simp only [vLd]; done) | (simp [raise_ld, vLd, *]; done))))))
local macro_rules | `(tactic| tm_at "fit") => `(tactic| (guard_target = Fit _ (RestP _ _ _ [] :: _); (first | ((with_reducible apply Fit.find); (case s => tm_at "sSelC"); (case t => tm_at "fit")) | ((with_reducible apply rest_want); (case hk => assumption); (case f => tm_at "fit")) | ((with_reducible apply rest_back); (case s => tm_at "sSel"); (case hk => assumption); (case f => tm_at "fit")))))
local macro_rules | `(tactic| tm_at "gEMeth") => `(tactic| (guard_target = GE _ _ (Expr.Call (Expr.Attribute _ "last_mark" _) [] _ _) _ _ _; (refine ge_meth0 (MeAt.e (C := "Copy") (m := "last_mark") (by assumption)) (by tm_at "sRoom") (by tm_at "sXok") ?ht ?_); (case ht => exact ⟨_, rfl⟩)))
local macro_rules | `(tactic| tm_at "gEMeth") => `(tactic| (guard_target = GE _ _ (Expr.Call (Expr.Attribute _ "raise_high" _) [] _ _) _ _ _; (refine ge_meth0 (MeAt.e (C := "Copies") (m := "raise_high") (by assumption)) (by tm_at "sRoom") (by tm_at "sXok") ?ht ?_); (case ht => exact ⟨_, rfl⟩)))
local macro_rules | `(tactic| tm_at "gEMeth") => `(tactic| (guard_target = GE _ _ (Expr.Call (Expr.Attribute _ "sure" _) [] _ _) _ _ _; (refine ge_meth0 (MeAt.e (C := "Copies") (m := "sure") (by assumption)) (by tm_at "sRoom") (by tm_at "sXok") ?ht ?_); (case ht => exact ⟨_, rfl⟩)))
local macro_rules | `(tactic| tm_at "gEMeth") => `(tactic| (guard_target = GE _ _ (Expr.Call (Expr.Attribute _ "alike" _) [] _ _) _ _ _; (refine ge_meth0 (MeAt.e (C := "Copies") (m := "alike") (by assumption)) (by tm_at "sRoom") (by tm_at "sXok") ?ht ?_); (case ht => exact ⟨_, rfl⟩)))
local macro_rules | `(tactic| tm_at "gEMeth") => `(tactic| (guard_target = GE _ _ (Expr.Call (Expr.Attribute _ "turn_end" _) (_ :: _) _ _) _ _ _; (refine ge_meth (MeAt.e (C := "Copy") (m := "turn_end") (by assumption)) (by tm_at "sRoom") (by tm_at "sXok") ?hst ?hpl ?ht ?_); (case hst => rfl); (case hpl => rfl); (case ht => exact ⟨_, rfl⟩)))
local macro_rules | `(tactic| tm_at "gEMeth") => `(tactic| (guard_target = GE _ _ (Expr.Call (Expr.Attribute _ "agree" _) (_ :: _) _ _) _ _ _; (refine ge_meth (MeAt.e (C := "Copies") (m := "agree") (by assumption)) (by tm_at "sRoom") (by tm_at "sXok") ?hst ?hpl ?ht ?_); (case hst => rfl); (case hpl => rfl); (case ht => exact ⟨_, rfl⟩)))
local macro_rules | `(tactic| tm_at "gEMeth") => `(tactic| (guard_target = GE _ _ (Expr.Call (Expr.Attribute _ "give" _) (_ :: _) _ _) _ _ _; (refine ge_meth (MeAt.e (C := "Copies") (m := "give") (by assumption)) (by tm_at "sRoom") (by tm_at "sXok") ?hst ?hpl ?ht ?_); (case hst => rfl); (case hpl => rfl); (case ht => exact ⟨_, rfl⟩)))
local macro_rules | `(tactic| tm_at "gEMeth") => `(tactic| (guard_target = GE _ _ (Expr.Call (Expr.Attribute _ "ask" _) (_ :: _) _ _) _ _ _; (refine ge_meth (MeAt.e (C := "Copies") (m := "ask") (by assumption)) (by tm_at "sRoom") (by tm_at "sXok") ?hst ?hpl ?ht ?_); (case hst => rfl); (case hpl => rfl); (case ht => exact ⟨_, rfl⟩)))
local macro_rules | `(tactic| tm_at "gEMeth") => `(tactic| (guard_target = GE _ _ (Expr.Call (Expr.Attribute _ "down" _) (_ :: _) _ _) _ _ _; (refine ge_meth (MeAt.e (C := "Copies") (m := "down") (by assumption)) (by tm_at "sRoom") (by tm_at "sXok") ?hst ?hpl ?ht ?_); (case hst => rfl); (case hpl => rfl); (case ht => exact ⟨_, rfl⟩)))
local macro_rules | `(tactic| tm_at "gEMeth") => `(tactic| (guard_target = GE _ _ (Expr.Call (Expr.Attribute _ "up_again" _) (_ :: _) _ _) _ _ _; (refine ge_meth (MeAt.e (C := "Copies") (m := "up_again") (by assumption)) (by tm_at "sRoom") (by tm_at "sXok") ?hst ?hpl ?ht ?_); (case hst => rfl); (case hpl => rfl); (case ht => exact ⟨_, rfl⟩)))
local macro_rules | `(tactic| tm_at "gEMeth") => `(tactic| (guard_target = GE _ _ (Expr.Call (Expr.Attribute _ "lead" _) (_ :: _) _ _) _ _ _; (refine ge_meth (MeAt.e (C := "Copies") (m := "lead") (by assumption)) (by tm_at "sRoom") (by tm_at "sXok") ?hst ?hpl ?ht ?_); (case hst => rfl); (case hpl => rfl); (case ht => exact ⟨_, rfl⟩)))
local macro_rules | `(tactic| tm_at "gEMeth") => `(tactic| (guard_target = GE _ _ (Expr.Call (Expr.Attribute _ "give_as" _) (_ :: _) _ _) _ _ _; (refine ge_meth (MeAt.e (C := "Copies") (m := "give_as") (by assumption)) (by tm_at "sRoom") (by tm_at "sXok") ?hst ?hpl ?ht ?_); (case hst => rfl); (case hpl => rfl); (case ht => exact ⟨_, rfl⟩)))
local macro_rules | `(tactic| tm_at "gEMeth") => `(tactic| (guard_target = GE _ _ (Expr.Call (Expr.Attribute _ "lag" _) (_ :: _) _ _) _ _ _; (refine ge_meth (MeAt.e (C := "Copies") (m := "lag") (by assumption)) (by tm_at "sRoom") (by tm_at "sXok") ?hst ?hpl ?ht ?_); (case hst => rfl); (case hpl => rfl); (case ht => exact ⟨_, rfl⟩)))
local macro_rules | `(tactic| tm_at "sIx") => `(tactic| exact at3 (by assumption))
local macro_rules | `(tactic| tm_at "sPut") => `(tactic| (first | exact put3 (g := V.int) (by assumption) | exact put3 (g := V.bl) (by assumption)))
local macro_rules | `(tactic| tm_at "gF") => `(tactic| ((guard_target = (IsIns _ _ _ _ _ ∧ _)); (with_reducible refine And.intro ?hh ?_); (case hh => exact ins_cps (by tm_at "sSel") (fun _ _ _ _ _ _ _ _ => by tm_at "sNoF"))))
section
variable {T : List (Addr × Str)} {P : Program} {w : World} {Kf : PySem.W.Frag} {mg : Str → Option Value} {base : Heap} {f : Addr} {fd : FuncData}
theorem go_rep3 {X : Cx} {p : Addr} {x : V} {fr : Nat → V} {L R' : List SA} {K : GK} (s : Sel L (pt p (.lst [x])) R') (k : ∀ r, K (.ref r) (pt r (.lst (l3 fun _ => x)) :: L)) : GOp T X (binaryOp .Mult) (.ref p) (.int ((l3 fr).length : Nat)) L K := by
  refine go_rep s (by show -(2 ^ 63) ≤ (3 : Int); decide) (by show (3 : Int) < 2 ^ 63; decide) ?_ fun r => k r
  show 1 * 3 ≤ sizeLine
  rw [sizeLine_eq]; omega
/-! ### lead -/
def spLead (Kf : PySem.W.Frag) : SpL := fun vs L K kx => ∃ (o : Addr) (a : Nat → Addr) (S : CS) (k : Nat) (R : List SA), vs = [.ref o, .int (k : Int)] ∧ L = CpsR Kf o a S :: R ∧ k < 3 ∧ Wf S ∧
  (S.leader = none → S.up k = true → (k : Int) ∈ S.wl → K .non (CpsR Kf o a (leadP S k) :: R)) ∧ (S.leader ≠ none ∨ S.up k = false ∨ (k : Int) ∉ S.wl → kx (ND Kf) none (CpsR Kf o a S :: R))
theorem ok_lead (fx : Fx Kf mg) (hlm : MeAt T P w Kf mg base 1 "Copy" "last_mark" (spLM Kf)) (hrh : MeAt T P w Kf mg base 2 "Copies" "raise_high" (spRH Kf)) (F : FunD Kf "lead" "Copies.lead" (defArgs s_Copies_lead) (defBody s_Copies_lead) (defScope s_Copies_lead) [] [] f fd) : FnOk P w Kf mg base (L2.CX P w) 3 f fd ["self", "k"] (spOf T (spLead Kf)) := by
  refine def_in F sc_Copies_lead (fun vs L K kx h => ?_) (fun A outer s H E hr n vs L KK kx h hx σ hσ => ?_)
  · obtain ⟨o, a, S, l, R, rfl, _⟩ := h; rfl
  · obtain ⟨o, a, S, k, R, rfl, rfl, hk, wf, k1, k2⟩ := h
    obtain rfl : σ = [some (.ref o), some (.int (k : Int)), none] := hσ
    cases fx
    cases hld : S.leader with
    | some l =>
      refine cps_in (v := .int (l : Int)) (by tm_at "sSel") (by rw [hld]; rfl) fun dc lc lu lw lk lj => ?_
      refine gss_cons ?_
      tm_at "go"
      refine gs_raise n (by tm_at "sKd") rfl (by assumption) hx rfl ?_
      apply Clo.mk (k2 (.inl (by rw [hld]; nofun)))
      tm_at "ent"
    | none =>
      refine cps_in (v := .non) (by tm_at "sSel") (by rw [hld]; rfl) fun dc lc lu lw lk lj => ?_
      refine gss_cons ?_
      tm_at "go"
      tm_at "if"
      · rename_i hu
        tm_at "go"
        refine gs_raise n (by tm_at "sKd") rfl (by assumption) hx rfl ?_
        apply Clo.mk (k2 (.inr (.inl hu)))
        tm_at "ent"
      · rename_i hu
        tm_at "go"
        tm_at "if"
        · rename_i hm
          tm_at "go"
          refine gs_raise n (by tm_at "sKd") rfl (by assumption) hx rfl ?_
          apply Clo.mk (k2 (.inr (.inr hm)))
          tm_at "ent"
        · rename_i hm
          refine foc_in hk (by tm_at "sSel") fun dx r => ?_
          tm_at "go"
          refine go_rep3 (by tm_at "sSel") fun p1 => ?_
          tm_at "go"
          refine go_rep3 (by tm_at "sSel") fun p2 => ?_
          tm_at "go"
          refine call_lm (c := { S.c k with turn := S.turn + 1 }) (by tm_at "ent") ?_
          tm_at "go"
          refine call_rh (S := { S with turn := S.turn + 1, leader := some k, wl := [(k : Int)], known := fset (fun _ => 0) k ((S.c k).rs.length : Nat), joined := fset (fun _ => false) k true, c := fset S.c k { S.c k with turn := S.turn + 1 } }) (l := k) (by tm_at "ent") rfl ?_ ?_
          · refine ⟨fun x hx => ⟨k, hk, by simpa using hx⟩, fun l h => ?_, fun i hi => ?_, by simp, by simp⟩
            · cases h; exact ⟨hk, by simp⟩
            · by_cases hil : i = k
              · subst hil
                show (fset S.c i _ i).rs.length ≤ 1000
                rw [fset_same]; exact wf.len i hi
              · show (fset S.c k _ i).rs.length ≤ 1000
                rw [fset_ne hil]; exact wf.len i hi
          tm_at "go"
          apply Clo.mk (k1 hld hu hm)
          show Ent T _ (CpsR Kf o a (raise _ k) :: R)
          tm_at "ent"
end
end K04
set_option Elab.async false
set_option linter.all false
set_option maxRecDepth 100000
set_option pp.deepTerms false
set_option pp.deepTerms.threshold 10
set_option pp.maxSteps 1500
namespace K04
open PySem PySem.Spec L2 SW
open PyProof.Rows hiding St
local macro_rules | `(tactic| tm_at "sAt") => `(tactic| with_reducible (first | exact At.here | (apply At.there; tm_at "sAt")))
local macro_rules | `(tactic| tm_at "sSlot") => `(tactic| with_reducible (first | exact Slot.here | (apply Slot.there; tm_at "sSlot")))
local macro_rules | `(tactic| tm_at "sKd") => `(tactic| with_reducible (first | exact Kd.here | (apply Kd.there; tm_at "sKd")))
local macro_rules | `(tactic| tm_at "sSel") => `(tactic| with_reducible (first | exact Sel.here | (apply Sel.there; tm_at "sSel")))
local macro_rules | `(tactic| tm_at "sRpl") => `(tactic| with_reducible (first | exact Rpl.here | (apply Rpl.there; tm_at "sRpl")))
local macro_rules | `(tactic| tm_at "sTk") => `(tactic| (first | exact Tk.nil | (apply Tk.cons; (tm_at "sSel"); (tm_at "sTk"))))
local macro_rules | `(tactic| tm_at "sVk") => `(tactic| first
  | exact Vk.l
  | exact Vk.c
  | exact Vk.f)
local macro_rules | `(tactic| tm_at "sLk") => `(tactic| first
  | exact Lk.l
  | exact Lk.c)
local macro_rules | `(tactic| tm_at "sLf") => `(tactic| first
  | exact Or.inl rfl
  | exact Or.inr rfl)
local macro_rules | `(tactic| tm_at "sRoom") => `(tactic| first
  | assumption
  | exact L2.Room.mono (by assumption) (by decide))
local macro_rules | `(tactic| tm_at "sXok") => `(tactic| first
  | assumption
  | exact xok0)
local macro_rules | `(tactic| tm_at "sCv") => `(tactic| (first | with_reducible exact Cv.id | with_reducible exact Cv.lst0 | ((with_reducible refine Cv.pt ?_); tm_at "sEq") | ((with_reducible refine Cv.lst ?_); tm_at "sEq") | ((with_reducible refine Cv.val ?_); tm_at "sEq")))
local macro_rules | `(tactic| tm_at "sEq") => `(tactic| (first | rfl | assumption | (simp; done)))
local macro_rules | `(tactic| tm_at "sSelC") => `(tactic| (first | ((with_reducible apply SelC.here); tm_at "sCv") | ((with_reducible apply SelC.there); tm_at "sSelC")))
local macro_rules | `(tactic| tm_at "fit") => `(tactic| (first | with_reducible exact Fit.refl | with_reducible exact Fit.nil | ((with_reducible apply Fit.find); (case s => tm_at "sSelC"); (case t => tm_at "fit")) | ((with_reducible apply Fit.drop); tm_at "fit")))
local macro_rules | `(tactic| tm_at "sLkF") => `(tactic| with_reducible (first | exact LkF.here | (apply LkF.there (by with_unfolding_all rfl); tm_at "sLkF")))
local macro_rules | `(tactic| tm_at "sNoF") => `(tactic| with_reducible (first | exact NoF.nil | (apply NoF.cons (by with_unfolding_all rfl); tm_at "sNoF")))
local macro_rules | `(tactic| tm_at "sPutF") => `(tactic| with_reducible (first | exact PutF.here | exact PutF.nil | (apply PutF.there (by with_unfolding_all rfl); tm_at "sPutF")))
local macro_rules | `(tactic| tm_at "sHasL") => `(tactic| (first | exact hasL_pt (by tm_at "sSel") | exact hasL_R (by tm_at "sSel")))
local macro_rules | `(tactic| tm_at "sZ") => `(tactic| (first | assumption | (simp only [List.length_cons, List.length_nil, List.length_append, PySem.sizeLine_eq]; omega) | (rw [PySem.sizeLine_eq]; simp; done)))
local macro_rules | `(tactic| tm_at "sIx") => `(tactic| with_unfolding_all rfl)
local macro_rules | `(tactic| tm_at "sSet") => `(tactic| (first | exact SetR.here | (apply SetR.there; tm_at "sSet")))
local macro_rules | `(tactic| tm_at "sPut") => `(tactic| first
  | exact PutAt.c 0 (by with_unfolding_all rfl) (by tm_at "sSet")
  | exact PutAt.c 1 (by with_unfolding_all rfl) (by tm_at "sSet")
  | exact PutAt.c 2 (by with_unfolding_all rfl) (by tm_at "sSet")
  | exact PutAt.c 3 (by with_unfolding_all rfl) (by tm_at "sSet")
  | exact PutAt.c 4 (by with_unfolding_all rfl) (by tm_at "sSet")
  | exact PutAt.c 5 (by with_unfolding_all rfl) (by tm_at "sSet"))
local macro_rules | `(tactic| tm_at "gECall") => `(tactic| first
  | ((guard_target = GE _ _ (Expr.Call (Expr.Name "len" _) _ _ _) _ _ _); (with_reducible refine gb_len (by assumption) (by tm_at "sKd") ?hm ?he ?hpl ?_); (case hm => assumption); (case he => rfl); (case hpl => rfl))
  | ((guard_target = GE _ _ (Expr.Call (Expr.Name "int" _) _ _ _) _ _ _); (with_reducible refine gb_int (by assumption) (by tm_at "sKd") ?hm ?he ?hpl ?_); (case hm => assumption); (case he => rfl); (case hpl => rfl))
  | ((guard_target = GE _ _ (Expr.Call (Expr.Name "str" _) _ _ _) _ _ _); (with_reducible refine gb_str (by assumption) (by tm_at "sKd") ?hm ?he ?hpl ?_); (case hm => assumption); (case he => rfl); (case hpl => rfl))
  | ((guard_target = GE _ _ (Expr.Call (Expr.Name "list" _) _ _ _) _ _ _); (with_reducible refine gb_list (by assumption) (by tm_at "sKd") ?hm ?he ?hpl ?_); (case hm => assumption); (case he => rfl); (case hpl => rfl))
  | ((guard_target = GE _ _ (Expr.Call (Expr.Name "tuple" _) _ _ _) _ _ _); (with_reducible refine gb_tuple (by assumption) (by tm_at "sKd") ?hm ?he ?hpl ?_); (case hm => assumption); (case he => rfl); (case hpl => rfl))
  | ((guard_target = GE _ _ (Expr.Call (Expr.Name "min" _) _ _ _) _ _ _); (with_reducible refine gb_min (by assumption) (by tm_at "sKd") ?hm ?he ?hpl ?_); (case hm => assumption); (case he => rfl); (case hpl => rfl))
  | ((guard_target = GE _ _ (Expr.Call (Expr.Name "max" _) _ _ _) _ _ _); (with_reducible refine gb_max (by assumption) (by tm_at "sKd") ?hm ?he ?hpl ?_); (case hm => assumption); (case he => rfl); (case hpl => rfl))
  | ((guard_target = GE _ _ (Expr.Call (Expr.Name "sum" _) _ _ _) _ _ _); (with_reducible refine gb_sum (by assumption) (by tm_at "sKd") ?hm ?he ?hpl ?_); (case hm => assumption); (case he => rfl); (case hpl => rfl))
  | ((guard_target = GE _ _ (Expr.Call (Expr.Name "sorted" _) _ _ _) _ _ _); (with_reducible refine gb_sorted (by assumption) (by tm_at "sKd") ?hm ?he ?hpl ?_); (case hm => assumption); (case he => rfl); (case hpl => rfl))
  | ((guard_target = GE _ _ (Expr.Call (Expr.Name "abs" _) _ _ _) _ _ _); (with_reducible refine gb_abs (by assumption) (by tm_at "sKd") ?hm ?he ?hpl ?_); (case hm => assumption); (case he => rfl); (case hpl => rfl))
  | ((guard_target = GE _ _ (Expr.Call (Expr.Name "range" _) _ _ _) _ _ _); (with_reducible refine gb_range (by assumption) (by tm_at "sKd") ?hm ?he ?hpl ?_); (case hm => assumption); (case he => rfl); (case hpl => rfl))
  | ((guard_target = GE _ _ (Expr.Call (Expr.Name "any" _) _ _ _) _ _ _); (with_reducible refine gb_any (by assumption) (by tm_at "sKd") ?hm ?he ?hpl ?_); (case hm => assumption); (case he => rfl); (case hpl => rfl))
  | ((guard_target = GE _ _ (Expr.Call (Expr.Name "all" _) _ _ _) _ _ _); (with_reducible refine gb_all (by assumption) (by tm_at "sKd") ?hm ?he ?hpl ?_); (case hm => assumption); (case he => rfl); (case hpl => rfl))
  | ((guard_target = GE _ _ (Expr.Call (Expr.Name "dict" _) _ _ _) _ _ _); (with_reducible refine gb_dict (by assumption) (by tm_at "sKd") ?hm ?he ?hpl ?_); (case hm => assumption); (case he => rfl); (case hpl => rfl))
  | ((guard_target = GE _ _ (Expr.Call (Expr.Name "set" _) _ _ _) _ _ _); (with_reducible refine gb_set (by assumption) (by tm_at "sKd") ?hm ?he ?hpl ?_); (case hm => assumption); (case he => rfl); (case hpl => rfl)))
local macro_rules | `(tactic| tm_at "gECall") => `(tactic| (guard_target = GE _ _ (Expr.Call (Expr.Name "_law_roll" _) (_ :: _) [] _) _ _ _; (refine ge_call (FnAt.e (x := "_law_roll") (by assumption)) (by tm_at "sRoom") (by tm_at "sXok") (Nm.gl (by assumption) (by tm_at "sKd")) ?hdb ?he ?hpl ?_); (case hdb => rfl); (case he => rfl); (case hpl => rfl)))
local macro_rules | `(tactic| tm_at "gECall") => `(tactic| (guard_target = GE _ _ (Expr.Call (Expr.Name "_law_dice" _) (_ :: _) [] _) _ _ _; (refine ge_call (FnAt.e (x := "_law_dice") (by assumption)) (by tm_at "sRoom") (by tm_at "sXok") (Nm.gl (by assumption) (by tm_at "sKd")) ?hdb ?he ?hpl ?_); (case hdb => rfl); (case he => rfl); (case hpl => rfl)))
local macro_rules | `(tactic| tm_at "gECall") => `(tactic| (guard_target = GE _ _ (Expr.Call (Expr.Name "_law_rounds" _) (_ :: _) [] _) _ _ _; (refine ge_call (FnAt.e (x := "_law_rounds") (by assumption)) (by tm_at "sRoom") (by tm_at "sXok") (Nm.gl (by assumption) (by tm_at "sKd")) ?hdb ?he ?hpl ?_); (case hdb => rfl); (case he => rfl); (case hpl => rfl)))
local macro_rules | `(tactic| tm_at "gECall") => `(tactic| (guard_target = GE _ _ (Expr.Call (Expr.Name "_law_deed" _) (_ :: _) [] _) _ _ _; (refine ge_call (FnAt.e (x := "_law_deed") (by assumption)) (by tm_at "sRoom") (by tm_at "sXok") (Nm.gl (by assumption) (by tm_at "sKd")) ?hdb ?he ?hpl ?_); (case hdb => rfl); (case he => rfl); (case hpl => rfl)))
local macro_rules | `(tactic| tm_at "gE") => `(tactic| first
  | ((guard_target = GE _ _ (Expr.Name _ _) _ _ _); (with_reducible refine ge_name (by assumption) (by tm_at "sAt") (by tm_at "sKd") (by tm_at "sVk") rfl ?_))
  | ((guard_target = GE _ _ (Expr.Constant (Const.int _) _ _) _ _ _); (with_reducible refine ge_int ?_))
  | ((guard_target = GE _ _ (Expr.Attribute _ _ _) _ _ _); (with_reducible refine ge_fld ?hb ?_); (case hb => rfl))
  | ((guard_target = GE _ _ (Expr.Subscript _ (Expr.Slice _ _ none _) _) _ _ _); (with_reducible refine ge_slice ?_))
  | ((guard_target = GE _ _ (Expr.Call (Expr.Attribute _ _ _) _ _ _) _ _ _); tm_at "gEMeth")
  | ((guard_target = GE _ _ (Expr.Subscript _ _ _) _ _ _); (with_reducible refine ge_sub ?hs ?_); (case hs => exact fun _ _ => rfl))
  | ((guard_target = GE _ _ (Expr.BinOp _ _ _ _) _ _ _); (with_reducible refine ge_bin ?_))
  | ((guard_target = GE _ _ (Expr.Constant (Const.str _) _ _) _ _ _); (with_reducible refine ge_str ?_))
  | ((guard_target = GE _ _ (Expr.Call (Expr.Name _ _) _ _ _) _ _ _); tm_at "gECall")
  | ((guard_target = GE _ _ (Expr.List _ _) _ _ _); (with_reducible refine ge_lst ?_))
  | ((guard_target = GE _ _ (Expr.Tuple _ _ _) _ _ _); (with_reducible refine ge_tup ?_))
  | ((guard_target = GE _ _ (Expr.Constant Const.none _ _) _ _ _); (with_reducible refine ge_none ?_))
  | ((guard_target = GE _ _ (Expr.Constant (Const.bool _) _ _) _ _ _); (with_reducible refine ge_bl ?_))
  | ((guard_target = GE _ _ (Expr.Compare _ [_] [_] _) _ _ _); (with_reducible refine ge_cmp ?hm ?_); (case hm => first | exact nomark _ | rfl))
  | ((guard_target = GE _ _ (Expr.UnaryOp UnaryOp.Not _ _) _ _ _); (with_reducible refine ge_not ?_))
  | ((guard_target = GE _ _ (Expr.UnaryOp _ _ _) _ _ _); (with_reducible refine ge_un ?_))
  | ((guard_target = GE _ _ (Expr.IfExp _ _ _ _) _ _ _); (with_reducible refine ge_if ?_))
  | ((guard_target = GE _ _ (Expr.Compare _ [_, _] [_, _] _) _ _ _); (with_reducible refine ge_chain ?hm ?_); (case hm => with_unfolding_all rfl))
  | ((guard_target = GE _ _ (Expr.BoolOp _ [_] _) _ _ _); (with_reducible refine ge_one ?_))
  | ((guard_target = GE _ _ (Expr.BoolOp BoolOp.And _ _) _ _ _); (with_reducible refine ge_and ?_))
  | ((guard_target = GE _ _ (Expr.BoolOp BoolOp.Or _ _) _ _ _); (with_reducible refine ge_or ?_)))
local macro_rules | `(tactic| tm_at "gEMeth") => `(tactic| first
  | ((guard_target = GE _ _ (Expr.Call (Expr.Attribute _ "append" _) [_] [] _) _ _ _); (with_reducible refine ge_append ?h1 ?h2 ?h3 ?h4 ?h5 ?_); (case h1 => rfl); (case h2 => rfl); (case h3 => rfl); (case h4 => rfl); (case h5 => rfl))
  | ((guard_target = GE _ _ (Expr.Call (Expr.Attribute _ "extend" _) [_] [] _) _ _ _); (with_reducible refine ge_extend ?h1 ?h2 ?h3 ?h4 ?h5 ?_); (case h1 => rfl); (case h2 => rfl); (case h3 => rfl); (case h4 => rfl); (case h5 => rfl))
  | ((guard_target = GE _ _ (Expr.Call (Expr.Attribute _ "remove" _) [_] [] _) _ _ _); (with_reducible refine ge_remove ?h1 ?h2 ?h3 ?h4 ?h5 ?_); (case h1 => rfl); (case h2 => rfl); (case h3 => rfl); (case h4 => rfl); (case h5 => rfl))
  | ((guard_target = GE _ _ (Expr.Call (Expr.Attribute _ "pop" _) [_] [] _) _ _ _); (with_reducible refine ge_popAt ?h1 ?h2 ?h3 ?h4 ?h5 ?_); (case h1 => rfl); (case h2 => rfl); (case h3 => rfl); (case h4 => rfl); (case h5 => rfl)))
local macro_rules | `(tactic| tm_at "gT") => `(tactic| first
  | ((guard_target = GT _ _ (Expr.Compare _ [_] [_] _) _ _ _); (with_reducible refine gt_cmp ?hm ?_); (case hm => first | exact nomark _ | rfl))
  | ((guard_target = GT _ _ (Expr.UnaryOp UnaryOp.Not _ _) _ _ _); (with_reducible refine gt_not ?_))
  | ((guard_target = GT _ _ (Expr.BoolOp _ _ _) _ _ _); (with_reducible refine gt_bool ?_))
  | ((guard_target = GT _ _ (Expr.Compare _ [_, _] [_, _] _) _ _ _); (with_reducible refine gt_chain ?hm ?_); (case hm => with_unfolding_all rfl))
  | ((guard_target = GT _ _ (Expr.Call _ _ _ _) _ _ _); (with_reducible refine gt_val ?he ?_); (case he => intro _; rfl))
  | ((guard_target = GT _ _ (Expr.Subscript _ _ _) _ _ _); (with_reducible refine gt_val ?he ?_); (case he => intro _; rfl))
  | ((guard_target = GT _ _ (Expr.Name _ _) _ _ _); (with_reducible refine gt_val ?he ?_); (case he => intro _; rfl))
  | ((guard_target = GT _ _ (Expr.Attribute _ _ _) _ _ _); (with_reducible refine gt_val ?he ?_); (case he => intro _; rfl)))
local macro_rules | `(tactic| tm_at "gB") => `(tactic| first
  | ((guard_target = GB _ _ (Expr.BoolOp BoolOp.And [_] _) _ _ _); (with_reducible refine gb_and1 ?_))
  | ((guard_target = GB _ _ (Expr.BoolOp BoolOp.Or [_] _) _ _ _); (with_reducible refine gb_or1 ?_))
  | ((guard_target = GB _ _ (Expr.BoolOp BoolOp.And _ _) _ _ _); (with_reducible refine gb_and ?_))
  | ((guard_target = GB _ _ (Expr.BoolOp BoolOp.Or _ _) _ _ _); (with_reducible refine gb_or ?_)))
local macro_rules | `(tactic| tm_at "gA") => `(tactic| first
  | ((guard_target = GA _ _ ([]) _ _ _); (with_reducible refine ga_nil ?_))
  | ((guard_target = GA _ _ (_ :: _) _ _ _); (with_reducible refine ga_cons ?hst ?_); (case hst => rfl)))
local macro_rules | `(tactic| tm_at "gOp") => `(tactic| first
  | ((guard_target = GOp _ _ (binaryOp Operator.Add) (V.int _) (V.int _) _ _); (with_reducible refine go_add ?_))
  | ((guard_target = GOp _ _ (binaryOp Operator.Sub) (V.int _) (V.int _) _ _); (with_reducible refine go_sub ?_))
  | ((guard_target = GOp _ _ (compareOp CmpOp.Eq) (V.int _) (V.int _) _ _); (with_reducible refine go_eqI ?_))
  | ((guard_target = GOp _ _ (compareOp CmpOp.Lt) (V.int _) (V.int _) _ _); (with_reducible refine go_lt ?_))
  | ((guard_target = GOp _ _ (compareOp CmpOp.LtE) (V.int _) (V.int _) _ _); (with_reducible refine go_le ?_))
  | ((guard_target = GOp _ _ (compareOp CmpOp.Gt) (V.int _) (V.int _) _ _); (with_reducible refine go_gt ?_))
  | ((guard_target = GOp _ _ (compareOp CmpOp.GtE) (V.int _) (V.int _) _ _); (with_reducible refine go_ge ?_))
  | ((guard_target = GOp _ _ (compareOp CmpOp.NotEq) (V.int _) (V.int _) _ _); (with_reducible refine go_neI ?_))
  | ((guard_target = GOp _ _ (binaryOp Operator.Mult) (V.int _) (V.int _) _ _); (with_reducible refine go_mul ?c ?_); (case c => first | (left; constructor <;> omega) | (right; constructor <;> omega)))
  | ((guard_target = GOp _ _ (binaryOp Operator.FloorDiv) (V.int _) (V.int _) _ _); (with_reducible refine go_div ?c ?_); (case c => constructor <;> omega))
  | ((guard_target = GOp _ _ (binaryOp Operator.Mod) (V.int _) (V.int _) _ _); (with_reducible refine go_mod ?c ?_); (case c => omega))
  | ((guard_target = GOp _ _ (compareOp CmpOp.Eq) (V.str _) (V.str _) _ _); (with_reducible refine go_eqT ?_))
  | ((guard_target = GOp _ _ (compareOp CmpOp.NotEq) (V.str _) (V.str _) _ _); (with_reducible refine go_neT ?_))
  | ((guard_target = GOp _ _ (compareOp CmpOp.Eq) (V.bl _) (V.bl _) _ _); (with_reducible refine go_eqB ?_))
  | ((guard_target = GOp _ _ (compareOp CmpOp.NotEq) (V.bl _) (V.bl _) _ _); (with_reducible refine go_neB ?_))
  | ((guard_target = GOp _ _ (compareOp CmpOp.In) (V.int _) (V.ref _) _ _); (with_reducible refine go_inI (by tm_at "sSel") ?_))
  | ((guard_target = GOp _ _ (compareOp CmpOp.NotIn) (V.int _) (V.ref _) _ _); (with_reducible refine go_ninI (by tm_at "sSel") ?_))
  | ((guard_target = GOp _ _ (compareOp CmpOp.In) (V.str _) (V.ref _) _ _); (with_reducible refine go_inT (by tm_at "sSel") ?_))
  | ((guard_target = GOp _ _ (compareOp CmpOp.NotIn) (V.str _) (V.ref _) _ _); (with_reducible refine go_ninT (by tm_at "sSel") ?_))
  | ((guard_target = GOp _ _ (compareOp CmpOp.Eq) (_) (V.non) _ _); (with_reducible refine go_eqS rfl ?_))
  | ((guard_target = GOp _ _ (compareOp CmpOp.NotEq) (_) (V.non) _ _); (with_reducible refine go_neS rfl ?_))
  | ((guard_target = GOp _ _ (compareOp CmpOp.Is) (_) (V.non) _ _); (with_reducible refine go_isN ?_))
  | ((guard_target = GOp _ _ (compareOp CmpOp.IsNot) (_) (V.non) _ _); (with_reducible refine go_notN ?_)))
local macro_rules | `(tactic| tm_at "gC") => `(tactic| first
  | ((guard_target = GC _ _ (Value.type "int") [V.int _] _ _); (with_reducible refine gc_intI ?_))
  | ((guard_target = GC _ _ (Value.type "int") [V.bl _] _ _); (with_reducible refine gc_intB ?_))
  | ((guard_target = GC _ _ (Value.builtin "abs") [V.int _] _ _); (with_reducible refine gc_abs ?_))
  | ((guard_target = GC _ _ (Value.builtin "max") [V.int _, V.int _] _ _); (with_reducible refine gc_max2 ?hc ?_); (case hc => rfl))
  | ((guard_target = GC _ _ (Value.builtin "min") [V.int _, V.int _] _ _); (with_reducible refine gc_min2 ?hc ?_); (case hc => rfl))
  | ((guard_target = GC _ _ (Value.type "range") [V.int _] _ _); (with_reducible refine gc_rng1 ?_))
  | ((guard_target = GC _ _ (Value.type "range") [V.int _, V.int _] _ _); (with_reducible refine gc_rng2 ?_))
  | ((guard_target = GC _ _ (Value.builtin "len") [V.ref _] _ _); (with_reducible refine gc_lenR (by tm_at "sSel") ?_))
  | ((guard_target = GC _ _ (Value.builtin "len") [V.ref _] _ _); (with_reducible refine gc_len (by tm_at "sSel") ?_))
  | ((guard_target = GC _ _ (Value.builtin "len") [V.ref _] _ _); (with_reducible refine gc_lenT (by tm_at "sSel") ?_)))
local macro_rules | `(tactic| tm_at "gF") => `(tactic| first
  | ((guard_target = GF _ _ _ _ _ _); (with_reducible refine gf (by tm_at "sSel") (by tm_at "sLkF") ?hc ?hn ?_); (case hc => assumption); (case hn => assumption))
  | ((guard_target = GFS _ _ _ _ _ _); (with_reducible refine gfs (by tm_at "sRpl") (by tm_at "sPutF") ?hc ?hn ?hz ?_); (case hc => assumption); (case hn => assumption); (case hz => exact Nat.le_of_ble_eq_true rfl))
  | ((guard_target = GFA _ _ _ _ _ _ _ _ _); (with_reducible refine gfa (by tm_at "sSel") (by tm_at "sLkF") ?hc ?hn ?_); (case hc => assumption); (case hn => assumption))
  | ((guard_target = Exists fun _ => Exists fun _ => Exists fun _ => (Rpl _ _ _ _ ∧ _ ∧ _)); (with_reducible refine gfaE (by tm_at "sRpl") (by tm_at "sPutF") ?hz ?_); (case hz => exact Nat.le_of_ble_eq_true rfl))
  | ((guard_target = GAS _ _ _ _ _ _ _ _ _); (with_reducible refine gas (by tm_at "sSel") (by tm_at "sIx") ?_))
  | ((guard_target = (HasL _ _ _ ∧ _)); (with_reducible refine And.intro ?hh ?_); (case hh => tm_at "sHasL"))
  | ((guard_target = (IsIns _ _ _ _ _ ∧ _)); (with_reducible refine And.intro ?hh ?_); (case hh => exact isIns (by tm_at "sSel") (by tm_at "sNoF") (by rfl)))
  | ((guard_target = GApp _ _ _ _ _); (with_reducible refine gapp_pt (by tm_at "sRpl") ?hz ?_); (case hz => tm_at "sZ"))
  | ((guard_target = (List.length _ ≤ PySem.sizeLine ∧ _)); (with_reducible refine And.intro ?hz ?_); (case hz => tm_at "sZ"); intro _)
  | ((guard_target = GIp _ _ Operator.Add (V.int _) (V.int _) _ _); (with_reducible refine gip_add ?_))
  | ((guard_target = GIp _ _ Operator.Sub (V.int _) (V.int _) _ _); (with_reducible refine gip_sub ?_))
  | ((guard_target = GRem _ _ _ _ _); (with_reducible refine grem (by tm_at "sRpl") ?hm ?_); (case hm => assumption))
  | ((guard_target = GO _ _ none _ _ _); (with_reducible refine goN ?_))
  | ((guard_target = GO _ _ (some _) _ _ _); (with_reducible refine goS ?_)))
local macro_rules | `(tactic| tm_at "gIx") => `(tactic| first
  | (with_reducible refine gi_lst (by tm_at "sSel") (by tm_at "sIx") ?_)
  | (with_reducible refine gi_tup (by tm_at "sSel") (by tm_at "sIx") ?_))
local macro_rules | `(tactic| tm_at "gS") => `(tactic| first
  | ((guard_target = GS _ _ (Stmt.Assign [Expr.Name _ _] _ _) _ _ _); (with_reducible refine gs_name (by assumption) (by tm_at "sSlot") (by tm_at "sKd") (by tm_at "sLk") (by tm_at "sLf") ?hsw ?_); (case hsw => rfl))
  | ((guard_target = GS _ _ (Stmt.If _ _ _ _) _ _ _); (with_reducible refine gs_if ?_))
  | ((guard_target = GS _ _ (Stmt.AugAssign (Expr.Name _ _) _ _ _) _ _ _); (with_reducible refine gs_aug (by assumption) (by tm_at "sAt") (by tm_at "sSlot") (by tm_at "sKd") (by tm_at "sLk") (by tm_at "sLf") ?_))
  | ((guard_target = GS _ _ (Stmt.AugAssign (Expr.Attribute _ _ _) _ _ _) _ _ _); (with_reducible refine gs_fldaug ?_))
  | ((guard_target = GS _ _ (Stmt.AugAssign (Expr.Subscript _ _ _) _ _ _) _ _ _); (with_reducible refine gs_augS ?ha ?_); (case ha => intros; rfl))
  | ((guard_target = GS _ _ (Stmt.Return (some _) _) _ _ _); (with_reducible refine gs_ret ?_))
  | ((guard_target = GS _ _ (Stmt.Expr (Expr.Constant _ _ _) _) _ _ _); (with_reducible refine gs_doc ?_))
  | ((guard_target = GS _ _ (Stmt.Expr _ _) _ _ _); (with_reducible refine gs_expr ?hsw ?_); (case hsw => rfl))
  | ((guard_target = GS _ _ (Stmt.Assign [Expr.Attribute _ _ _] _ _) _ _ _); (with_reducible refine gs_fld ?hsw ?_); (case hsw => rfl))
  | ((guard_target = GS _ _ (Stmt.Assign [Expr.Subscript _ _ _] _ _) _ _ _); (with_reducible refine gs_asg ?hsw ?hw ?h1 ?_); (case hsw => rfl); (case hw => rfl); (case h1 => rfl))
  | ((guard_target = GS _ _ (Stmt.Assign [Expr.Tuple _ _ _] _ _) _ _ _); (with_reducible refine gs_asg ?hsw ?hw ?h1 ?_); (case hsw => rfl); (case hw => rfl); (case h1 => rfl))
  | ((guard_target = GS _ _ (Stmt.Return none _) _ _ _); (with_reducible refine gs_retN ?_))
  | ((guard_target = GS _ _ (Stmt.Pass _) _ _ _); (with_reducible refine gs_pass ?_))
  | ((guard_target = GS _ _ (Stmt.Break _) _ _ _); (with_reducible refine gs_break ?_))
  | ((guard_target = GS _ _ (Stmt.Continue _) _ _ _); (with_reducible refine gs_continue ?_)))
local macro_rules | `(tactic| tm_at "gG") => `(tactic| first
  | ((guard_target = GG _ _ (Expr.Name _ _) _ _ _ _); (with_reducible refine gg_name (by assumption) (by tm_at "sSlot") (by tm_at "sKd") (by tm_at "sLk") (by tm_at "sLf") ?_))
  | ((guard_target = GG _ _ (Expr.Subscript _ _ _) _ _ _ _); (with_reducible refine gg_sub ?ha ?_); (case ha => intro _; rfl))
  | ((guard_target = GG _ _ (Expr.Tuple _ _ _) _ _ _ _); (with_reducible refine gg_tup ?hc (by tm_at "sSel") ?hn ?hst ?_); (case hc => rfl); (case hn => rfl); (case hst => rfl)))
local macro_rules | `(tactic| tm_at "g") => `(tactic| first
  | ((guard_target = GE _ _ _ _ _ _); tm_at "gE")
  | ((guard_target = GOp _ _ _ _ _ _ _); tm_at "gOp")
  | ((guard_target = GIx _ _ _ _ _ _); tm_at "gIx")
  | tm_at "gF"
  | ((guard_target = (wipe _ _ = wipe _ _ ∧ _)); refine And.intro rfl ?_)
  | ((guard_target = GGs _ _ [] _ _ _ _); (with_reducible refine ggs_nil ?_))
  | ((guard_target = GGs _ _ (_ :: _) _ _ _ _); (with_reducible refine ggs_cons ?hst ?_); (case hst => rfl))
  | ((guard_target = GTs _ _ [] _ _ _); (with_reducible refine gts_nil ?_))
  | ((guard_target = GTs _ _ [_] _ _ _); (with_reducible refine gts_one ?_))
  | ((guard_target = KB _ _ _); (with_reducible refine KB.mk ?_))
  | ((guard_target = GA _ _ _ _ _ _); tm_at "gA")
  | ((guard_target = GS _ _ _ _ _ _); tm_at "gS")
  | ((guard_target = GSs _ _ (_ :: _) _ _ _); (with_reducible refine gss_cons ?_))
  | ((guard_target = GSs _ _ ([]) _ _ _); (with_reducible refine gss_nil ?_))
  | ((guard_target = GT _ _ _ _ _ _); tm_at "gT")
  | ((guard_target = GB _ _ _ _ _ _); tm_at "gB")
  | ((guard_target = GC _ _ _ _ _ _); tm_at "gC")
  | ((guard_target = GG _ _ _ _ _ _ _); tm_at "gG")
  | ((guard_target = GPutL _ _ _ _ _); (with_reducible refine gput (by tm_at "sRpl") (by tm_at "sPut") ?_))
  | ((guard_target = if true = true then _ else _); (with_reducible refine iteT ?_))
  | ((guard_target = if (!true) = true then _ else _); (with_reducible refine iteNT ?_))
  | ((guard_target = if (!false) = true then _ else _); (with_reducible refine iteNF ?_))
  | ((guard_target = if false = true then _ else _); (with_reducible refine iteF ?_))
  | ((guard_target = Exists _); (with_reducible refine Exists.intro _ (And.intro rfl ?_)))
  | (first | with_reducible refine ite_nI ?_ | with_reducible refine ite_nN ?_ | with_reducible refine ite_nnI ?_ | with_reducible refine ite_nnN ?_ | with_reducible refine ite_nR ?_ | with_reducible refine ite_nnR ?_))
local macro_rules | `(tactic| tm_at "sSetN") => `(tactic| (first | exact SetN.here | (apply SetN.there; tm_at "sSetN")))
local macro_rules | `(tactic| tm_at "sWp") => `(tactic| (first | exact Wp.nil | (apply Wp.cons; (tm_at "sWp"); (tm_at "sSetN"))))
local macro_rules | `(tactic| tm_at "fits") => `(tactic| (first | apply Fits.mk | apply FitL.mk))
local macro_rules | `(tactic| tm_at "ent") => `(tactic| (apply Fit.ent; tm_at "fit"))
local macro_rules | `(tactic| tm_at "go") => `(tactic| repeat (tm_at "g"))
local macro_rules | `(tactic| tm_at "gs") => `(tactic| repeat ((fail_if_success (guard_target = GSs _ _ (_ :: _) _ _ _)); tm_at "g"))
local macro_rules | `(tactic| tm_at "if") => `(tactic| first
  | (with_reducible refine ite_ndec (fun _ => ?_) (fun _ => ?_))
  | (with_reducible refine ite_dec (fun _ => ?_) (fun _ => ?_))
  | (with_reducible refine ite_nb (fun _ => ?_) (fun _ => ?_))
  | (with_reducible refine ite_b (fun _ => ?_) (fun _ => ?_)))
local macro_rules | `(tactic| tm_at "fit") => `(tactic| (guard_target = Fit _ (CpsR _ _ _ _ :: _); (first | ((with_reducible apply Fit.find); (case s => tm_at "sSelC"); (case t => tm_at "fit")) | ((with_reducible apply cps_want); (case f => tm_at "fit"); (case e => first | rfl | (simp only [vLd]; done) | (simp [raise_ld, vLd, *]; done))))))
local macro_rules | `(tactic| tm_at "fit") => `(tactic| (guard_target = Fit _ (RestP _ _ _ [] :: _); (first | ((with_reducible apply Fit.find); (case s => tm_at "sSelC"); (case t => tm_at "fit")) | ((with_reducible apply rest_want); (case hk => assumption); (case f => tm_at "fit")) | ((with_reducible apply rest_back); (case s => tm_at "sSel"); (case hk => assumption); (case f => tm_at "fit")))))
local macro_rules | `(tactic| tm_at "gEMeth") => `(tactic| (guard_target = GE _ _ (Expr.Call (Expr.Attribute _ "last_mark" _) [] _ _) _ _ _; (refine ge_meth0 (MeAt.e (C := "Copy") (m := "last_mark") (by assumption)) (by tm_at "sRoom") (by tm_at "sXok") ?ht ?_); (case ht => exact ⟨_, rfl⟩)))
local macro_rules | `(tactic| tm_at "gEMeth") => `(tactic| (guard_target = GE _ _ (Expr.Call (Expr.Attribute _ "raise_high" _) [] _ _) _ _ _; (refine ge_meth0 (MeAt.e (C := "Copies") (m := "raise_high") (by assumption)) (by tm_at "sRoom") (by tm_at "sXok") ?ht ?_); (case ht => exact ⟨_, rfl⟩)))
local macro_rules | `(tactic| tm_at "gEMeth") => `(tactic| (guard_target = GE _ _ (Expr.Call (Expr.Attribute _ "sure" _) [] _ _) _ _ _; (refine ge_meth0 (MeAt.e (C := "Copies") (m := "sure") (by assumption)) (by tm_at "sRoom") (by tm_at "sXok") ?ht ?_); (case ht => exact ⟨_, rfl⟩)))
local macro_rules | `(tactic| tm_at "gEMeth") => `(tactic| (guard_target = GE _ _ (Expr.Call (Expr.Attribute _ "alike" _) [] _ _) _ _ _; (refine ge_meth0 (MeAt.e (C := "Copies") (m := "alike") (by assumption)) (by tm_at "sRoom") (by tm_at "sXok") ?ht ?_); (case ht => exact ⟨_, rfl⟩)))
local macro_rules | `(tactic| tm_at "gEMeth") => `(tactic| (guard_target = GE _ _ (Expr.Call (Expr.Attribute _ "turn_end" _) (_ :: _) _ _) _ _ _; (refine ge_meth (MeAt.e (C := "Copy") (m := "turn_end") (by assumption)) (by tm_at "sRoom") (by tm_at "sXok") ?hst ?hpl ?ht ?_); (case hst => rfl); (case hpl => rfl); (case ht => exact ⟨_, rfl⟩)))
local macro_rules | `(tactic| tm_at "gEMeth") => `(tactic| (guard_target = GE _ _ (Expr.Call (Expr.Attribute _ "agree" _) (_ :: _) _ _) _ _ _; (refine ge_meth (MeAt.e (C := "Copies") (m := "agree") (by assumption)) (by tm_at "sRoom") (by tm_at "sXok") ?hst ?hpl ?ht ?_); (case hst => rfl); (case hpl => rfl); (case ht => exact ⟨_, rfl⟩)))
local macro_rules | `(tactic| tm_at "gEMeth") => `(tactic| (guard_target = GE _ _ (Expr.Call (Expr.Attribute _ "give" _) (_ :: _) _ _) _ _ _; (refine ge_meth (MeAt.e (C := "Copies") (m := "give") (by assumption)) (by tm_at "sRoom") (by tm_at "sXok") ?hst ?hpl ?ht ?_); (case hst => rfl); (case hpl => rfl); (case ht => exact ⟨_, rfl⟩)))
local macro_rules | `(tactic| tm_at "gEMeth") => `(tactic| (guard_target = GE _ _ (Expr.Call (Expr.Attribute _ "ask" _) (_ :: _) _ _) _ _ _; (refine ge_meth (MeAt.e (C := "Copies") (m := "ask") (by assumption)) (by tm_at "sRoom") (by tm_at "sXok") ?hst ?hpl ?ht ?_); (case hst => rfl); (case hpl => rfl); (case ht => exact ⟨_, rfl⟩)))
local macro_rules | `(tactic| tm_at "gEMeth") => `(tactic| (guard_target = GE _ _ (Expr.Call (Expr.Attribute _ "down" _) (_ :: _) _ _) _ _ _; (refine ge_meth (MeAt.e (C := "Copies") (m := "down") (by assumption)) (by tm_at "sRoom") (by tm_at "sXok") ?hst ?hpl ?ht ?_); (case hst => rfl); (case hpl => rfl); (case ht => exact ⟨_, rfl⟩)))
local macro_rules | `(tactic| tm_at "gEMeth") => `(tactic| (guard_target = GE _ _ (Expr.Call (Expr.Attribute _ "up_again" _) (_ :: _) _ _) _ _ _; (refine ge_meth (MeAt.e (C := "Copies") (m := "up_again") (by assumption)) (by tm_at "sRoom") (by tm_at "sXok") ?hst ?hpl ?ht ?_); (case hst => rfl); (case hpl => rfl); (case ht => exact ⟨_, rfl⟩)))
local macro_rules | `(tactic| tm_at "gEMeth") => `(tactic| (guard_target = GE _ _ (Expr.Call (Expr.Attribute _ "lead" _) (_ :: _) _ _) _ _ _; (refine ge_meth (MeAt.e (C := "Copies") (m := "lead") (by assumption)) (by tm_at "sRoom") (by tm_at "sXok") ?hst ?hpl ?ht ?_); (case hst => rfl); (case hpl => rfl); (case ht => exact ⟨_, rfl⟩)))
local macro_rules | `(tactic| tm_at "gEMeth") => `(tactic| (guard_target = GE _ _ (Expr.Call (Expr.Attribute _ "give_as" _) (_ :: _) _ _) _ _ _; (refine ge_meth (MeAt.e (C := "Copies") (m := "give_as") (by assumption)) (by tm_at "sRoom") (by tm_at "sXok") ?hst ?hpl ?ht ?_); (case hst => rfl); (case hpl => rfl); (case ht => exact ⟨_, rfl⟩)))
local macro_rules | `(tactic| tm_at "gEMeth") => `(tactic| (guard_target = GE _ _ (Expr.Call (Expr.Attribute _ "lag" _) (_ :: _) _ _) _ _ _; (refine ge_meth (MeAt.e (C := "Copies") (m := "lag") (by assumption)) (by tm_at "sRoom") (by tm_at "sXok") ?hst ?hpl ?ht ?_); (case hst => rfl); (case hpl => rfl); (case ht => exact ⟨_, rfl⟩)))
local macro_rules | `(tactic| tm_at "sIx") => `(tactic| exact at3 (by assumption))
local macro_rules | `(tactic| tm_at "sPut") => `(tactic| (first | exact put3 (g := V.int) (by assumption) | exact put3 (g := V.bl) (by assumption)))
local macro_rules | `(tactic| tm_at "gF") => `(tactic| ((guard_target = (IsIns _ _ _ _ _ ∧ _)); (with_reducible refine And.intro ?hh ?_); (case hh => exact ins_cps (by tm_at "sSel") (fun _ _ _ _ _ _ _ _ => by tm_at "sNoF"))))
section
variable {T : List (Addr × Str)} {P : Program} {w : World} {Kf : PySem.W.Frag} {mg : Str → Option Value} {base : Heap} {f : Addr} {fd : FuncData}
/-! ### give_as: only its refusal is wanted -/
abbrev FE (Kf : PySem.W.Frag) : Value := .ref (He.ga Kf "Fenced")
def spGA (Kf : PySem.W.Frag) : SpL := fun vs L K kx => ∃ (o : Addr) (a : Nat → Addr) (S : CS) (k : Nat) (t : Int) (what : Str) (R : List SA), vs = [.ref o, .int (k : Int), .int t, .str what] ∧ L = CpsR Kf o a S :: R ∧
  (S.leader ≠ some k ∨ t ≠ S.turn) ∧ kx (FE Kf) none (CpsR Kf o a S :: R)
theorem ok_ga (fx : Fx Kf mg) (F : FunD Kf "give_as" "Copies.give_as" (defArgs s_Copies_give_as) (defBody s_Copies_give_as) (defScope s_Copies_give_as) [] [] f fd) : FnOk P w Kf mg base (L2.CX P w) 1 f fd ["self", "k", "turn", "what"] (spOf T (spGA Kf)) := by
  refine def_in F sc_Copies_give_as (fun vs L K kx h => ?_) (fun A outer s H E hr n vs L KK kx h hx σ hσ => ?_)
  · obtain ⟨o, a, S, l, t, x, R, rfl, _⟩ := h; rfl
  · obtain ⟨o, a, S, k, t, what, R, rfl, rfl, hc, k1⟩ := h
    obtain rfl : σ = [some (.ref o), some (.int (k : Int)), some (.int t), some (.str what)] := hσ
    cases fx
    cases hld : S.leader with
    | none =>
      refine cps_in (v := .non) (by tm_at "sSel") (by rw [hld]; rfl) fun dc lc lu lw lk lj => ?_
      refine gss_cons ?_
      tm_at "go"
      refine gs_raise n (by tm_at "sKd") rfl (by assumption) hx rfl ?_
      apply Clo.mk k1
      tm_at "ent"
    | some l =>
      refine cps_in (v := .int (l : Int)) (by tm_at "sSel") (by rw [hld]; rfl) fun dc lc lu lw lk lj => ?_
      refine gss_cons ?_
      tm_at "go"
      tm_at "if"
      · tm_at "go"
        refine gs_raise n (by tm_at "sKd") rfl (by assumption) hx rfl ?_
        apply Clo.mk k1
        tm_at "ent"
      · rename_i he
        have he : k = l := by exact_mod_cast he
        tm_at "go"
        tm_at "if"
        · tm_at "go"
          refine gs_raise n (by tm_at "sKd") rfl (by assumption) hx rfl ?_
          apply Clo.mk k1
          tm_at "ent"
        · rename_i ht
          rcases hc with hc | hc
          · exact absurd (by rw [hld, he]) hc
          · exact absurd ht hc
/-! ### sure -/
def sureL (S : CS) (l : Nat) : List Str := (SW.cutD (S.c l).rs none (some (S.c l).high)).map (·.2)
def spSure (Kf : PySem.W.Frag) : SpL := fun vs L K kx => ∃ (o : Addr) (a : Nat → Addr) (S : CS) (R : List SA), vs = [.ref o] ∧ L = CpsR Kf o a S :: R ∧ Wf S ∧
  (S.leader = none → K .non (CpsR Kf o a S :: R)) ∧ (∀ l, S.leader = some l → ∀ v, K v (Val (rTl rStr) v (sureL S l) :: CpsR Kf o a S :: R))
theorem ok_sure (fx : Fx Kf mg) (F : FunD Kf "sure" "Copies.sure" (defArgs s_Copies_sure) (defBody s_Copies_sure) (defScope s_Copies_sure) [] [] f fd) : FnOk P w Kf mg base (L2.CX P w) 1 f fd ["self"] (spOf T (spSure Kf)) := by
  refine def_in F sc_Copies_sure (fun vs L K kx h => ?_) (fun A outer s H E hr n vs L KK kx h hx σ hσ => ?_)
  · obtain ⟨o, a, S, R, rfl, _⟩ := h; rfl
  · obtain ⟨o, a, S, R, rfl, rfl, wf, k1, k2⟩ := h
    obtain rfl : σ = [some (.ref o), none, none, none] := hσ
    cases fx
    cases hld : S.leader with
    | none =>
      refine cps_in (v := .non) (by tm_at "sSel") (by rw [hld]; rfl) fun dc lc lu lw lk lj => ?_
      refine gss_cons ?_
      tm_at "go"
      apply Clo.mk (k1 hld)
      tm_at "ent"
    | some l =>
      obtain ⟨hl, hlw⟩ := wf.ld l hld
      refine cps_in (v := .int (l : Int)) (by tm_at "sSel") (by rw [hld]; rfl) fun dc lc lu lw lk lj => ?_
      refine foc_in hl (by tm_at "sSel") fun dx r => ?_
      refine gss_cons ?_
      tm_at "go"
      refine ge_lcR ow0_Copies_sure rfl n.ndN (blkOk_by (N := n_Copies_sure) (sc := defScope s_Copies_sure) (by decide +kernel)) (by tm_at "sWp") (fun _ => rfl) ?_
      tm_at "go"
      refine gsl_R (by tm_at "sSel") fun q => ?_
      refine ⟨_, _, rRec, SW.cutD (S.c l).rs none (some (S.c l).high), rfl, ⟨_, by tm_at "sSel"⟩, lcgo (fun D (ys : List Str) => LstR rStr D ys) (fun i ys => ys = ((SW.cutD (S.c l).rs none (some (S.c l).high)).take i).map (·.2)) [] rfl (fun D h e => lst0 rStr h e) ?_ ?_⟩
      · rintro D i x Lx ys hi ⟨dd, hd, rfl⟩ e s' H' C cl fp
        simp only [List.singleton_append]
        refine gg_blk (kc := kc0_Copies_sure) n rfl (by decide) fun nb => ?_
        refine gg_pair cInt cStr (rv_val .here) rfl rfl rfl fun _ hg => ?_
        tm_at "go"
        intro s' H' C cl fp
        refine gts_blk (kc := kc0_Copies_sure) n rfl (by decide) fun nb => ?_
        tm_at "go"
        intro s' H' C cl fp
        refine ge_blk (kc := kc0_Copies_sure) n rfl (by decide) fun nb => ?_
        tm_at "go"
        refine lcend_R (d := dd.2) (by tm_at "sRpl") ?_ (rv_str hg) ⟨ys ++ [dd.2], ?_, ?_⟩
        · have h1 := wf.len l hl
          have h2 : (SW.cutD (S.c l).rs none (some (S.c l).high)).length ≤ (S.c l).rs.length := by unfold SW.cutD; simp [List.length_take, List.length_drop]; omega
          rw [e, List.length_map, sizeLine_eq]
          have h3 := List.length_take_le' i (SW.cutD (S.c l).rs none (some (S.c l).high))
          omega
        · show _ = _
          rw [take_succ hd, List.map_append, e]; rfl
        · tm_at "ent"
      · intro D ys e
        tm_at "go"
        refine gc_tupleR (by tm_at "sSel") fun v => ?_
        rw [List.take_length] at e
        subst e
        apply Clo.mk (k2 l hld v)
        tm_at "ent"
end
end K04
set_option Elab.async false
set_option linter.all false
set_option maxRecDepth 100000
set_option maxHeartbeats 800000
set_option pp.deepTerms false
set_option pp.deepTerms.threshold 10
set_option pp.maxSteps 1500
namespace K04
open PySem PySem.Spec L2 SW
open PyProof.Rows hiding St
local macro_rules | `(tactic| tm_at "sAt") => `(tactic| with_reducible (first | exact At.here | (apply At.there; tm_at "sAt")))
local macro_rules | `(tactic| tm_at "sSlot") => `(tactic| with_reducible (first | exact Slot.here | (apply Slot.there; tm_at "sSlot")))
local macro_rules | `(tactic| tm_at "sKd") => `(tactic| with_reducible (first | exact Kd.here | (apply Kd.there; tm_at "sKd")))
local macro_rules | `(tactic| tm_at "sSel") => `(tactic| with_reducible (first | exact Sel.here | (apply Sel.there; tm_at "sSel")))
local macro_rules | `(tactic| tm_at "sRpl") => `(tactic| with_reducible (first | exact Rpl.here | (apply Rpl.there; tm_at "sRpl")))
local macro_rules | `(tactic| tm_at "sTk") => `(tactic| (first | exact Tk.nil | (apply Tk.cons; (tm_at "sSel"); (tm_at "sTk"))))
local macro_rules | `(tactic| tm_at "sVk") => `(tactic| first
  | exact Vk.l
  | exact Vk.c
  | exact Vk.f)
local macro_rules | `(tactic| tm_at "sLk") => `(tactic| first
  | exact Lk.l
  | exact Lk.c)
local macro_rules | `(tactic| tm_at "sLf") => `(tactic| first
  | exact Or.inl rfl
  | exact Or.inr rfl)
local macro_rules | `(tactic| tm_at "sRoom") => `(tactic| first
  | assumption
  | exact L2.Room.mono (by assumption) (by decide))
local macro_rules | `(tactic| tm_at "sXok") => `(tactic| first
  | assumption
  | exact xok0)
local macro_rules | `(tactic| tm_at "sCv") => `(tactic| (first | with_reducible exact Cv.id | with_reducible exact Cv.lst0 | ((with_reducible refine Cv.pt ?_); tm_at "sEq") | ((with_reducible refine Cv.lst ?_); tm_at "sEq") | ((with_reducible refine Cv.val ?_); tm_at "sEq")))
local macro_rules | `(tactic| tm_at "sEq") => `(tactic| (first | rfl | assumption | (simp; done)))
local macro_rules | `(tactic| tm_at "sSelC") => `(tactic| (first | ((with_reducible apply SelC.here); tm_at "sCv") | ((with_reducible apply SelC.there); tm_at "sSelC")))
local macro_rules | `(tactic| tm_at "fit") => `(tactic| (first | with_reducible exact Fit.refl | with_reducible exact Fit.nil | ((with_reducible apply Fit.find); (case s => tm_at "sSelC"); (case t => tm_at "fit")) | ((with_reducible apply Fit.drop); tm_at "fit")))
local macro_rules | `(tactic| tm_at "sLkF") => `(tactic| with_reducible (first | exact LkF.here | (apply LkF.there (by with_unfolding_all rfl); tm_at "sLkF")))
local macro_rules | `(tactic| tm_at "sNoF") => `(tactic| with_reducible (first | exact NoF.nil | (apply NoF.cons (by with_unfolding_all rfl); tm_at "sNoF")))
local macro_rules | `(tactic| tm_at "sPutF") => `(tactic| with_reducible (first | exact PutF.here | exact PutF.nil | (apply PutF.there (by with_unfolding_all rfl); tm_at "sPutF")))
local macro_rules | `(tactic| tm_at "sHasL") => `(tactic| (first | exact hasL_pt (by tm_at "sSel") | exact hasL_R (by tm_at "sSel")))
local macro_rules | `(tactic| tm_at "sZ") => `(tactic| (first | assumption | (simp only [List.length_cons, List.length_nil, List.length_append, PySem.sizeLine_eq]; omega) | (rw [PySem.sizeLine_eq]; simp; done)))
local macro_rules | `(tactic| tm_at "sIx") => `(tactic| with_unfolding_all rfl)
local macro_rules | `(tactic| tm_at "sSet") => `(tactic| (first | exact SetR.here | (apply SetR.there; tm_at "sSet")))
local macro_rules | `(tactic| tm_at "sPut") => `(tactic| first
  | exact PutAt.c 0 (by with_unfolding_all rfl) (by tm_at "sSet")
  | exact PutAt.c 1 (by with_unfolding_all rfl) (by tm_at "sSet")
  | exact PutAt.c 2 (by with_unfolding_all rfl) (by tm_at "sSet")
  | exact PutAt.c 3 (by with_unfolding_all rfl) (by tm_at "sSet")
  | exact PutAt.c 4 (by with_unfolding_all rfl) (by tm_at "sSet")
  | exact PutAt.c 5 (by with_unfolding_all rfl) (by tm_at "sSet"))
local macro_rules | `(tactic| tm_at "gECall") => `(tactic| first
  | ((guard_target = GE _ _ (Expr.Call (Expr.Name "len" _) _ _ _) _ _ _); (with_reducible refine gb_len (by assumption) (by tm_at "sKd") ?hm ?he ?hpl ?_); (case hm => assumption); (case he => rfl); (case hpl => rfl))
  | ((guard_target = GE _ _ (Expr.Call (Expr.Name "int" _) _ _ _) _ _ _); (with_reducible refine gb_int (by assumption) (by tm_at "sKd") ?hm ?he ?hpl ?_); (case hm => assumption); (case he => rfl); (case hpl => rfl))
  | ((guard_target = GE _ _ (Expr.Call (Expr.Name "str" _) _ _ _) _ _ _); (with_reducible refine gb_str (by assumption) (by tm_at "sKd") ?hm ?he ?hpl ?_); (case hm => assumption); (case he => rfl); (case hpl => rfl))
  | ((guard_target = GE _ _ (Expr.Call (Expr.Name "list" _) _ _ _) _ _ _); (with_reducible refine gb_list (by assumption) (by tm_at "sKd") ?hm ?he ?hpl ?_); (case hm => assumption); (case he => rfl); (case hpl => rfl))
  | ((guard_target = GE _ _ (Expr.Call (Expr.Name "tuple" _) _ _ _) _ _ _); (with_reducible refine gb_tuple (by assumption) (by tm_at "sKd") ?hm ?he ?hpl ?_); (case hm => assumption); (case he => rfl); (case hpl => rfl))
  | ((guard_target = GE _ _ (Expr.Call (Expr.Name "min" _) _ _ _) _ _ _); (with_reducible refine gb_min (by assumption) (by tm_at "sKd") ?hm ?he ?hpl ?_); (case hm => assumption); (case he => rfl); (case hpl => rfl))
  | ((guard_target = GE _ _ (Expr.Call (Expr.Name "max" _) _ _ _) _ _ _); (with_reducible refine gb_max (by assumption) (by tm_at "sKd") ?hm ?he ?hpl ?_); (case hm => assumption); (case he => rfl); (case hpl => rfl))
  | ((guard_target = GE _ _ (Expr.Call (Expr.Name "sum" _) _ _ _) _ _ _); (with_reducible refine gb_sum (by assumption) (by tm_at "sKd") ?hm ?he ?hpl ?_); (case hm => assumption); (case he => rfl); (case hpl => rfl))
  | ((guard_target = GE _ _ (Expr.Call (Expr.Name "sorted" _) _ _ _) _ _ _); (with_reducible refine gb_sorted (by assumption) (by tm_at "sKd") ?hm ?he ?hpl ?_); (case hm => assumption); (case he => rfl); (case hpl => rfl))
  | ((guard_target = GE _ _ (Expr.Call (Expr.Name "abs" _) _ _ _) _ _ _); (with_reducible refine gb_abs (by assumption) (by tm_at "sKd") ?hm ?he ?hpl ?_); (case hm => assumption); (case he => rfl); (case hpl => rfl))
  | ((guard_target = GE _ _ (Expr.Call (Expr.Name "range" _) _ _ _) _ _ _); (with_reducible refine gb_range (by assumption) (by tm_at "sKd") ?hm ?he ?hpl ?_); (case hm => assumption); (case he => rfl); (case hpl => rfl))
  | ((guard_target = GE _ _ (Expr.Call (Expr.Name "any" _) _ _ _) _ _ _); (with_reducible refine gb_any (by assumption) (by tm_at "sKd") ?hm ?he ?hpl ?_); (case hm => assumption); (case he => rfl); (case hpl => rfl))
  | ((guard_target = GE _ _ (Expr.Call (Expr.Name "all" _) _ _ _) _ _ _); (with_reducible refine gb_all (by assumption) (by tm_at "sKd") ?hm ?he ?hpl ?_); (case hm => assumption); (case he => rfl); (case hpl => rfl))
  | ((guard_target = GE _ _ (Expr.Call (Expr.Name "dict" _) _ _ _) _ _ _); (with_reducible refine gb_dict (by assumption) (by tm_at "sKd") ?hm ?he ?hpl ?_); (case hm => assumption); (case he => rfl); (case hpl => rfl))
  | ((guard_target = GE _ _ (Expr.Call (Expr.Name "set" _) _ _ _) _ _ _); (with_reducible refine gb_set (by assumption) (by tm_at "sKd") ?hm ?he ?hpl ?_); (case hm => assumption); (case he => rfl); (case hpl => rfl)))
local macro_rules | `(tactic| tm_at "gECall") => `(tactic| (guard_target = GE _ _ (Expr.Call (Expr.Name "_law_roll" _) (_ :: _) [] _) _ _ _; (refine ge_call (FnAt.e (x := "_law_roll") (by assumption)) (by tm_at "sRoom") (by tm_at "sXok") (Nm.gl (by assumption) (by tm_at "sKd")) ?hdb ?he ?hpl ?_); (case hdb => rfl); (case he => rfl); (case hpl => rfl)))
local macro_rules | `(tactic| tm_at "gECall") => `(tactic| (guard_target = GE _ _ (Expr.Call (Expr.Name "_law_dice" _) (_ :: _) [] _) _ _ _; (refine ge_call (FnAt.e (x := "_law_dice") (by assumption)) (by tm_at "sRoom") (by tm_at "sXok") (Nm.gl (by assumption) (by tm_at "sKd")) ?hdb ?he ?hpl ?_); (case hdb => rfl); (case he => rfl); (case hpl => rfl)))
local macro_rules | `(tactic| tm_at "gECall") => `(tactic| (guard_target = GE _ _ (Expr.Call (Expr.Name "_law_rounds" _) (_ :: _) [] _) _ _ _; (refine ge_call (FnAt.e (x := "_law_rounds") (by assumption)) (by tm_at "sRoom") (by tm_at "sXok") (Nm.gl (by assumption) (by tm_at "sKd")) ?hdb ?he ?hpl ?_); (case hdb => rfl); (case he => rfl); (case hpl => rfl)))
local macro_rules | `(tactic| tm_at "gECall") => `(tactic| (guard_target = GE _ _ (Expr.Call (Expr.Name "_law_deed" _) (_ :: _) [] _) _ _ _; (refine ge_call (FnAt.e (x := "_law_deed") (by assumption)) (by tm_at "sRoom") (by tm_at "sXok") (Nm.gl (by assumption) (by tm_at "sKd")) ?hdb ?he ?hpl ?_); (case hdb => rfl); (case he => rfl); (case hpl => rfl)))
local macro_rules | `(tactic| tm_at "gE") => `(tactic| first
  | ((guard_target = GE _ _ (Expr.Name _ _) _ _ _); (with_reducible refine ge_name (by assumption) (by tm_at "sAt") (by tm_at "sKd") (by tm_at "sVk") rfl ?_))
  | ((guard_target = GE _ _ (Expr.Constant (Const.int _) _ _) _ _ _); (with_reducible refine ge_int ?_))
  | ((guard_target = GE _ _ (Expr.Attribute _ _ _) _ _ _); (with_reducible refine ge_fld ?hb ?_); (case hb => rfl))
  | ((guard_target = GE _ _ (Expr.Subscript _ (Expr.Slice _ _ none _) _) _ _ _); (with_reducible refine ge_slice ?_))
  | ((guard_target = GE _ _ (Expr.Call (Expr.Attribute _ _ _) _ _ _) _ _ _); tm_at "gEMeth")
  | ((guard_target = GE _ _ (Expr.Subscript _ _ _) _ _ _); (with_reducible refine ge_sub ?hs ?_); (case hs => exact fun _ _ => rfl))
  | ((guard_target = GE _ _ (Expr.BinOp _ _ _ _) _ _ _); (with_reducible refine ge_bin ?_))
  | ((guard_target = GE _ _ (Expr.Constant (Const.str _) _ _) _ _ _); (with_reducible refine ge_str ?_))
  | ((guard_target = GE _ _ (Expr.Call (Expr.Name _ _) _ _ _) _ _ _); tm_at "gECall")
  | ((guard_target = GE _ _ (Expr.List _ _) _ _ _); (with_reducible refine ge_lst ?_))
  | ((guard_target = GE _ _ (Expr.Tuple _ _ _) _ _ _); (with_reducible refine ge_tup ?_))
  | ((guard_target = GE _ _ (Expr.Constant Const.none _ _) _ _ _); (with_reducible refine ge_none ?_))
  | ((guard_target = GE _ _ (Expr.Constant (Const.bool _) _ _) _ _ _); (with_reducible refine ge_bl ?_))
  | ((guard_target = GE _ _ (Expr.Compare _ [_] [_] _) _ _ _); (with_reducible refine ge_cmp ?hm ?_); (case hm => first | exact nomark _ | rfl))
  | ((guard_target = GE _ _ (Expr.UnaryOp UnaryOp.Not _ _) _ _ _); (with_reducible refine ge_not ?_))
  | ((guard_target = GE _ _ (Expr.UnaryOp _ _ _) _ _ _); (with_reducible refine ge_un ?_))
  | ((guard_target = GE _ _ (Expr.IfExp _ _ _ _) _ _ _); (with_reducible refine ge_if ?_))
  | ((guard_target = GE _ _ (Expr.Compare _ [_, _] [_, _] _) _ _ _); (with_reducible refine ge_chain ?hm ?_); (case hm => with_unfolding_all rfl))
  | ((guard_target = GE _ _ (Expr.BoolOp _ [_] _) _ _ _); (with_reducible refine ge_one ?_))
  | ((guard_target = GE _ _ (Expr.BoolOp BoolOp.And _ _) _ _ _); (with_reducible refine ge_and ?_))
  | ((guard_target = GE _ _ (Expr.BoolOp BoolOp.Or _ _) _ _ _); (with_reducible refine ge_or ?_)))
local macro_rules | `(tactic| tm_at "gEMeth") => `(tactic| first
  | ((guard_target = GE _ _ (Expr.Call (Expr.Attribute _ "append" _) [_] [] _) _ _ _); (with_reducible refine ge_append ?h1 ?h2 ?h3 ?h4 ?h5 ?_); (case h1 => rfl); (case h2 => rfl); (case h3 => rfl); (case h4 => rfl); (case h5 => rfl))
  | ((guard_target = GE _ _ (Expr.Call (Expr.Attribute _ "extend" _) [_] [] _) _ _ _); (with_reducible refine ge_extend ?h1 ?h2 ?h3 ?h4 ?h5 ?_); (case h1 => rfl); (case h2 => rfl); (case h3 => rfl); (case h4 => rfl); (case h5 => rfl))
  | ((guard_target = GE _ _ (Expr.Call (Expr.Attribute _ "remove" _) [_] [] _) _ _ _); (with_reducible refine ge_remove ?h1 ?h2 ?h3 ?h4 ?h5 ?_); (case h1 => rfl); (case h2 => rfl); (case h3 => rfl); (case h4 => rfl); (case h5 => rfl))
  | ((guard_target = GE _ _ (Expr.Call (Expr.Attribute _ "pop" _) [_] [] _) _ _ _); (with_reducible refine ge_popAt ?h1 ?h2 ?h3 ?h4 ?h5 ?_); (case h1 => rfl); (case h2 => rfl); (case h3 => rfl); (case h4 => rfl); (case h5 => rfl)))
local macro_rules | `(tactic| tm_at "gT") => `(tactic| first
  | ((guard_target = GT _ _ (Expr.Compare _ [_] [_] _) _ _ _); (with_reducible refine gt_cmp ?hm ?_); (case hm => first | exact nomark _ | rfl))
  | ((guard_target = GT _ _ (Expr.UnaryOp UnaryOp.Not _ _) _ _ _); (with_reducible refine gt_not ?_))
  | ((guard_target = GT _ _ (Expr.BoolOp _ _ _) _ _ _); (with_reducible refine gt_bool ?_))
  | ((guard_target = GT _ _ (Expr.Compare _ [_, _] [_, _] _) _ _ _); (with_reducible refine gt_chain ?hm ?_); (case hm => with_unfolding_all rfl))
  | ((guard_target = GT _ _ (Expr.Call _ _ _ _) _ _ _); (with_reducible refine gt_val ?he ?_); (case he => intro _; rfl))
  | ((guard_target = GT _ _ (Expr.Subscript _ _ _) _ _ _); (with_reducible refine gt_val ?he ?_); (case he => intro _; rfl))
  | ((guard_target = GT _ _ (Expr.Name _ _) _ _ _); (with_reducible refine gt_val ?he ?_); (case he => intro _; rfl))
  | ((guard_target = GT _ _ (Expr.Attribute _ _ _) _ _ _); (with_reducible refine gt_val ?he ?_); (case he => intro _; rfl)))
local macro_rules | `(tactic| tm_at "gB") => `(tactic| first
  | ((guard_target = GB _ _ (Expr.BoolOp BoolOp.And [_] _) _ _ _); (with_reducible refine gb_and1 ?_))
  | ((guard_target = GB _ _ (Expr.BoolOp BoolOp.Or [_] _) _ _ _); (with_reducible refine gb_or1 ?_))
  | ((guard_target = GB _ _ (Expr.BoolOp BoolOp.And _ _) _ _ _); (with_reducible refine gb_and ?_))
  | ((guard_target = GB _ _ (Expr.BoolOp BoolOp.Or _ _) _ _ _); (with_reducible refine gb_or ?_)))
local macro_rules | `(tactic| tm_at "gA") => `(tactic| first
  | ((guard_target = GA _ _ ([]) _ _ _); (with_reducible refine ga_nil ?_))
  | ((guard_target = GA _ _ (_ :: _) _ _ _); (with_reducible refine ga_cons ?hst ?_); (case hst => rfl)))
local macro_rules | `(tactic| tm_at "gOp") => `(tactic| first
  | ((guard_target = GOp _ _ (binaryOp Operator.Add) (V.int _) (V.int _) _ _); (with_reducible refine go_add ?_))
  | ((guard_target = GOp _ _ (binaryOp Operator.Sub) (V.int _) (V.int _) _ _); (with_reducible refine go_sub ?_))
  | ((guard_target = GOp _ _ (compareOp CmpOp.Eq) (V.int _) (V.int _) _ _); (with_reducible refine go_eqI ?_))
  | ((guard_target = GOp _ _ (compareOp CmpOp.Lt) (V.int _) (V.int _) _ _); (with_reducible refine go_lt ?_))
  | ((guard_target = GOp _ _ (compareOp CmpOp.LtE) (V.int _) (V.int _) _ _); (with_reducible refine go_le ?_))
  | ((guard_target = GOp _ _ (compareOp CmpOp.Gt) (V.int _) (V.int _) _ _); (with_reducible refine go_gt ?_))
  | ((guard_target = GOp _ _ (compareOp CmpOp.GtE) (V.int _) (V.int _) _ _); (with_reducible refine go_ge ?_))
  | ((guard_target = GOp _ _ (compareOp CmpOp.NotEq) (V.int _) (V.int _) _ _); (with_reducible refine go_neI ?_))
  | ((guard_target = GOp _ _ (binaryOp Operator.Mult) (V.int _) (V.int _) _ _); (with_reducible refine go_mul ?c ?_); (case c => first | (left; constructor <;> omega) | (right; constructor <;> omega)))
  | ((guard_target = GOp _ _ (binaryOp Operator.FloorDiv) (V.int _) (V.int _) _ _); (with_reducible refine go_div ?c ?_); (case c => constructor <;> omega))
  | ((guard_target = GOp _ _ (binaryOp Operator.Mod) (V.int _) (V.int _) _ _); (with_reducible refine go_mod ?c ?_); (case c => omega))
  | ((guard_target = GOp _ _ (compareOp CmpOp.Eq) (V.str _) (V.str _) _ _); (with_reducible refine go_eqT ?_))
  | ((guard_target = GOp _ _ (compareOp CmpOp.NotEq) (V.str _) (V.str _) _ _); (with_reducible refine go_neT ?_))
  | ((guard_target = GOp _ _ (compareOp CmpOp.Eq) (V.bl _) (V.bl _) _ _); (with_reducible refine go_eqB ?_))
  | ((guard_target = GOp _ _ (compareOp CmpOp.NotEq) (V.bl _) (V.bl _) _ _); (with_reducible refine go_neB ?_))
  | ((guard_target = GOp _ _ (compareOp CmpOp.In) (V.int _) (V.ref _) _ _); (with_reducible refine go_inI (by tm_at "sSel") ?_))
  | ((guard_target = GOp _ _ (compareOp CmpOp.NotIn) (V.int _) (V.ref _) _ _); (with_reducible refine go_ninI (by tm_at "sSel") ?_))
  | ((guard_target = GOp _ _ (compareOp CmpOp.In) (V.str _) (V.ref _) _ _); (with_reducible refine go_inT (by tm_at "sSel") ?_))
  | ((guard_target = GOp _ _ (compareOp CmpOp.NotIn) (V.str _) (V.ref _) _ _); (with_reducible refine go_ninT (by tm_at "sSel") ?_))
  | ((guard_target = GOp _ _ (compareOp CmpOp.Eq) (_) (V.non) _ _); (with_reducible refine go_eqS rfl ?_))
  | ((guard_target = GOp _ _ (compareOp CmpOp.NotEq) (_) (V.non) _ _); (with_reducible refine go_neS rfl ?_))
  | ((guard_target = GOp _ _ (compareOp CmpOp.Is) (_) (V.non) _ _); (with_reducible refine go_isN ?_))
  | ((guard_target = GOp _ _ (compareOp CmpOp.IsNot) (_) (V.non) _ _); (with_reducible refine go_notN ?_)))
local macro_rules | `(tactic| tm_at "gC") => `(tactic| first
  | ((guard_target = GC _ _ (Value.type "int") [V.int _] _ _); (with_reducible refine gc_intI ?_))
  | ((guard_target = GC _ _ (Value.type "int") [V.bl _] _ _); (with_reducible refine gc_intB ?_))
  | ((guard_target = GC _ _ (Value.builtin "abs") [V.int _] _ _); (with_reducible refine gc_abs ?_))
  | ((guard_target = GC _ _ (Value.builtin "max") [V.int _, V.int _] _ _); (with_reducible refine gc_max2 ?hc ?_); (case hc => rfl))
  | ((guard_target = GC _ _ (Value.builtin "min") [V.int _, V.int _] _ _); (with_reducible refine gc_min2 ?hc ?_); (case hc => rfl))
  | ((guard_target = GC _ _ (Value.type "range") [V.int _] _ _); (with_reducible refine gc_rng1 ?_))
  | ((guard_target = GC _ _ (Value.type "range") [V.int _, V.int _] _ _); (with_reducible refine gc_rng2 ?_))
  | ((guard_target = GC _ _ (Value.builtin "len") [V.ref _] _ _); (with_reducible refine gc_lenR (by tm_at "sSel") ?_))
  | ((guard_target = GC _ _ (Value.builtin "len") [V.ref _] _ _); (with_reducible refine gc_len (by tm_at "sSel") ?_))
  | ((guard_target = GC _ _ (Value.builtin "len") [V.ref _] _ _); (with_reducible refine gc_lenT (by tm_at "sSel") ?_)))
local macro_rules | `(tactic| tm_at "gF") => `(tactic| first
  | ((guard_target = GF _ _ _ _ _ _); (with_reducible refine gf (by tm_at "sSel") (by tm_at "sLkF") ?hc ?hn ?_); (case hc => assumption); (case hn => assumption))
  | ((guard_target = GFS _ _ _ _ _ _); (with_reducible refine gfs (by tm_at "sRpl") (by tm_at "sPutF") ?hc ?hn ?hz ?_); (case hc => assumption); (case hn => assumption); (case hz => exact Nat.le_of_ble_eq_true rfl))
  | ((guard_target = GFA _ _ _ _ _ _ _ _ _); (with_reducible refine gfa (by tm_at "sSel") (by tm_at "sLkF") ?hc ?hn ?_); (case hc => assumption); (case hn => assumption))
  | ((guard_target = Exists fun _ => Exists fun _ => Exists fun _ => (Rpl _ _ _ _ ∧ _ ∧ _)); (with_reducible refine gfaE (by tm_at "sRpl") (by tm_at "sPutF") ?hz ?_); (case hz => exact Nat.le_of_ble_eq_true rfl))
  | ((guard_target = GAS _ _ _ _ _ _ _ _ _); (with_reducible refine gas (by tm_at "sSel") (by tm_at "sIx") ?_))
  | ((guard_target = (HasL _ _ _ ∧ _)); (with_reducible refine And.intro ?hh ?_); (case hh => tm_at "sHasL"))
  | ((guard_target = (IsIns _ _ _ _ _ ∧ _)); (with_reducible refine And.intro ?hh ?_); (case hh => exact isIns (by tm_at "sSel") (by tm_at "sNoF") (by rfl)))
  | ((guard_target = GApp _ _ _ _ _); (with_reducible refine gapp_pt (by tm_at "sRpl") ?hz ?_); (case hz => tm_at "sZ"))
  | ((guard_target = (List.length _ ≤ PySem.sizeLine ∧ _)); (with_reducible refine And.intro ?hz ?_); (case hz => tm_at "sZ"); intro _)
  | ((guard_target = GIp _ _ Operator.Add (V.int _) (V.int _) _ _); (with_reducible refine gip_add ?_))
  | ((guard_target = GIp _ _ Operator.Sub (V.int _) (V.int _) _ _); (with_reducible refine gip_sub ?_))
  | ((guard_target = GRem _ _ _ _ _); (with_reducible refine grem (by tm_at "sRpl") ?hm ?_); (case hm => assumption))
  | ((guard_target = GO _ _ none _ _ _); (with_reducible refine goN ?_))
  | ((guard_target = GO _ _ (some _) _ _ _); (with_reducible refine goS ?_)))
local macro_rules | `(tactic| tm_at "gIx") => `(tactic| first
  | (with_reducible refine gi_lst (by tm_at "sSel") (by tm_at "sIx") ?_)
  | (with_reducible refine gi_tup (by tm_at "sSel") (by tm_at "sIx") ?_))
local macro_rules | `(tactic| tm_at "gS") => `(tactic| first
  | ((guard_target = GS _ _ (Stmt.Assign [Expr.Name _ _] _ _) _ _ _); (with_reducible refine gs_name (by assumption) (by tm_at "sSlot") (by tm_at "sKd") (by tm_at "sLk") (by tm_at "sLf") ?hsw ?_); (case hsw => rfl))
  | ((guard_target = GS _ _ (Stmt.If _ _ _ _) _ _ _); (with_reducible refine gs_if ?_))
  | ((guard_target = GS _ _ (Stmt.AugAssign (Expr.Name _ _) _ _ _) _ _ _); (with_reducible refine gs_aug (by assumption) (by tm_at "sAt") (by tm_at "sSlot") (by tm_at "sKd") (by tm_at "sLk") (by tm_at "sLf") ?_))
  | ((guard_target = GS _ _ (Stmt.AugAssign (Expr.Attribute _ _ _) _ _ _) _ _ _); (with_reducible refine gs_fldaug ?_))
  | ((guard_target = GS _ _ (Stmt.AugAssign (Expr.Subscript _ _ _) _ _ _) _ _ _); (with_reducible refine gs_augS ?ha ?_); (case ha => intros; rfl))
  | ((guard_target = GS _ _ (Stmt.Return (some _) _) _ _ _); (with_reducible refine gs_ret ?_))
  | ((guard_target = GS _ _ (Stmt.Expr (Expr.Constant _ _ _) _) _ _ _); (with_reducible refine gs_doc ?_))
  | ((guard_target = GS _ _ (Stmt.Expr _ _) _ _ _); (with_reducible refine gs_expr ?hsw ?_); (case hsw => rfl))
  | ((guard_target = GS _ _ (Stmt.Assign [Expr.Attribute _ _ _] _ _) _ _ _); (with_reducible refine gs_fld ?hsw ?_); (case hsw => rfl))
  | ((guard_target = GS _ _ (Stmt.Assign [Expr.Subscript _ _ _] _ _) _ _ _); (with_reducible refine gs_asg ?hsw ?hw ?h1 ?_); (case hsw => rfl); (case hw => rfl); (case h1 => rfl))
  | ((guard_target = GS _ _ (Stmt.Assign [Expr.Tuple _ _ _] _ _) _ _ _); (with_reducible refine gs_asg ?hsw ?hw ?h1 ?_); (case hsw => rfl); (case hw => rfl); (case h1 => rfl))
  | ((guard_target = GS _ _ (Stmt.Return none _) _ _ _); (with_reducible refine gs_retN ?_))
  | ((guard_target = GS _ _ (Stmt.Pass _) _ _ _); (with_reducible refine gs_pass ?_))
  | ((guard_target = GS _ _ (Stmt.Break _) _ _ _); (with_reducible refine gs_break ?_))
  | ((guard_target = GS _ _ (Stmt.Continue _) _ _ _); (with_reducible refine gs_continue ?_)))
local macro_rules | `(tactic| tm_at "gG") => `(tactic| first
  | ((guard_target = GG _ _ (Expr.Name _ _) _ _ _ _); (with_reducible refine gg_name (by assumption) (by tm_at "sSlot") (by tm_at "sKd") (by tm_at "sLk") (by tm_at "sLf") ?_))
  | ((guard_target = GG _ _ (Expr.Subscript _ _ _) _ _ _ _); (with_reducible refine gg_sub ?ha ?_); (case ha => intro _; rfl))
  | ((guard_target = GG _ _ (Expr.Tuple _ _ _) _ _ _ _); (with_reducible refine gg_tup ?hc (by tm_at "sSel") ?hn ?hst ?_); (case hc => rfl); (case hn => rfl); (case hst => rfl)))
local macro_rules | `(tactic| tm_at "g") => `(tactic| first
  | ((guard_target = GE _ _ _ _ _ _); tm_at "gE")
  | ((guard_target = GOp _ _ _ _ _ _ _); tm_at "gOp")
  | ((guard_target = GIx _ _ _ _ _ _); tm_at "gIx")
  | tm_at "gF"
  | ((guard_target = (wipe _ _ = wipe _ _ ∧ _)); refine And.intro rfl ?_)
  | ((guard_target = GGs _ _ [] _ _ _ _); (with_reducible refine ggs_nil ?_))
  | ((guard_target = GGs _ _ (_ :: _) _ _ _ _); (with_reducible refine ggs_cons ?hst ?_); (case hst => rfl))
  | ((guard_target = GTs _ _ [] _ _ _); (with_reducible refine gts_nil ?_))
  | ((guard_target = GTs _ _ [_] _ _ _); (with_reducible refine gts_one ?_))
  | ((guard_target = KB _ _ _); (with_reducible refine KB.mk ?_))
  | ((guard_target = GA _ _ _ _ _ _); tm_at "gA")
  | ((guard_target = GS _ _ _ _ _ _); tm_at "gS")
  | ((guard_target = GSs _ _ (_ :: _) _ _ _); (with_reducible refine gss_cons ?_))
  | ((guard_target = GSs _ _ ([]) _ _ _); (with_reducible refine gss_nil ?_))
  | ((guard_target = GT _ _ _ _ _ _); tm_at "gT")
  | ((guard_target = GB _ _ _ _ _ _); tm_at "gB")
  | ((guard_target = GC _ _ _ _ _ _); tm_at "gC")
  | ((guard_target = GG _ _ _ _ _ _ _); tm_at "gG")
  | ((guard_target = GPutL _ _ _ _ _); (with_reducible refine gput (by tm_at "sRpl") (by tm_at "sPut") ?_))
  | ((guard_target = if true = true then _ else _); (with_reducible refine iteT ?_))
  | ((guard_target = if (!true) = true then _ else _); (with_reducible refine iteNT ?_))
  | ((guard_target = if (!false) = true then _ else _); (with_reducible refine iteNF ?_))
  | ((guard_target = if false = true then _ else _); (with_reducible refine iteF ?_))
  | ((guard_target = Exists _); (with_reducible refine Exists.intro _ (And.intro rfl ?_)))
  | (first | with_reducible refine ite_nI ?_ | with_reducible refine ite_nN ?_ | with_reducible refine ite_nnI ?_ | with_reducible refine ite_nnN ?_ | with_reducible refine ite_nR ?_ | with_reducible refine ite_nnR ?_))
local macro_rules | `(tactic| tm_at "sSetN") => `(tactic| (first | exact SetN.here | (apply SetN.there; tm_at "sSetN")))
local macro_rules | `(tactic| tm_at "sWp") => `(tactic| (first | exact Wp.nil | (apply Wp.cons; (tm_at "sWp"); (tm_at "sSetN"))))
local macro_rules | `(tactic| tm_at "fits") => `(tactic| (first | apply Fits.mk | apply FitL.mk))
local macro_rules | `(tactic| tm_at "ent") => `(tactic| (apply Fit.ent; tm_at "fit"))
local macro_rules | `(tactic| tm_at "go") => `(tactic| repeat (tm_at "g"))
local macro_rules | `(tactic| tm_at "gs") => `(tactic| repeat ((fail_if_success (guard_target = GSs _ _ (_ :: _) _ _ _)); tm_at "g"))
local macro_rules | `(tactic| tm_at "if") => `(tactic| first
  | (with_reducible refine ite_ndec (fun _ => ?_) (fun _ => ?_))
  | (with_reducible refine ite_dec (fun _ => ?_) (fun _ => ?_))
  | (with_reducible refine ite_nb (fun _ => ?_) (fun _ => ?_))
  | (with_reducible refine ite_b (fun _ => ?_) (fun _ => ?_)))
local macro_rules | `(tactic| tm_at "fit") => `(tactic| (guard_target = Fit _ (CpsR _ _ _ _ :: _); (first | ((with_reducible apply Fit.find); (case s => tm_at "sSelC"); (case t => tm_at "fit")) | ((with_reducible apply cps_want); (case f => tm_at "fit"); (case e => first | rfl | (simp only [vLd]; done) | (simp [raise_ld, vLd, *]; done))))))
local macro_rules | `(tactic| tm_at "fit") => `(tactic| (guard_target = Fit _ (RestP _ _ _ [] :: _); (first | ((with_reducible apply Fit.find); (case s => tm_at "sSelC"); (case t => tm_at "fit")) | ((with_reducible apply rest_want); (case hk => assumption); (case f => tm_at "fit")) | ((with_reducible apply rest_back); (case s => tm_at "sSel"); (case hk => assumption); (case f => tm_at "fit")))))
local macro_rules | `(tactic| tm_at "gEMeth") => `(tactic| (guard_target = GE _ _ (Expr.Call (Expr.Attribute _ "last_mark" _) [] _ _) _ _ _; (refine ge_meth0 (MeAt.e (C := "Copy") (m := "last_mark") (by assumption)) (by tm_at "sRoom") (by tm_at "sXok") ?ht ?_); (case ht => exact ⟨_, rfl⟩)))
local macro_rules | `(tactic| tm_at "gEMeth") => `(tactic| (guard_target = GE _ _ (Expr.Call (Expr.Attribute _ "raise_high" _) [] _ _) _ _ _; (refine ge_meth0 (MeAt.e (C := "Copies") (m := "raise_high") (by assumption)) (by tm_at "sRoom") (by tm_at "sXok") ?ht ?_); (case ht => exact ⟨_, rfl⟩)))
local macro_rules | `(tactic| tm_at "gEMeth") => `(tactic| (guard_target = GE _ _ (Expr.Call (Expr.Attribute _ "sure" _) [] _ _) _ _ _; (refine ge_meth0 (MeAt.e (C := "Copies") (m := "sure") (by assumption)) (by tm_at "sRoom") (by tm_at "sXok") ?ht ?_); (case ht => exact ⟨_, rfl⟩)))
local macro_rules | `(tactic| tm_at "gEMeth") => `(tactic| (guard_target = GE _ _ (Expr.Call (Expr.Attribute _ "alike" _) [] _ _) _ _ _; (refine ge_meth0 (MeAt.e (C := "Copies") (m := "alike") (by assumption)) (by tm_at "sRoom") (by tm_at "sXok") ?ht ?_); (case ht => exact ⟨_, rfl⟩)))
local macro_rules | `(tactic| tm_at "gEMeth") => `(tactic| (guard_target = GE _ _ (Expr.Call (Expr.Attribute _ "turn_end" _) (_ :: _) _ _) _ _ _; (refine ge_meth (MeAt.e (C := "Copy") (m := "turn_end") (by assumption)) (by tm_at "sRoom") (by tm_at "sXok") ?hst ?hpl ?ht ?_); (case hst => rfl); (case hpl => rfl); (case ht => exact ⟨_, rfl⟩)))
local macro_rules | `(tactic| tm_at "gEMeth") => `(tactic| (guard_target = GE _ _ (Expr.Call (Expr.Attribute _ "agree" _) (_ :: _) _ _) _ _ _; (refine ge_meth (MeAt.e (C := "Copies") (m := "agree") (by assumption)) (by tm_at "sRoom") (by tm_at "sXok") ?hst ?hpl ?ht ?_); (case hst => rfl); (case hpl => rfl); (case ht => exact ⟨_, rfl⟩)))
local macro_rules | `(tactic| tm_at "gEMeth") => `(tactic| (guard_target = GE _ _ (Expr.Call (Expr.Attribute _ "give" _) (_ :: _) _ _) _ _ _; (refine ge_meth (MeAt.e (C := "Copies") (m := "give") (by assumption)) (by tm_at "sRoom") (by tm_at "sXok") ?hst ?hpl ?ht ?_); (case hst => rfl); (case hpl => rfl); (case ht => exact ⟨_, rfl⟩)))
local macro_rules | `(tactic| tm_at "gEMeth") => `(tactic| (guard_target = GE _ _ (Expr.Call (Expr.Attribute _ "ask" _) (_ :: _) _ _) _ _ _; (refine ge_meth (MeAt.e (C := "Copies") (m := "ask") (by assumption)) (by tm_at "sRoom") (by tm_at "sXok") ?hst ?hpl ?ht ?_); (case hst => rfl); (case hpl => rfl); (case ht => exact ⟨_, rfl⟩)))
local macro_rules | `(tactic| tm_at "gEMeth") => `(tactic| (guard_target = GE _ _ (Expr.Call (Expr.Attribute _ "down" _) (_ :: _) _ _) _ _ _; (refine ge_meth (MeAt.e (C := "Copies") (m := "down") (by assumption)) (by tm_at "sRoom") (by tm_at "sXok") ?hst ?hpl ?ht ?_); (case hst => rfl); (case hpl => rfl); (case ht => exact ⟨_, rfl⟩)))
local macro_rules | `(tactic| tm_at "gEMeth") => `(tactic| (guard_target = GE _ _ (Expr.Call (Expr.Attribute _ "up_again" _) (_ :: _) _ _) _ _ _; (refine ge_meth (MeAt.e (C := "Copies") (m := "up_again") (by assumption)) (by tm_at "sRoom") (by tm_at "sXok") ?hst ?hpl ?ht ?_); (case hst => rfl); (case hpl => rfl); (case ht => exact ⟨_, rfl⟩)))
local macro_rules | `(tactic| tm_at "gEMeth") => `(tactic| (guard_target = GE _ _ (Expr.Call (Expr.Attribute _ "lead" _) (_ :: _) _ _) _ _ _; (refine ge_meth (MeAt.e (C := "Copies") (m := "lead") (by assumption)) (by tm_at "sRoom") (by tm_at "sXok") ?hst ?hpl ?ht ?_); (case hst => rfl); (case hpl => rfl); (case ht => exact ⟨_, rfl⟩)))
local macro_rules | `(tactic| tm_at "gEMeth") => `(tactic| (guard_target = GE _ _ (Expr.Call (Expr.Attribute _ "give_as" _) (_ :: _) _ _) _ _ _; (refine ge_meth (MeAt.e (C := "Copies") (m := "give_as") (by assumption)) (by tm_at "sRoom") (by tm_at "sXok") ?hst ?hpl ?ht ?_); (case hst => rfl); (case hpl => rfl); (case ht => exact ⟨_, rfl⟩)))
local macro_rules | `(tactic| tm_at "gEMeth") => `(tactic| (guard_target = GE _ _ (Expr.Call (Expr.Attribute _ "lag" _) (_ :: _) _ _) _ _ _; (refine ge_meth (MeAt.e (C := "Copies") (m := "lag") (by assumption)) (by tm_at "sRoom") (by tm_at "sXok") ?hst ?hpl ?ht ?_); (case hst => rfl); (case hpl => rfl); (case ht => exact ⟨_, rfl⟩)))
local macro_rules | `(tactic| tm_at "sIx") => `(tactic| exact at3 (by assumption))
local macro_rules | `(tactic| tm_at "sPut") => `(tactic| (first | exact put3 (g := V.int) (by assumption) | exact put3 (g := V.bl) (by assumption)))
local macro_rules | `(tactic| tm_at "gF") => `(tactic| ((guard_target = (IsIns _ _ _ _ _ ∧ _)); (with_reducible refine And.intro ?hh ?_); (case hh => exact ins_cps (by tm_at "sSel") (fun _ _ _ _ _ _ _ _ => by tm_at "sNoF"))))
section
variable {T : List (Addr × Str)} {X : Cx} {σ : St} {D : EndsL} {sts : List Stmt} {K : PySem.W.Frag} {o : Addr} {a : Nat → Addr} {S : CS} {L R : List SA}
theorem atI_len {α β : Type} {xs : List α} {ds : List β} {i : Int} {d : β} (hl : xs.length = ds.length) (h : atI ds i = some d) : ∃ n : Nat, ds[n]? = some d ∧ ∀ x, xs[n]? = some x → atI xs i = some x := by
  unfold atI at h
  cases e : ixN ds.length i with
  | none => rw [e] at h; cases h
  | some n =>
    rw [e] at h
    refine ⟨n, h, fun x hx => ?_⟩
    unfold atI
    rw [hl, e]; exact hx
theorem gi_lstRi {α : Type} {R0 : PRep α} {l : Addr} {ds : List α} {i : Int} {d : α} {Kk : GK} {R' : List SA} (s : Sel L (LstR R0 l ds) R') (e : atI ds i = some d) (k : ∀ v, Kk v (Val R0 v d :: L)) : GIx T X (.ref l) (.int i) L Kk := by
  intro H hs Q q
  obtain ⟨xs, h1, ar⟩ := hs.atR s
  obtain ⟨n, h2, h3⟩ := atI_len (xs := xs) ar.length e
  obtain ⟨x, hx, rx⟩ := ar.get h2
  intro value slice pins s' σ v u I rx' ry z
  exact ix_list value slice pins s' σ H (.ref l) (.int i) v u Q I rx' ry ⟨l, xs, i, x, rfl, rfl, SqL.of h1, h3 x hx, q _ _ _ (k x) (hs.addP Val.pers rx)⟩ z
theorem foc_in2 {c : Nat → Cp} {k l : Nat} (hk : k < 3) (hl : l < 3) (hn : l ≠ k) (s : Sel L (RestP K a c [k]) R) (h : ∀ dx r, GSs T X sts D σ (pt (a l) (cpo K dx r (c l)) :: LstR rRec r (c l).rs :: RestP K a c [k, l] :: R)) : GSs T X sts D σ L :=
  GSs.ent (Fit.ent (Fit.at1 s (rest_out2 hk hl hn))) (copy_in .here h)
theorem rest_back2 {c : Nat → Cp} {k l : Nat} {d r : Addr} {L1 : List SA} (s : Sel L (RestP K a c [k, l]) L1) (hk : k < 3) (hl : l < 3) (hn : l ≠ k) (f : Fit L1 (pt (a l) (cpo K d r (c l)) :: LstR rRec r (c l).rs :: R)) : Fit L (RestP K a c [k] :: R) := fun H h => by
  have h1 : Pcs (RestP K a c [k, l] :: (pt (a l) (cpo K d r (c l)) :: LstR rRec r (c l).rs :: R)) H := (h.perm s.perm).cons2 Cv.id f
  have h2 : Pcs (pt (a l) (cpo K d r (c l)) :: LstR rRec r (c l).rs :: RestP K a c [k, l] :: R) H := h1.perm ((List.Perm.swap _ _ _).trans ((List.Perm.swap _ _ _).cons _))
  exact rest_in2 hk hl hn H (copy_fold H h2)
end
local macro_rules | `(tactic| tm_at "fit") => `(tactic| (guard_target = Fit _ (RestP _ _ _ [_] :: _); (first | ((with_reducible apply Fit.find); (case s => tm_at "sSelC"); (case t => tm_at "fit")) | ((with_reducible apply rest_back2); (case s => tm_at "sSel"); (case hk => assumption); (case hl => assumption); (case hn => assumption); (case f => tm_at "fit")))))
section
variable {T : List (Addr × Str)} {P : Program} {w : World} {Kf : PySem.W.Frag} {mg : Str → Option Value} {base : Heap} {f : Addr} {fd : FuncData}
theorem call_te {a d r : Addr} {c : Cp} {t : Int} {L R : List SA} {K : GK} {kx : KX} (e : Ent T L (cpP Kf a d r c R)) (hz : c.rs.length < sizeLine) (k : ∀ p, K (.ref p) (pt p (.tup [.int (bestOf t c.rs), .int (cntLe (bestOf t c.rs) c.rs)]) :: cpP Kf a d r c R)) : spE T (spTE Kf) [.ref a, .int t] L K kx := CallS.mk ⟨a, d, r, c, t, R, rfl, rfl, hz, k⟩ e
theorem last_at {rs : List Rec} (h : rs ≠ []) : ∃ d, atI rs (-1) = some d ∧ lastT rs = d.1 := by
  obtain ⟨d, hd⟩ : ∃ d, rs.getLast? = some d := by
    cases e : rs.getLast? with
    | none => exact absurd (List.getLast?_eq_none_iff.mp e) h
    | some d => exact ⟨d, rfl⟩
  refine ⟨d, ?_, by unfold lastT; rw [hd]⟩
  have hp : 0 < rs.length := List.length_pos_iff.mpr h
  have e : ixN rs.length (-1) = some (rs.length - 1) := by
    unfold ixN
    rw [if_neg (by omega)]
    first
      | (rw [if_pos (by omega)]; congr 1; omega)
      | (simp; omega)
  unfold atI
  rw [e]
  rw [List.getLast?_eq_getElem?] at hd
  exact hd
theorem filt_succ {p : Rec → Bool} {rs : List Rec} {i : Nat} {d : Rec} (h : rs[i]? = some d) : (rs.take (i + 1)).filter p = (rs.take i).filter p ++ if p d then [d] else [] := by
  rw [take_succ h, List.filter_append]
  by_cases c : p d = true <;> simp [c]
theorem filt_less {G rs : List Rec} {b : Int} (hne : rs ≠ []) (hb : bestOf (lastT rs) G = b) (hn : b ≠ lastT rs) (hle : b ≤ lastT rs) : (rs.filter fun r => decide (r.1 ≤ b)).length < rs.length := by
  obtain ⟨d, hd⟩ : ∃ d, rs.getLast? = some d := by
    cases e : rs.getLast? with
    | none => exact absurd (List.getLast?_eq_none_iff.mp e) hne
    | some d => exact ⟨d, rfl⟩
  have hl : lastT rs = d.1 := by unfold lastT; rw [hd]
  have hm : d ∈ rs := List.mem_of_getLast? hd
  refine Nat.lt_of_le_of_ne (List.length_filter_le _ _) fun z => ?_
  have := (List.length_filter_eq_length_iff.mp z) d hm
  have : d.1 ≤ b := by simpa using this
  omega
theorem best_le {t : Int} {G : List Rec} (h0 : 0 ≤ t) : bestOf t G ≤ t ∧ 0 ≤ bestOf t G := by
  unfold bestOf
  have go : ∀ (G : List Rec) (b : Int), b ≤ t ∧ 0 ≤ b → (G.foldl (fun b r => if r.1 ≤ t then (if r.1 > b then r.1 else b) else b) b) ≤ t ∧ 0 ≤ (G.foldl (fun b r => if r.1 ≤ t then (if r.1 > b then r.1 else b) else b) b) := by
    intro G
    induction G with
    | nil => intro b h; exact h
    | cons r G ih =>
      intro b h
      rw [List.foldl_cons]
      apply ih
      split
      · split <;> constructor <;> omega
      · exact h
  exact go G 0 ⟨h0, Int.le_refl _⟩
abbrev cpsG (K : PySem.W.Frag) (o : Addr) (a : Nat → Addr) (dc lc lu lw lk lj : Addr) (S : CS) (v : V) (R : List SA) : List SA :=
  pt o (cso K dc lc lu lw lk lj S v) :: pt lc (.lst (l3 fun i => .ref (a i))) :: pt lu (.lst (l3 fun i => .bl (S.up i))) :: pt lw (.lst (S.wl.map V.int)) :: pt lk (.lst (l3 fun i => .int (S.known i))) :: pt lj (.lst (l3 fun i => .bl (S.joined i))) :: R
theorem gs_par2 {X : Cx} {σ : St} {L : List SA} {D : EndsL} {N : List Str} {ks : List (Str × NameKind)} {x y : Str} {f1 : V → St} {f2 : V → V → St} {a b : Expr} {px py p3 pos : Pos} {kt k2 p4} (n : Nm X N ks) (s1 : Slot N σ x f1) (s2 : ∀ v, Slot N (f1 v) y (f2 v)) (h1 : Kd ks x .local) (h2 : Kd ks y .local) (hne : decide (x = y) = false) (hc : X.calm = true)
    (hw : swappedStores [.Tuple [.Name x px, .Name y py] kt p3] (.Tuple [a, b] k2 p4) X.env = pure (some [x, y])) (hs : swapsWithSole [.Tuple [.Name x px, .Name y py] kt p3] (.Tuple [a, b] k2 p4) pos.line X.env = pure false)
    (h : GA T X [a, b] σ L fun vs L1 => ∃ v w, vs = [v, w] ∧ D.nx (f2 v w) L1) : GS T X (.Assign [.Tuple [.Name x px, .Name y py] kt p3] (.Tuple [a, b] k2 p4) pos) D σ L := by
  obtain ⟨i, hi, ei⟩ := s1.ix
  have hj : ∃ j : Nat, N[j]? = some y ∧ ∀ v w, f2 v w = (f1 v).set j (some w) := by
    obtain ⟨j, hj, ej⟩ := (s2 .non).ix
    refine ⟨j, hj, fun v w => ?_⟩
    obtain ⟨j', hj', ej'⟩ := (s2 v).ix
    have hlt : j < N.length := by
      by_cases c : j < N.length
      · exact c
      · rw [List.getElem?_eq_none (by omega)] at hj; cases hj
    have : j = j' := (List.getElem?_inj hlt n.nd).mp (by rw [hj, hj'])
    subst this
    exact ej' w
  obtain ⟨j, hj, ej⟩ := hj
  have hij : i ≠ j := fun z => by
    subst z
    rw [hi] at hj
    cases hj
    exact of_decide_eq_false hne rfl
  refine gs_par hc n.ndN (by rw [n.nn]; exact hi) (by rw [n.nn]; exact hj) hij (n.look h1) (n.look h2) hw hs fun H hh Q q => h H hh Q fun vs L1 H1 ⟨v, w, e, k⟩ h1 => q vs L1 H1 ⟨v, w, e, by rw [← ei, ← ej]; exact k⟩ h1
theorem cut_min {rs : List Rec} {c : Nat} : SW.cutD rs none (some (if (rs.length : Int) < (c : Int) then (rs.length : Int) else (c : Int))) = rs.take (min c rs.length) := by
  unfold SW.cutD
  by_cases h : (rs.length : Int) < (c : Int)
  · rw [if_pos h, HT.sIx_nat]; show ((rs.drop 0).take (min rs.length rs.length - 0)) = _
    rw [List.drop_zero, show min rs.length rs.length - 0 = min c rs.length by omega]
  · rw [if_neg h, HT.sIx_nat]; show ((rs.drop 0).take (min c rs.length - 0)) = _
    rw [List.drop_zero, Nat.sub_zero]
/-! ### agree -/
def spAg (Kf : PySem.W.Frag) : SpL := fun vs L K kx => ∃ (o : Addr) (a : Nat → Addr) (S : CS) (l k : Nat) (R : List SA), vs = [.ref o, .int (k : Int)] ∧ L = CpsR Kf o a S :: R ∧ k < 3 ∧ Wf S ∧ S.leader = some l ∧ l ≠ k ∧ (∀ r ∈ (S.c k).rs, 0 ≤ r.1) ∧
  K .non (CpsR Kf o a (agreeP S l k) :: R)
theorem ok_ag (fx : Fx Kf mg) (hlm : MeAt T P w Kf mg base 1 "Copy" "last_mark" (spLM Kf)) (hte : MeAt T P w Kf mg base 1 "Copy" "turn_end" (spTE Kf)) (F : FunD Kf "agree" "Copies.agree" (defArgs s_Copies_agree) (defBody s_Copies_agree) (defScope s_Copies_agree) [] [] f fd) : FnOk P w Kf mg base (L2.CX P w) 2 f fd ["self", "k"] (spOf T (spAg Kf)) := by
  refine def_in F sc_Copies_agree (fun vs L K kx h => ?_) (fun A outer s H E hr n vs L KK kx h hx σ hσ => ?_)
  · obtain ⟨o, a, S, l, k, R, rfl, _⟩ := h; rfl
  · obtain ⟨o, a, S, l, k, R, rfl, rfl, hk, wf, hld, hn, hpos, k1⟩ := h
    obtain rfl : σ = [some (.ref o), some (.int (k : Int)), none, none, none, none, none, none] := hσ
    cases fx
    obtain ⟨hl, hlw⟩ := wf.ld l hld
    refine cps_in (v := .int (l : Int)) (by tm_at "sSel") (by rw [hld]; rfl) fun dc lc lu lw lk lj => ?_
    refine foc_in hk (by tm_at "sSel") fun dk rk => ?_
    refine foc_in2 hk hl hn (by tm_at "sSel") fun dl rl => ?_
    refine gss_cons ?_
    tm_at "go"
    refine gs_par2 n (by tm_at "sSlot") (fun _ => by tm_at "sSlot") (by tm_at "sKd") (by tm_at "sKd") (by with_unfolding_all rfl) rfl rfl rfl ?_
    tm_at "go"
    refine ⟨_, _, rfl, ?_⟩
    refine GSs.ent (L' := pt (a k) (cpo Kf dk rk { S.c k with rs := (S.c k).rs }) :: LstR rRec rk (S.c k).rs :: pt (a l) (cpo Kf dl rl (S.c l)) :: LstR rRec rl (S.c l).rs :: RestP Kf a S.c [k, l] :: cpsG Kf o a dc lc lu lw lk lj S (.int (l : Int)) R) (by tm_at "ent") ?_
    refine gss_cons ?_
    refine gs_while (fun m σ' L' => ∃ (rs : List Rec) (r' : Addr) (u1 u2 u3 u4 : Option V), (rs.length ≤ m ∧ m ≤ (S.c k).rs.length) ∧ (∀ r ∈ rs, r ∈ (S.c k).rs) ∧ agreeF (S.c l).rs (m + 1) rs = agreeF (S.c l).rs ((S.c k).rs.length + 1) (S.c k).rs ∧
      σ' = [some (.ref o), some (.int (k : Int)), some (.ref (a k)), some (.ref (a l)), u1, u2, u3, u4] ∧
      L' = pt (a k) (cpo Kf dk r' { S.c k with rs := rs }) :: LstR rRec r' rs :: pt (a l) (cpo Kf dl rl (S.c l)) :: LstR rRec rl (S.c l).rs :: RestP Kf a S.c [k, l] :: cpsG Kf o a dc lc lu lw lk lj S (.int (l : Int)) R) (passes_of rfl) (S.c k).rs.length ?_ ?_
    · refine ⟨(S.c k).rs, rk, _, _, _, _, ⟨Nat.le_refl _, Nat.le_refl _⟩, fun r h => h, rfl, rfl, rfl⟩
    · rintro m σ' L' ⟨rs, r', u1, u2, u3, u4, ⟨hm, hm2⟩, hsub, hag, rfl, rfl⟩
      refine gt_val (by intro _; rfl) ?_
      iterate 5 tm_at "g"
      have hlen : rs.length ≤ (S.c k).rs.length := Nat.le_trans hm hm2
      refine GE.mono (K := fun v L1 => v = .int (lastT rs) ∧ Ent T L1 (pt (a k) (cpo Kf dk r' { S.c k with rs := rs }) :: LstR rRec r' rs :: pt (a l) (cpo Kf dl rl (S.c l)) :: LstR rRec rl (S.c l).rs :: RestP Kf a S.c [k, l] :: cpsG Kf o a dc lc lu lw lk lj S (.int (l : Int)) R)) ?_ ?_
      · tm_at "go"
        refine go_neE hr (sees_lst (by tm_at "sSel") (by decide)) (sees_nil (by tm_at "sSel")) (eqv_nil rs) ?_
        tm_at "go"
        tm_at "if"
        · rename_i hne
          obtain ⟨d, e1, e2⟩ := last_at hne
          tm_at "go"
          refine gu_neg ?_
          refine gi_lstRi (by tm_at "sSel") e1 fun v => ?_
          tm_at "go"
          refine gi_pair cInt cStr (rv_val .here) rfl ?_
          exact ⟨by rw [e2], by tm_at "ent"⟩
        · rename_i hne
          tm_at "go"
          exact ⟨by rw [hne]; rfl, by tm_at "ent"⟩
      · rintro v L1 ⟨rfl, t1⟩
        refine GSs.ent t1 ?_
        refine gss_cons ?_
        tm_at "go"
        refine call_te (c := S.c l) (by tm_at "ent") (by have := wf.len l hl; rw [sizeLine_eq]; omega) fun p => ?_
        tm_at "go"
        tm_at "if"
        · rename_i hb
          tm_at "go"
          refine call_lm (c := { S.c k with rs := rs }) (by tm_at "ent") ?_
          tm_at "go"
          refine gsl_R (by tm_at "sSel") fun q => ?_
          tm_at "go"
          rw [cut_min]
          have e : rs.take (min (cntLe (bestOf (lastT rs) (S.c l).rs) (S.c l).rs) rs.length) = agreeF (S.c l).rs ((S.c k).rs.length + 1) (S.c k).rs := by rw [← hag]; unfold agreeF; rw [if_pos (.inl hb)]
          rw [e]
          apply Clo.mk k1
          show Ent T _ (CpsR Kf o a { S with c := fset S.c k { S.c k with rs := _, turn := S.turn }, joined := fset S.joined k true } :: R)
          tm_at "ent"
        · rename_i hb
          tm_at "go"
          refine go_eqE hr (sees_lst (by tm_at "sSel") (by decide)) (sees_nil (by tm_at "sSel")) (eqv_nil rs) ?_
          tm_at "go"
          tm_at "if"
          · rename_i hb2
            tm_at "go"
            refine call_lm (c := { S.c k with rs := rs }) (by tm_at "ent") ?_
            tm_at "go"
            refine gsl_R (by tm_at "sSel") fun q => ?_
            tm_at "go"
            rw [cut_min]
            have e : rs.take (min (cntLe (bestOf (lastT rs) (S.c l).rs) (S.c l).rs) rs.length) = agreeF (S.c l).rs ((S.c k).rs.length + 1) (S.c k).rs := by rw [← hag]; unfold agreeF; rw [if_pos (.inr hb2)]
            rw [e]
            apply Clo.mk k1
            show Ent T _ (CpsR Kf o a { S with c := fset S.c k { S.c k with rs := _, turn := S.turn }, joined := fset S.joined k true } :: R)
            tm_at "ent"
          · rename_i hb2
            tm_at "go"
            refine ge_lcR ow0_Copies_agree rfl n.ndN (blkOk_by (N := n_Copies_agree) (sc := defScope s_Copies_agree) (by decide +kernel)) (by tm_at "sWp") (fun _ => rfl) ?_
            tm_at "go"
            refine ⟨_, _, rRec, rs, rfl, ⟨_, by tm_at "sSel"⟩, lcgo (fun D (ys : List Rec) => LstR rRec D ys) (fun i ys => ys = (rs.take i).filter fun r => decide (r.1 ≤ bestOf (lastT rs) (S.c l).rs)) [] rfl (fun D h e => lst0 rRec h e) ?_ ?_⟩
            · rintro D i x Lx ys hi ⟨dd, hd, rfl⟩ e s' H' C cl fp
              simp only [List.singleton_append]
              refine gg_blk (kc := kc0_Copies_agree) n rfl (by decide) fun nb => ?_
              tm_at "go"
              intro s' H' C cl fp
              refine gts_blk (kc := kc0_Copies_agree) n rfl (by decide) fun nb => ?_
              tm_at "go"
              refine gi_pair cInt cStr (rv_val .here) rfl ?_
              tm_at "go"
              tm_at "if"
              · rename_i hc
                intro s' H' C cl fp
                refine ge_blk (kc := kc0_Copies_agree) n rfl (by decide) fun nb => ?_
                tm_at "go"
                refine lcend_R (d := dd) (by tm_at "sRpl") ?_ (rv_val .here) ⟨ys ++ [dd], ?_, ?_⟩
                · have h1 := wf.len k hk
                  have h2 : ys.length ≤ rs.length := by rw [e]; exact Nat.le_trans (List.length_filter_le _ _) (List.length_take_le' _ _)
                  rw [sizeLine_eq]; omega
                · show _ = _
                  rw [filt_succ hd, if_pos (by simpa using hc), e]
                · tm_at "ent"
              · rename_i hc
                refine ⟨ys, ?_, ?_⟩
                · show _ = _
                  rw [filt_succ hd, if_neg (by simpa using hc), List.append_nil, e]
                · tm_at "ent"
            · intro D ys e
              tm_at "go"
              rw [List.take_length] at e
              have hless : ys.length < rs.length := by
                rw [e]
                have hp : 0 ≤ lastT rs := by
                  obtain ⟨d, hd⟩ : ∃ d, rs.getLast? = some d := by
                    cases q : rs.getLast? with
                    | none => exact absurd (List.getLast?_eq_none_iff.mp q) hb2
                    | some d => exact ⟨d, rfl⟩
                  have : lastT rs = d.1 := by unfold lastT; rw [hd]
                  rw [this]
                  exact hpos d (hsub d (List.mem_of_getLast? hd))
                exact filt_less hb2 rfl hb (best_le hp).1
              refine ⟨m - 1, by omega, ?_⟩
              tm_at "fits"
              · refine ⟨ys, D, _, _, _, _, ⟨by omega, by omega⟩, fun r hr => ?_, ?_, rfl, rfl⟩
                · rw [e] at hr; exact hsub r (List.mem_filter.mp hr).1
                · have e2 : m - 1 + 1 = m := by omega
                  rw [e2, ← hag]
                  conv => rhs; unfold agreeF
                  rw [if_neg (by rintro (z | z); exact hb z; exact hb2 z), e]
              · tm_at "ent"
end
end K04
set_option Elab.async false
set_option linter.all false
set_option maxRecDepth 100000
set_option maxHeartbeats 800000
set_option pp.deepTerms false
set_option pp.deepTerms.threshold 10
set_option pp.maxSteps 600
namespace K04
open PySem PySem.Spec L2 SW
open PyProof.Rows hiding St
local macro_rules | `(tactic| tm_at "sAt") => `(tactic| with_reducible (first | exact At.here | (apply At.there; tm_at "sAt")))
local macro_rules | `(tactic| tm_at "sSlot") => `(tactic| with_reducible (first | exact Slot.here | (apply Slot.there; tm_at "sSlot")))
local macro_rules | `(tactic| tm_at "sKd") => `(tactic| with_reducible (first | exact Kd.here | (apply Kd.there; tm_at "sKd")))
local macro_rules | `(tactic| tm_at "sSel") => `(tactic| with_reducible (first | exact Sel.here | (apply Sel.there; tm_at "sSel")))
local macro_rules | `(tactic| tm_at "sRpl") => `(tactic| with_reducible (first | exact Rpl.here | (apply Rpl.there; tm_at "sRpl")))
local macro_rules | `(tactic| tm_at "sTk") => `(tactic| (first | exact Tk.nil | (apply Tk.cons; (tm_at "sSel"); (tm_at "sTk"))))
local macro_rules | `(tactic| tm_at "sVk") => `(tactic| first
  | exact Vk.l
  | exact Vk.c
  | exact Vk.f)
local macro_rules | `(tactic| tm_at "sLk") => `(tactic| first
  | exact Lk.l
  | exact Lk.c)
local macro_rules | `(tactic| tm_at "sLf") => `(tactic| first
  | exact Or.inl rfl
  | exact Or.inr rfl)
local macro_rules | `(tactic| tm_at "sRoom") => `(tactic| first
  | assumption
  | exact L2.Room.mono (by assumption) (by decide))
local macro_rules | `(tactic| tm_at "sXok") => `(tactic| first
  | assumption
  | exact xok0)
local macro_rules | `(tactic| tm_at "sCv") => `(tactic| (first | with_reducible exact Cv.id | with_reducible exact Cv.lst0 | ((with_reducible refine Cv.pt ?_); tm_at "sEq") | ((with_reducible refine Cv.lst ?_); tm_at "sEq") | ((with_reducible refine Cv.val ?_); tm_at "sEq")))
local macro_rules | `(tactic| tm_at "sEq") => `(tactic| (first | rfl | assumption | (simp; done)))
local macro_rules | `(tactic| tm_at "sSelC") => `(tactic| (first | ((with_reducible apply SelC.here); tm_at "sCv") | ((with_reducible apply SelC.there); tm_at "sSelC")))
local macro_rules | `(tactic| tm_at "fit") => `(tactic| (first | with_reducible exact Fit.refl | with_reducible exact Fit.nil | ((with_reducible apply Fit.find); (case s => tm_at "sSelC"); (case t => tm_at "fit")) | ((with_reducible apply Fit.drop); tm_at "fit")))
local macro_rules | `(tactic| tm_at "sLkF") => `(tactic| with_reducible (first | exact LkF.here | (apply LkF.there (by with_unfolding_all rfl); tm_at "sLkF")))
local macro_rules | `(tactic| tm_at "sNoF") => `(tactic| with_reducible (first | exact NoF.nil | (apply NoF.cons (by with_unfolding_all rfl); tm_at "sNoF")))
local macro_rules | `(tactic| tm_at "sPutF") => `(tactic| with_reducible (first | exact PutF.here | exact PutF.nil | (apply PutF.there (by with_unfolding_all rfl); tm_at "sPutF")))
local macro_rules | `(tactic| tm_at "sHasL") => `(tactic| (first | exact hasL_pt (by tm_at "sSel") | exact hasL_R (by tm_at "sSel")))
local macro_rules | `(tactic| tm_at "sZ") => `(tactic| (first | assumption | (simp only [List.length_cons, List.length_nil, List.length_append, PySem.sizeLine_eq]; omega) | (rw [PySem.sizeLine_eq]; simp; done)))
local macro_rules | `(tactic| tm_at "sIx") => `(tactic| with_unfolding_all rfl)
local macro_rules | `(tactic| tm_at "sSet") => `(tactic| (first | exact SetR.here | (apply SetR.there; tm_at "sSet")))
local macro_rules | `(tactic| tm_at "sPut") => `(tactic| first
  | exact PutAt.c 0 (by with_unfolding_all rfl) (by tm_at "sSet")
  | exact PutAt.c 1 (by with_unfolding_all rfl) (by tm_at "sSet")
  | exact PutAt.c 2 (by with_unfolding_all rfl) (by tm_at "sSet")
  | exact PutAt.c 3 (by with_unfolding_all rfl) (by tm_at "sSet")
  | exact PutAt.c 4 (by with_unfolding_all rfl) (by tm_at "sSet")
  | exact PutAt.c 5 (by with_unfolding_all rfl) (by tm_at "sSet"))
local macro_rules | `(tactic| tm_at "gECall") => `(tactic| first
  | ((guard_target = GE _ _ (Expr.Call (Expr.Name "len" _) _ _ _) _ _ _); (with_reducible refine gb_len (by assumption) (by tm_at "sKd") ?hm ?he ?hpl ?_); (case hm => assumption); (case he => rfl); (case hpl => rfl))
  | ((guard_target = GE _ _ (Expr.Call (Expr.Name "int" _) _ _ _) _ _ _); (with_reducible refine gb_int (by assumption) (by tm_at "sKd") ?hm ?he ?hpl ?_); (case hm => assumption); (case he => rfl); (case hpl => rfl))
  | ((guard_target = GE _ _ (Expr.Call (Expr.Name "str" _) _ _ _) _ _ _); (with_reducible refine gb_str (by assumption) (by tm_at "sKd") ?hm ?he ?hpl ?_); (case hm => assumption); (case he => rfl); (case hpl => rfl))
  | ((guard_target = GE _ _ (Expr.Call (Expr.Name "list" _) _ _ _) _ _ _); (with_reducible refine gb_list (by assumption) (by tm_at "sKd") ?hm ?he ?hpl ?_); (case hm => assumption); (case he => rfl); (case hpl => rfl))
  | ((guard_target = GE _ _ (Expr.Call (Expr.Name "tuple" _) _ _ _) _ _ _); (with_reducible refine gb_tuple (by assumption) (by tm_at "sKd") ?hm ?he ?hpl ?_); (case hm => assumption); (case he => rfl); (case hpl => rfl))
  | ((guard_target = GE _ _ (Expr.Call (Expr.Name "min" _) _ _ _) _ _ _); (with_reducible refine gb_min (by assumption) (by tm_at "sKd") ?hm ?he ?hpl ?_); (case hm => assumption); (case he => rfl); (case hpl => rfl))
  | ((guard_target = GE _ _ (Expr.Call (Expr.Name "max" _) _ _ _) _ _ _); (with_reducible refine gb_max (by assumption) (by tm_at "sKd") ?hm ?he ?hpl ?_); (case hm => assumption); (case he => rfl); (case hpl => rfl))
  | ((guard_target = GE _ _ (Expr.Call (Expr.Name "sum" _) _ _ _) _ _ _); (with_reducible refine gb_sum (by assumption) (by tm_at "sKd") ?hm ?he ?hpl ?_); (case hm => assumption); (case he => rfl); (case hpl => rfl))
  | ((guard_target = GE _ _ (Expr.Call (Expr.Name "sorted" _) _ _ _) _ _ _); (with_reducible refine gb_sorted (by assumption) (by tm_at "sKd") ?hm ?he ?hpl ?_); (case hm => assumption); (case he => rfl); (case hpl => rfl))
  | ((guard_target = GE _ _ (Expr.Call (Expr.Name "abs" _) _ _ _) _ _ _); (with_reducible refine gb_abs (by assumption) (by tm_at "sKd") ?hm ?he ?hpl ?_); (case hm => assumption); (case he => rfl); (case hpl => rfl))
  | ((guard_target = GE _ _ (Expr.Call (Expr.Name "range" _) _ _ _) _ _ _); (with_reducible refine gb_range (by assumption) (by tm_at "sKd") ?hm ?he ?hpl ?_); (case hm => assumption); (case he => rfl); (case hpl => rfl))
  | ((guard_target = GE _ _ (Expr.Call (Expr.Name "any" _) _ _ _) _ _ _); (with_reducible refine gb_any (by assumption) (by tm_at "sKd") ?hm ?he ?hpl ?_); (case hm => assumption); (case he => rfl); (case hpl => rfl))
  | ((guard_target = GE _ _ (Expr.Call (Expr.Name "all" _) _ _ _) _ _ _); (with_reducible refine gb_all (by assumption) (by tm_at "sKd") ?hm ?he ?hpl ?_); (case hm => assumption); (case he => rfl); (case hpl => rfl))
  | ((guard_target = GE _ _ (Expr.Call (Expr.Name "dict" _) _ _ _) _ _ _); (with_reducible refine gb_dict (by assumption) (by tm_at "sKd") ?hm ?he ?hpl ?_); (case hm => assumption); (case he => rfl); (case hpl => rfl))
  | ((guard_target = GE _ _ (Expr.Call (Expr.Name "set" _) _ _ _) _ _ _); (with_reducible refine gb_set (by assumption) (by tm_at "sKd") ?hm ?he ?hpl ?_); (case hm => assumption); (case he => rfl); (case hpl => rfl)))
local macro_rules | `(tactic| tm_at "gECall") => `(tactic| (guard_target = GE _ _ (Expr.Call (Expr.Name "_law_roll" _) (_ :: _) [] _) _ _ _; (refine ge_call (FnAt.e (x := "_law_roll") (by assumption)) (by tm_at "sRoom") (by tm_at "sXok") (Nm.gl (by assumption) (by tm_at "sKd")) ?hdb ?he ?hpl ?_); (case hdb => rfl); (case he => rfl); (case hpl => rfl)))
local macro_rules | `(tactic| tm_at "gECall") => `(tactic| (guard_target = GE _ _ (Expr.Call (Expr.Name "_law_dice" _) (_ :: _) [] _) _ _ _; (refine ge_call (FnAt.e (x := "_law_dice") (by assumption)) (by tm_at "sRoom") (by tm_at "sXok") (Nm.gl (by assumption) (by tm_at "sKd")) ?hdb ?he ?hpl ?_); (case hdb => rfl); (case he => rfl); (case hpl => rfl)))
local macro_rules | `(tactic| tm_at "gECall") => `(tactic| (guard_target = GE _ _ (Expr.Call (Expr.Name "_law_rounds" _) (_ :: _) [] _) _ _ _; (refine ge_call (FnAt.e (x := "_law_rounds") (by assumption)) (by tm_at "sRoom") (by tm_at "sXok") (Nm.gl (by assumption) (by tm_at "sKd")) ?hdb ?he ?hpl ?_); (case hdb => rfl); (case he => rfl); (case hpl => rfl)))
local macro_rules | `(tactic| tm_at "gECall") => `(tactic| (guard_target = GE _ _ (Expr.Call (Expr.Name "_law_deed" _) (_ :: _) [] _) _ _ _; (refine ge_call (FnAt.e (x := "_law_deed") (by assumption)) (by tm_at "sRoom") (by tm_at "sXok") (Nm.gl (by assumption) (by tm_at "sKd")) ?hdb ?he ?hpl ?_); (case hdb => rfl); (case he => rfl); (case hpl => rfl)))
local macro_rules | `(tactic| tm_at "gE") => `(tactic| first
  | ((guard_target = GE _ _ (Expr.Name _ _) _ _ _); (with_reducible refine ge_name (by assumption) (by tm_at "sAt") (by tm_at "sKd") (by tm_at "sVk") rfl ?_))
  | ((guard_target = GE _ _ (Expr.Constant (Const.int _) _ _) _ _ _); (with_reducible refine ge_int ?_))
  | ((guard_target = GE _ _ (Expr.Attribute _ _ _) _ _ _); (with_reducible refine ge_fld ?hb ?_); (case hb => rfl))
  | ((guard_target = GE _ _ (Expr.Subscript _ (Expr.Slice _ _ none _) _) _ _ _); (with_reducible refine ge_slice ?_))
  | ((guard_target = GE _ _ (Expr.Call (Expr.Attribute _ _ _) _ _ _) _ _ _); tm_at "gEMeth")
  | ((guard_target = GE _ _ (Expr.Subscript _ _ _) _ _ _); (with_reducible refine ge_sub ?hs ?_); (case hs => exact fun _ _ => rfl))
  | ((guard_target = GE _ _ (Expr.BinOp _ _ _ _) _ _ _); (with_reducible refine ge_bin ?_))
  | ((guard_target = GE _ _ (Expr.Constant (Const.str _) _ _) _ _ _); (with_reducible refine ge_str ?_))
  | ((guard_target = GE _ _ (Expr.Call (Expr.Name _ _) _ _ _) _ _ _); tm_at "gECall")
  | ((guard_target = GE _ _ (Expr.List _ _) _ _ _); (with_reducible refine ge_lst ?_))
  | ((guard_target = GE _ _ (Expr.Tuple _ _ _) _ _ _); (with_reducible refine ge_tup ?_))
  | ((guard_target = GE _ _ (Expr.Constant Const.none _ _) _ _ _); (with_reducible refine ge_none ?_))
  | ((guard_target = GE _ _ (Expr.Constant (Const.bool _) _ _) _ _ _); (with_reducible refine ge_bl ?_))
  | ((guard_target = GE _ _ (Expr.Compare _ [_] [_] _) _ _ _); (with_reducible refine ge_cmp ?hm ?_); (case hm => first | exact nomark _ | rfl))
  | ((guard_target = GE _ _ (Expr.UnaryOp UnaryOp.Not _ _) _ _ _); (with_reducible refine ge_not ?_))
  | ((guard_target = GE _ _ (Expr.UnaryOp _ _ _) _ _ _); (with_reducible refine ge_un ?_))
  | ((guard_target = GE _ _ (Expr.IfExp _ _ _ _) _ _ _); (with_reducible refine ge_if ?_))
  | ((guard_target = GE _ _ (Expr.Compare _ [_, _] [_, _] _) _ _ _); (with_reducible refine ge_chain ?hm ?_); (case hm => with_unfolding_all rfl))
  | ((guard_target = GE _ _ (Expr.BoolOp _ [_] _) _ _ _); (with_reducible refine ge_one ?_))
  | ((guard_target = GE _ _ (Expr.BoolOp BoolOp.And _ _) _ _ _); (with_reducible refine ge_and ?_))
  | ((guard_target = GE _ _ (Expr.BoolOp BoolOp.Or _ _) _ _ _); (with_reducible refine ge_or ?_)))
local macro_rules | `(tactic| tm_at "gEMeth") => `(tactic| first
  | ((guard_target = GE _ _ (Expr.Call (Expr.Attribute _ "append" _) [_] [] _) _ _ _); (with_reducible refine ge_append ?h1 ?h2 ?h3 ?h4 ?h5 ?_); (case h1 => rfl); (case h2 => rfl); (case h3 => rfl); (case h4 => rfl); (case h5 => rfl))
  | ((guard_target = GE _ _ (Expr.Call (Expr.Attribute _ "extend" _) [_] [] _) _ _ _); (with_reducible refine ge_extend ?h1 ?h2 ?h3 ?h4 ?h5 ?_); (case h1 => rfl); (case h2 => rfl); (case h3 => rfl); (case h4 => rfl); (case h5 => rfl))
  | ((guard_target = GE _ _ (Expr.Call (Expr.Attribute _ "remove" _) [_] [] _) _ _ _); (with_reducible refine ge_remove ?h1 ?h2 ?h3 ?h4 ?h5 ?_); (case h1 => rfl); (case h2 => rfl); (case h3 => rfl); (case h4 => rfl); (case h5 => rfl))
  | ((guard_target = GE _ _ (Expr.Call (Expr.Attribute _ "pop" _) [_] [] _) _ _ _); (with_reducible refine ge_popAt ?h1 ?h2 ?h3 ?h4 ?h5 ?_); (case h1 => rfl); (case h2 => rfl); (case h3 => rfl); (case h4 => rfl); (case h5 => rfl)))
local macro_rules | `(tactic| tm_at "gT") => `(tactic| first
  | ((guard_target = GT _ _ (Expr.Compare _ [_] [_] _) _ _ _); (with_reducible refine gt_cmp ?hm ?_); (case hm => first | exact nomark _ | rfl))
  | ((guard_target = GT _ _ (Expr.UnaryOp UnaryOp.Not _ _) _ _ _); (with_reducible refine gt_not ?_))
  | ((guard_target = GT _ _ (Expr.BoolOp _ _ _) _ _ _); (with_reducible refine gt_bool ?_))
  | ((guard_target = GT _ _ (Expr.Compare _ [_, _] [_, _] _) _ _ _); (with_reducible refine gt_chain ?hm ?_); (case hm => with_unfolding_all rfl))
  | ((guard_target = GT _ _ (Expr.Call _ _ _ _) _ _ _); (with_reducible refine gt_val ?he ?_); (case he => intro _; rfl))
  | ((guard_target = GT _ _ (Expr.Subscript _ _ _) _ _ _); (with_reducible refine gt_val ?he ?_); (case he => intro _; rfl))
  | ((guard_target = GT _ _ (Expr.Name _ _) _ _ _); (with_reducible refine gt_val ?he ?_); (case he => intro _; rfl))
  | ((guard_target = GT _ _ (Expr.Attribute _ _ _) _ _ _); (with_reducible refine gt_val ?he ?_); (case he => intro _; rfl)))
local macro_rules | `(tactic| tm_at "gB") => `(tactic| first
  | ((guard_target = GB _ _ (Expr.BoolOp BoolOp.And [_] _) _ _ _); (with_reducible refine gb_and1 ?_))
  | ((guard_target = GB _ _ (Expr.BoolOp BoolOp.Or [_] _) _ _ _); (with_reducible refine gb_or1 ?_))
  | ((guard_target = GB _ _ (Expr.BoolOp BoolOp.And _ _) _ _ _); (with_reducible refine gb_and ?_))
  | ((guard_target = GB _ _ (Expr.BoolOp BoolOp.Or _ _) _ _ _); (with_reducible refine gb_or ?_)))
local macro_rules | `(tactic| tm_at "gA") => `(tactic| first
  | ((guard_target = GA _ _ ([]) _ _ _); (with_reducible refine ga_nil ?_))
  | ((guard_target = GA _ _ (_ :: _) _ _ _); (with_reducible refine ga_cons ?hst ?_); (case hst => rfl)))
local macro_rules | `(tactic| tm_at "gOp") => `(tactic| first
  | ((guard_target = GOp _ _ (binaryOp Operator.Add) (V.int _) (V.int _) _ _); (with_reducible refine go_add ?_))
  | ((guard_target = GOp _ _ (binaryOp Operator.Sub) (V.int _) (V.int _) _ _); (with_reducible refine go_sub ?_))
  | ((guard_target = GOp _ _ (compareOp CmpOp.Eq) (V.int _) (V.int _) _ _); (with_reducible refine go_eqI ?_))
  | ((guard_target = GOp _ _ (compareOp CmpOp.Lt) (V.int _) (V.int _) _ _); (with_reducible refine go_lt ?_))
  | ((guard_target = GOp _ _ (compareOp CmpOp.LtE) (V.int _) (V.int _) _ _); (with_reducible refine go_le ?_))
  | ((guard_target = GOp _ _ (compareOp CmpOp.Gt) (V.int _) (V.int _) _ _); (with_reducible refine go_gt ?_))
  | ((guard_target = GOp _ _ (compareOp CmpOp.GtE) (V.int _) (V.int _) _ _); (with_reducible refine go_ge ?_))
  | ((guard_target = GOp _ _ (compareOp CmpOp.NotEq) (V.int _) (V.int _) _ _); (with_reducible refine go_neI ?_))
  | ((guard_target = GOp _ _ (binaryOp Operator.Mult) (V.int _) (V.int _) _ _); (with_reducible refine go_mul ?c ?_); (case c => first | (left; constructor <;> omega) | (right; constructor <;> omega)))
  | ((guard_target = GOp _ _ (binaryOp Operator.FloorDiv) (V.int _) (V.int _) _ _); (with_reducible refine go_div ?c ?_); (case c => constructor <;> omega))
  | ((guard_target = GOp _ _ (binaryOp Operator.Mod) (V.int _) (V.int _) _ _); (with_reducible refine go_mod ?c ?_); (case c => omega))
  | ((guard_target = GOp _ _ (compareOp CmpOp.Eq) (V.str _) (V.str _) _ _); (with_reducible refine go_eqT ?_))
  | ((guard_target = GOp _ _ (compareOp CmpOp.NotEq) (V.str _) (V.str _) _ _); (with_reducible refine go_neT ?_))
  | ((guard_target = GOp _ _ (compareOp CmpOp.Eq) (V.bl _) (V.bl _) _ _); (with_reducible refine go_eqB ?_))
  | ((guard_target = GOp _ _ (compareOp CmpOp.NotEq) (V.bl _) (V.bl _) _ _); (with_reducible refine go_neB ?_))
  | ((guard_target = GOp _ _ (compareOp CmpOp.In) (V.int _) (V.ref _) _ _); (with_reducible refine go_inI (by tm_at "sSel") ?_))
  | ((guard_target = GOp _ _ (compareOp CmpOp.NotIn) (V.int _) (V.ref _) _ _); (with_reducible refine go_ninI (by tm_at "sSel") ?_))
  | ((guard_target = GOp _ _ (compareOp CmpOp.In) (V.str _) (V.ref _) _ _); (with_reducible refine go_inT (by tm_at "sSel") ?_))
  | ((guard_target = GOp _ _ (compareOp CmpOp.NotIn) (V.str _) (V.ref _) _ _); (with_reducible refine go_ninT (by tm_at "sSel") ?_))
  | ((guard_target = GOp _ _ (compareOp CmpOp.Eq) (_) (V.non) _ _); (with_reducible refine go_eqS rfl ?_))
  | ((guard_target = GOp _ _ (compareOp CmpOp.NotEq) (_) (V.non) _ _); (with_reducible refine go_neS rfl ?_))
  | ((guard_target = GOp _ _ (compareOp CmpOp.Is) (_) (V.non) _ _); (with_reducible refine go_isN ?_))
  | ((guard_target = GOp _ _ (compareOp CmpOp.IsNot) (_) (V.non) _ _); (with_reducible refine go_notN ?_)))
local macro_rules | `(tactic| tm_at "gC") => `(tactic| first
  | ((guard_target = GC _ _ (Value.type "int") [V.int _] _ _); (with_reducible refine gc_intI ?_))
  | ((guard_target = GC _ _ (Value.type "int") [V.bl _] _ _); (with_reducible refine gc_intB ?_))
  | ((guard_target = GC _ _ (Value.builtin "abs") [V.int _] _ _); (with_reducible refine gc_abs ?_))
  | ((guard_target = GC _ _ (Value.builtin "max") [V.int _, V.int _] _ _); (with_reducible refine gc_max2 ?hc ?_); (case hc => rfl))
  | ((guard_target = GC _ _ (Value.builtin "min") [V.int _, V.int _] _ _); (with_reducible refine gc_min2 ?hc ?_); (case hc => rfl))
  | ((guard_target = GC _ _ (Value.type "range") [V.int _] _ _); (with_reducible refine gc_rng1 ?_))
  | ((guard_target = GC _ _ (Value.type "range") [V.int _, V.int _] _ _); (with_reducible refine gc_rng2 ?_))
  | ((guard_target = GC _ _ (Value.builtin "len") [V.ref _] _ _); (with_reducible refine gc_lenR (by tm_at "sSel") ?_))
  | ((guard_target = GC _ _ (Value.builtin "len") [V.ref _] _ _); (with_reducible refine gc_len (by tm_at "sSel") ?_))
  | ((guard_target = GC _ _ (Value.builtin "len") [V.ref _] _ _); (with_reducible refine gc_lenT (by tm_at "sSel") ?_)))
local macro_rules | `(tactic| tm_at "gF") => `(tactic| first
  | ((guard_target = GF _ _ _ _ _ _); (with_reducible refine gf (by tm_at "sSel") (by tm_at "sLkF") ?hc ?hn ?_); (case hc => assumption); (case hn => assumption))
  | ((guard_target = GFS _ _ _ _ _ _); (with_reducible refine gfs (by tm_at "sRpl") (by tm_at "sPutF") ?hc ?hn ?hz ?_); (case hc => assumption); (case hn => assumption); (case hz => exact Nat.le_of_ble_eq_true rfl))
  | ((guard_target = GFA _ _ _ _ _ _ _ _ _); (with_reducible refine gfa (by tm_at "sSel") (by tm_at "sLkF") ?hc ?hn ?_); (case hc => assumption); (case hn => assumption))
  | ((guard_target = Exists fun _ => Exists fun _ => Exists fun _ => (Rpl _ _ _ _ ∧ _ ∧ _)); (with_reducible refine gfaE (by tm_at "sRpl") (by tm_at "sPutF") ?hz ?_); (case hz => exact Nat.le_of_ble_eq_true rfl))
  | ((guard_target = GAS _ _ _ _ _ _ _ _ _); (with_reducible refine gas (by tm_at "sSel") (by tm_at "sIx") ?_))
  | ((guard_target = (HasL _ _ _ ∧ _)); (with_reducible refine And.intro ?hh ?_); (case hh => tm_at "sHasL"))
  | ((guard_target = (IsIns _ _ _ _ _ ∧ _)); (with_reducible refine And.intro ?hh ?_); (case hh => exact isIns (by tm_at "sSel") (by tm_at "sNoF") (by rfl)))
  | ((guard_target = GApp _ _ _ _ _); (with_reducible refine gapp_pt (by tm_at "sRpl") ?hz ?_); (case hz => tm_at "sZ"))
  | ((guard_target = (List.length _ ≤ PySem.sizeLine ∧ _)); (with_reducible refine And.intro ?hz ?_); (case hz => tm_at "sZ"); intro _)
  | ((guard_target = GIp _ _ Operator.Add (V.int _) (V.int _) _ _); (with_reducible refine gip_add ?_))
  | ((guard_target = GIp _ _ Operator.Sub (V.int _) (V.int _) _ _); (with_reducible refine gip_sub ?_))
  | ((guard_target = GRem _ _ _ _ _); (with_reducible refine grem (by tm_at "sRpl") ?hm ?_); (case hm => assumption))
  | ((guard_target = GO _ _ none _ _ _); (with_reducible refine goN ?_))
  | ((guard_target = GO _ _ (some _) _ _ _); (with_reducible refine goS ?_)))
local macro_rules | `(tactic| tm_at "gIx") => `(tactic| first
  | (with_reducible refine gi_lst (by tm_at "sSel") (by tm_at "sIx") ?_)
  | (with_reducible refine gi_tup (by tm_at "sSel") (by tm_at "sIx") ?_))
local macro_rules | `(tactic| tm_at "gS") => `(tactic| first
  | ((guard_target = GS _ _ (Stmt.Assign [Expr.Name _ _] _ _) _ _ _); (with_reducible refine gs_name (by assumption) (by tm_at "sSlot") (by tm_at "sKd") (by tm_at "sLk") (by tm_at "sLf") ?hsw ?_); (case hsw => rfl))
  | ((guard_target = GS _ _ (Stmt.If _ _ _ _) _ _ _); (with_reducible refine gs_if ?_))
  | ((guard_target = GS _ _ (Stmt.AugAssign (Expr.Name _ _) _ _ _) _ _ _); (with_reducible refine gs_aug (by assumption) (by tm_at "sAt") (by tm_at "sSlot") (by tm_at "sKd") (by tm_at "sLk") (by tm_at "sLf") ?_))
  | ((guard_target = GS _ _ (Stmt.AugAssign (Expr.Attribute _ _ _) _ _ _) _ _ _); (with_reducible refine gs_fldaug ?_))
  | ((guard_target = GS _ _ (Stmt.AugAssign (Expr.Subscript _ _ _) _ _ _) _ _ _); (with_reducible refine gs_augS ?ha ?_); (case ha => intros; rfl))
  | ((guard_target = GS _ _ (Stmt.Return (some _) _) _ _ _); (with_reducible refine gs_ret ?_))
  | ((guard_target = GS _ _ (Stmt.Expr (Expr.Constant _ _ _) _) _ _ _); (with_reducible refine gs_doc ?_))
  | ((guard_target = GS _ _ (Stmt.Expr _ _) _ _ _); (with_reducible refine gs_expr ?hsw ?_); (case hsw => rfl))
  | ((guard_target = GS _ _ (Stmt.Assign [Expr.Attribute _ _ _] _ _) _ _ _); (with_reducible refine gs_fld ?hsw ?_); (case hsw => rfl))
  | ((guard_target = GS _ _ (Stmt.Assign [Expr.Subscript _ _ _] _ _) _ _ _); (with_reducible refine gs_asg ?hsw ?hw ?h1 ?_); (case hsw => rfl); (case hw => rfl); (case h1 => rfl))
  | ((guard_target = GS _ _ (Stmt.Assign [Expr.Tuple _ _ _] _ _) _ _ _); (with_reducible refine gs_asg ?hsw ?hw ?h1 ?_); (case hsw => rfl); (case hw => rfl); (case h1 => rfl))
  | ((guard_target = GS _ _ (Stmt.Return none _) _ _ _); (with_reducible refine gs_retN ?_))
  | ((guard_target = GS _ _ (Stmt.Pass _) _ _ _); (with_reducible refine gs_pass ?_))
  | ((guard_target = GS _ _ (Stmt.Break _) _ _ _); (with_reducible refine gs_break ?_))
  | ((guard_target = GS _ _ (Stmt.Continue _) _ _ _); (with_reducible refine gs_continue ?_)))
local macro_rules | `(tactic| tm_at "gG") => `(tactic| first
  | ((guard_target = GG _ _ (Expr.Name _ _) _ _ _ _); (with_reducible refine gg_name (by assumption) (by tm_at "sSlot") (by tm_at "sKd") (by tm_at "sLk") (by tm_at "sLf") ?_))
  | ((guard_target = GG _ _ (Expr.Subscript _ _ _) _ _ _ _); (with_reducible refine gg_sub ?ha ?_); (case ha => intro _; rfl))
  | ((guard_target = GG _ _ (Expr.Tuple _ _ _) _ _ _ _); (with_reducible refine gg_tup ?hc (by tm_at "sSel") ?hn ?hst ?_); (case hc => rfl); (case hn => rfl); (case hst => rfl)))
local macro_rules | `(tactic| tm_at "g") => `(tactic| first
  | ((guard_target = GE _ _ _ _ _ _); tm_at "gE")
  | ((guard_target = GOp _ _ _ _ _ _ _); tm_at "gOp")
  | ((guard_target = GIx _ _ _ _ _ _); tm_at "gIx")
  | tm_at "gF"
  | ((guard_target = (wipe _ _ = wipe _ _ ∧ _)); refine And.intro rfl ?_)
  | ((guard_target = GGs _ _ [] _ _ _ _); (with_reducible refine ggs_nil ?_))
  | ((guard_target = GGs _ _ (_ :: _) _ _ _ _); (with_reducible refine ggs_cons ?hst ?_); (case hst => rfl))
  | ((guard_target = GTs _ _ [] _ _ _); (with_reducible refine gts_nil ?_))
  | ((guard_target = GTs _ _ [_] _ _ _); (with_reducible refine gts_one ?_))
  | ((guard_target = KB _ _ _); (with_reducible refine KB.mk ?_))
  | ((guard_target = GA _ _ _ _ _ _); tm_at "gA")
  | ((guard_target = GS _ _ _ _ _ _); tm_at "gS")
  | ((guard_target = GSs _ _ (_ :: _) _ _ _); (with_reducible refine gss_cons ?_))
  | ((guard_target = GSs _ _ ([]) _ _ _); (with_reducible refine gss_nil ?_))
  | ((guard_target = GT _ _ _ _ _ _); tm_at "gT")
  | ((guard_target = GB _ _ _ _ _ _); tm_at "gB")
  | ((guard_target = GC _ _ _ _ _ _); tm_at "gC")
  | ((guard_target = GG _ _ _ _ _ _ _); tm_at "gG")
  | ((guard_target = GPutL _ _ _ _ _); (with_reducible refine gput (by tm_at "sRpl") (by tm_at "sPut") ?_))
  | ((guard_target = if true = true then _ else _); (with_reducible refine iteT ?_))
  | ((guard_target = if (!true) = true then _ else _); (with_reducible refine iteNT ?_))
  | ((guard_target = if (!false) = true then _ else _); (with_reducible refine iteNF ?_))
  | ((guard_target = if false = true then _ else _); (with_reducible refine iteF ?_))
  | ((guard_target = Exists _); (with_reducible refine Exists.intro _ (And.intro rfl ?_)))
  | (first | with_reducible refine ite_nI ?_ | with_reducible refine ite_nN ?_ | with_reducible refine ite_nnI ?_ | with_reducible refine ite_nnN ?_ | with_reducible refine ite_nR ?_ | with_reducible refine ite_nnR ?_))
local macro_rules | `(tactic| tm_at "sSetN") => `(tactic| (first | exact SetN.here | (apply SetN.there; tm_at "sSetN")))
local macro_rules | `(tactic| tm_at "sWp") => `(tactic| (first | exact Wp.nil | (apply Wp.cons; (tm_at "sWp"); (tm_at "sSetN"))))
local macro_rules | `(tactic| tm_at "fits") => `(tactic| (first | apply Fits.mk | apply FitL.mk))
local macro_rules | `(tactic| tm_at "ent") => `(tactic| (apply Fit.ent; tm_at "fit"))
local macro_rules | `(tactic| tm_at "go") => `(tactic| repeat (tm_at "g"))
local macro_rules | `(tactic| tm_at "gs") => `(tactic| repeat ((fail_if_success (guard_target = GSs _ _ (_ :: _) _ _ _)); tm_at "g"))
local macro_rules | `(tactic| tm_at "if") => `(tactic| first
  | (with_reducible refine ite_ndec (fun _ => ?_) (fun _ => ?_))
  | (with_reducible refine ite_dec (fun _ => ?_) (fun _ => ?_))
  | (with_reducible refine ite_nb (fun _ => ?_) (fun _ => ?_))
  | (with_reducible refine ite_b (fun _ => ?_) (fun _ => ?_)))
theorem rest_back3 {K : PySem.W.Frag} {a : Nat → Addr} {L L1 R : List SA} {c : Nat → Cp} {k l : Nat} {d r d' r' : Addr} (s : Sel L (RestP K a c [k, l]) L1) (hk : k < 3) (hl : l < 3) (hn : l ≠ k) (f : Fit L1 (pt (a l) (cpo K d' r' (c l)) :: LstR rRec r' (c l).rs :: pt (a k) (cpo K d r (c k)) :: LstR rRec r (c k).rs :: R)) : Fit L (RestP K a c [] :: R) :=
  Fit.trans (rest_back2 s hk hl hn f) (rest_back .here hk Fit.refl)
local macro_rules | `(tactic| tm_at "fit") => `(tactic| (guard_target = Fit _ (CpsR _ _ _ _ :: _); (first | ((with_reducible apply Fit.find); (case s => tm_at "sSelC"); (case t => tm_at "fit")) | ((with_reducible apply cps_want); (case f => tm_at "fit"); (case e => first | rfl | (simp only [vLd]; done) | (simp [raise_ld, vLd, *]; done))))))
local macro_rules | `(tactic| tm_at "fit") => `(tactic| (guard_target = Fit _ (RestP _ _ _ [] :: _); (first | ((with_reducible apply Fit.find); (case s => tm_at "sSelC"); (case t => tm_at "fit")) | ((with_reducible apply rest_want); (case hk => assumption); (case f => tm_at "fit")) | ((with_reducible apply rest_back); (case s => tm_at "sSel"); (case hk => assumption); (case f => tm_at "fit")))))
local macro_rules | `(tactic| tm_at "gEMeth") => `(tactic| (guard_target = GE _ _ (Expr.Call (Expr.Attribute _ "last_mark" _) [] _ _) _ _ _; (refine ge_meth0 (MeAt.e (C := "Copy") (m := "last_mark") (by assumption)) (by tm_at "sRoom") (by tm_at "sXok") ?ht ?_); (case ht => exact ⟨_, rfl⟩)))
local macro_rules | `(tactic| tm_at "gEMeth") => `(tactic| (guard_target = GE _ _ (Expr.Call (Expr.Attribute _ "raise_high" _) [] _ _) _ _ _; (refine ge_meth0 (MeAt.e (C := "Copies") (m := "raise_high") (by assumption)) (by tm_at "sRoom") (by tm_at "sXok") ?ht ?_); (case ht => exact ⟨_, rfl⟩)))
local macro_rules | `(tactic| tm_at "gEMeth") => `(tactic| (guard_target = GE _ _ (Expr.Call (Expr.Attribute _ "sure" _) [] _ _) _ _ _; (refine ge_meth0 (MeAt.e (C := "Copies") (m := "sure") (by assumption)) (by tm_at "sRoom") (by tm_at "sXok") ?ht ?_); (case ht => exact ⟨_, rfl⟩)))
local macro_rules | `(tactic| tm_at "gEMeth") => `(tactic| (guard_target = GE _ _ (Expr.Call (Expr.Attribute _ "alike" _) [] _ _) _ _ _; (refine ge_meth0 (MeAt.e (C := "Copies") (m := "alike") (by assumption)) (by tm_at "sRoom") (by tm_at "sXok") ?ht ?_); (case ht => exact ⟨_, rfl⟩)))
local macro_rules | `(tactic| tm_at "gEMeth") => `(tactic| (guard_target = GE _ _ (Expr.Call (Expr.Attribute _ "turn_end" _) (_ :: _) _ _) _ _ _; (refine ge_meth (MeAt.e (C := "Copy") (m := "turn_end") (by assumption)) (by tm_at "sRoom") (by tm_at "sXok") ?hst ?hpl ?ht ?_); (case hst => rfl); (case hpl => rfl); (case ht => exact ⟨_, rfl⟩)))
local macro_rules | `(tactic| tm_at "gEMeth") => `(tactic| (guard_target = GE _ _ (Expr.Call (Expr.Attribute _ "agree" _) (_ :: _) _ _) _ _ _; (refine ge_meth (MeAt.e (C := "Copies") (m := "agree") (by assumption)) (by tm_at "sRoom") (by tm_at "sXok") ?hst ?hpl ?ht ?_); (case hst => rfl); (case hpl => rfl); (case ht => exact ⟨_, rfl⟩)))
local macro_rules | `(tactic| tm_at "gEMeth") => `(tactic| (guard_target = GE _ _ (Expr.Call (Expr.Attribute _ "give" _) (_ :: _) _ _) _ _ _; (refine ge_meth (MeAt.e (C := "Copies") (m := "give") (by assumption)) (by tm_at "sRoom") (by tm_at "sXok") ?hst ?hpl ?ht ?_); (case hst => rfl); (case hpl => rfl); (case ht => exact ⟨_, rfl⟩)))
local macro_rules | `(tactic| tm_at "gEMeth") => `(tactic| (guard_target = GE _ _ (Expr.Call (Expr.Attribute _ "ask" _) (_ :: _) _ _) _ _ _; (refine ge_meth (MeAt.e (C := "Copies") (m := "ask") (by assumption)) (by tm_at "sRoom") (by tm_at "sXok") ?hst ?hpl ?ht ?_); (case hst => rfl); (case hpl => rfl); (case ht => exact ⟨_, rfl⟩)))
local macro_rules | `(tactic| tm_at "gEMeth") => `(tactic| (guard_target = GE _ _ (Expr.Call (Expr.Attribute _ "down" _) (_ :: _) _ _) _ _ _; (refine ge_meth (MeAt.e (C := "Copies") (m := "down") (by assumption)) (by tm_at "sRoom") (by tm_at "sXok") ?hst ?hpl ?ht ?_); (case hst => rfl); (case hpl => rfl); (case ht => exact ⟨_, rfl⟩)))
local macro_rules | `(tactic| tm_at "gEMeth") => `(tactic| (guard_target = GE _ _ (Expr.Call (Expr.Attribute _ "up_again" _) (_ :: _) _ _) _ _ _; (refine ge_meth (MeAt.e (C := "Copies") (m := "up_again") (by assumption)) (by tm_at "sRoom") (by tm_at "sXok") ?hst ?hpl ?ht ?_); (case hst => rfl); (case hpl => rfl); (case ht => exact ⟨_, rfl⟩)))
local macro_rules | `(tactic| tm_at "gEMeth") => `(tactic| (guard_target = GE _ _ (Expr.Call (Expr.Attribute _ "lead" _) (_ :: _) _ _) _ _ _; (refine ge_meth (MeAt.e (C := "Copies") (m := "lead") (by assumption)) (by tm_at "sRoom") (by tm_at "sXok") ?hst ?hpl ?ht ?_); (case hst => rfl); (case hpl => rfl); (case ht => exact ⟨_, rfl⟩)))
local macro_rules | `(tactic| tm_at "gEMeth") => `(tactic| (guard_target = GE _ _ (Expr.Call (Expr.Attribute _ "give_as" _) (_ :: _) _ _) _ _ _; (refine ge_meth (MeAt.e (C := "Copies") (m := "give_as") (by assumption)) (by tm_at "sRoom") (by tm_at "sXok") ?hst ?hpl ?ht ?_); (case hst => rfl); (case hpl => rfl); (case ht => exact ⟨_, rfl⟩)))
local macro_rules | `(tactic| tm_at "gEMeth") => `(tactic| (guard_target = GE _ _ (Expr.Call (Expr.Attribute _ "lag" _) (_ :: _) _ _) _ _ _; (refine ge_meth (MeAt.e (C := "Copies") (m := "lag") (by assumption)) (by tm_at "sRoom") (by tm_at "sXok") ?hst ?hpl ?ht ?_); (case hst => rfl); (case hpl => rfl); (case ht => exact ⟨_, rfl⟩)))
local macro_rules | `(tactic| tm_at "sIx") => `(tactic| exact at3 (by assumption))
local macro_rules | `(tactic| tm_at "sPut") => `(tactic| (first | exact put3 (g := V.int) (by assumption) | exact put3 (g := V.bl) (by assumption)))
local macro_rules | `(tactic| tm_at "gF") => `(tactic| ((guard_target = (IsIns _ _ _ _ _ ∧ _)); (with_reducible refine And.intro ?hh ?_); (case hh => exact ins_cps (by tm_at "sSel") (fun _ _ _ _ _ _ _ _ => by tm_at "sNoF"))))
local macro_rules | `(tactic| tm_at "fit") => `(tactic| (guard_target = Fit _ (RestP _ _ _ [_] :: _); (first | ((with_reducible apply Fit.find); (case s => tm_at "sSelC"); (case t => tm_at "fit")) | ((with_reducible apply rest_back2); (case s => tm_at "sSel"); (case hk => assumption); (case hl => assumption); (case hn => assumption); (case f => tm_at "fit")))))
local macro_rules | `(tactic| tm_at "fit") => `(tactic| (guard_target = Fit _ (RestP _ _ _ [] :: _); (first | ((with_reducible apply Fit.find); (case s => tm_at "sSelC"); (case t => tm_at "fit")) | ((with_reducible apply rest_want); (case hk => assumption); (case f => tm_at "fit")) | ((with_reducible apply rest_back3); (case s => tm_at "sSel"); (case hk => assumption); (case hl => assumption); (case hn => assumption); (case f => tm_at "fit")) | ((with_reducible apply rest_back); (case s => tm_at "sSel"); (case hk => assumption); (case f => tm_at "fit")))))
section
variable {T : List (Addr × Str)} {P : Program} {w : World} {Kf : PySem.W.Frag} {mg : Str → Option Value} {base : Heap} {f : Addr} {fd : FuncData}
theorem call_ag {o : Addr} {a : Nat → Addr} {S : CS} {l k : Nat} {L R : List SA} {K : GK} {kx : KX} (e : Ent T L (CpsR Kf o a S :: R)) (hk : k < 3) (wf : Wf S) (hl : S.leader = some l) (hn : l ≠ k) (hp : ∀ r ∈ (S.c k).rs, 0 ≤ r.1) (k1 : K .non (CpsR Kf o a (agreeP S l k) :: R)) : spE T (spAg Kf) [.ref o, .int (k : Int)] L K kx :=
  CallS.mk ⟨o, a, S, l, k, R, rfl, rfl, hk, wf, hl, hn, hp, k1⟩ e
def spAsk (Kf : PySem.W.Frag) : SpL := fun vs L K kx => ∃ (o : Addr) (a : Nat → Addr) (S : CS) (k most : Nat) (R : List SA), vs = [.ref o, .int (k : Int), .int (most : Int)] ∧ L = CpsR Kf o a S :: R ∧ k < 3 ∧ most < 1000 ∧ Wf S ∧ S.wl.length < 100 ∧ (∀ r ∈ (S.c k).rs, 0 ≤ r.1) ∧
  (∀ l, S.leader = some l → l ≠ k → S.up k = true → K .non (CpsR Kf o a (askP S l k most) :: R)) ∧ (S.leader = none ∨ S.leader = some k ∨ S.up k = false → kx (ND Kf) none (CpsR Kf o a S :: R))
theorem gs_join {X : Cx} {σ : St} {L : List SA} {D : EndsL} {st : Stmt} (n1 : St → List SA → Prop) (h : GS T X st { D with nx := n1 } σ L) (k : ∀ σ' L', n1 σ' L' → D.nx σ' L') : GS T X st D σ L :=
  fun H hs D0 l => h H hs D0 ⟨fun σ' L' H' q h' => l.nx σ' L' H' (k σ' L' q) h', l.rt, l.bk, l.ct⟩
theorem askA_ld {S : CS} {l k : Nat} : (askA S l k).leader = S.leader := by unfold askA agreeP; split <;> rfl
theorem cut_mid {rs : List Rec} {m n : Nat} : SW.cutD rs (some (m : Int)) (some ((m : Int) + (n : Int))) = (rs.drop m).take n := by
  unfold SW.cutD
  rw [show ((m : Int) + (n : Int)) = ((m + n : Nat) : Int) by push_cast; rfl, HT.sIx_nat, HT.sIx_nat]
  by_cases h : m ≤ rs.length
  · rw [show min m rs.length = m by omega, List.take_eq_take_iff, List.length_drop]; omega
  · rw [List.drop_of_length_le (by omega : rs.length ≤ min m rs.length), List.drop_of_length_le (by omega : rs.length ≤ m)]; simp
theorem askA_wl {S : CS} {l k : Nat} : (askA S l k).wl = S.wl := by unfold askA agreeP; split <;> rfl
theorem askB_ld {S : CS} {l k : Nat} : (askB S l k).leader = S.leader := by unfold askB; simp only; split <;> rfl
theorem Wf.askB {S : CS} {l k : Nat} (w : Wf S) (hk : k < 3) (hz : S.wl.length < 100) : Wf (askB S l k) := by
  unfold K04.askB
  simp only
  split
  · rename_i hc
    refine ⟨fun x hx => ?_, fun l' h' => ?_, w.len, by simp; omega, ?_⟩
    · rcases List.mem_append.mp hx with h | h
      · exact w.wl x h
      · exact ⟨k, hk, by simpa using h⟩
    · obtain ⟨a, b⟩ := w.ld l' h'
      exact ⟨a, List.mem_append_left _ b⟩
    · refine List.nodup_append.mpr ⟨w.nd, by simp, fun a ha b hb => ?_⟩
      simp at hb; subst hb
      rintro rfl; exact hc.2 ha
  · exact ⟨w.wl, w.ld, w.len, w.wlz, w.nd⟩
theorem agreeF_len {G : List Rec} : ∀ (n : Nat) (rs : List Rec), (agreeF G n rs).length ≤ rs.length
  | 0, rs => Nat.le_refl _
  | n + 1, rs => by
    unfold agreeF
    split
    · rw [List.length_take]; omega
    · exact Nat.le_trans (agreeF_len n _) (List.length_filter_le _ _)
theorem Wf.askA {S : CS} {l k : Nat} (w : Wf S) : Wf (askA S l k) := by
  unfold K04.askA
  split
  · refine ⟨w.wl, w.ld, fun i hi => ?_, w.wlz, w.nd⟩
    show (fset S.c k _ i).rs.length ≤ 1000
    by_cases h : i = k
    · subst h
      rw [fset_same]
      exact Nat.le_trans (agreeF_len _ _) (w.len i hi)
    · rw [fset_ne h]; exact w.len i hi
  · exact w
theorem ok_ask (fx : Fx Kf mg) (hlm : MeAt T P w Kf mg base 1 "Copy" "last_mark" (spLM Kf)) (hrh : MeAt T P w Kf mg base 2 "Copies" "raise_high" (spRH Kf)) (hag : MeAt T P w Kf mg base 2 "Copies" "agree" (spAg Kf)) (F : FunD Kf "ask" "Copies.ask" (defArgs s_Copies_ask) (defBody s_Copies_ask) (defScope s_Copies_ask) [] [] f fd) : FnOk P w Kf mg base (L2.CX P w) 3 f fd ["self", "k", "most"] (spOf T (spAsk Kf)) := by
  refine def_in F sc_Copies_ask (fun vs L K kx h => ?_) (fun A outer s H E hr n vs L KK kx h hx σ hσ => ?_)
  · obtain ⟨o, a, S, k, most, R, rfl, _⟩ := h; rfl
  · obtain ⟨o, a, S, k, most, R, rfl, rfl, hk, hmost, wf, hwz, hpos, k1, k2⟩ := h
    obtain rfl : σ = [some (.ref o), some (.int (k : Int)), some (.int (most : Int)), none, none] := hσ
    cases fx
    cases hld : S.leader with
    | none =>
      refine cps_in (v := .non) (by tm_at "sSel") (by rw [hld]; rfl) fun dc lc lu lw lk lj => ?_
      refine gss_cons ?_
      tm_at "go"
      refine gs_raise n (by tm_at "sKd") rfl (by assumption) hx rfl ?_
      apply Clo.mk (k2 (.inl hld))
      tm_at "ent"
    | some l =>
      obtain ⟨hl, hlw⟩ := wf.ld l hld
      refine cps_in (v := .int (l : Int)) (by tm_at "sSel") (by rw [hld]; rfl) fun dc lc lu lw lk lj => ?_
      refine gss_cons ?_
      tm_at "go"
      tm_at "if"
      · rename_i hc
        have hc : k = l := by exact_mod_cast hc
        subst hc
        tm_at "go"
        refine gs_raise n (by tm_at "sKd") rfl (by assumption) hx rfl ?_
        apply Clo.mk (k2 (.inr (.inl hld)))
        tm_at "ent"
      · rename_i hc
        have hn : l ≠ k := fun z => hc (by rw [z])
        tm_at "go"
        tm_at "if"
        · rename_i hu
          tm_at "go"
          refine gs_raise n (by tm_at "sKd") rfl (by assumption) hx rfl ?_
          apply Clo.mk (k2 (.inr (.inr hu)))
          tm_at "ent"
        · rename_i hu
          refine gss_nil ?_
          refine foc_in hk (by tm_at "sSel") fun dk rk => ?_
          refine gss_cons ?_
          refine gs_par2 n (by tm_at "sSlot") (fun _ => by tm_at "sSlot") (by tm_at "sKd") (by tm_at "sKd") (by with_unfolding_all rfl) rfl rfl rfl ?_
          tm_at "go"
          refine ⟨_, _, rfl, ?_⟩
          refine gss_cons ?_
          refine gs_join (fun σ' L' => σ' = [some (.ref o), some (.int (k : Int)), some (.int (most : Int)), some (.ref (a k)), some (.ref (a l))] ∧ Ent T L' (CpsR Kf o a (askA S l k) :: R)) ?_ ?_
          · tm_at "go"
            tm_at "if"
            · rename_i ht
              tm_at "go"
              refine call_ag (S := S) (l := l) (by tm_at "ent") hk wf hld hn hpos ?_
              tm_at "go"
              refine ⟨rfl, ?_⟩
              rw [show askA S l k = agreeP S l k from by unfold askA; rw [if_pos (.inl ht)]]
              tm_at "ent"
            · rename_i ht
              tm_at "go"
              tm_at "if"
              · rename_i hj
                tm_at "go"
                refine call_ag (S := S) (l := l) (by tm_at "ent") hk wf hld hn hpos ?_
                tm_at "go"
                refine ⟨rfl, ?_⟩
                rw [show askA S l k = agreeP S l k from by unfold askA; rw [if_pos (.inr hj)]]
                tm_at "ent"
              · rename_i hj
                tm_at "go"
                refine ⟨rfl, ?_⟩
                rw [show askA S l k = S from by unfold askA; rw [if_neg (by rintro (z | z); exact z ht; rw [hj] at z; cases z)]]
                tm_at "ent"
          · rintro σ' L' ⟨rfl, t1⟩
            refine GSs.ent t1 ?_
            have hld1 : (askA S l k).leader = some l := by rw [askA_ld]; exact hld
            have wf1 : Wf (askA S l k) := wf.askA
            have hwz1 : (askA S l k).wl.length < 100 := by rw [askA_wl]; exact hwz
            have k1 : KK .non (CpsR Kf o a (askD (raise (askB (askA S l k) l k) l) l k most) :: R) := k1 l hld hn (by simpa using hu)
            clear k2 hpos hwz wf t1 hu
            generalize askA S l k = S1 at *
            refine cps_in (v := .int (l : Int)) (by tm_at "sSel") (by rw [hld1]; rfl) fun dc lc lu lw lk lj => ?_
            refine foc_in hk (by tm_at "sSel") fun dk rk => ?_
            refine foc_in2 hk hl hn (by tm_at "sSel") fun dl rl => ?_
            tm_at "go"
            refine call_lm (c := S1.c k) (by tm_at "ent") ?_
            tm_at "gs"
            refine gss_cons ?_
            refine gs_join (fun σ' L' => σ' = [some (.ref o), some (.int (k : Int)), some (.int (most : Int)), some (.ref (a k)), some (.ref (a l))] ∧ Ent T L' (CpsR Kf o a (askB S1 l k) :: R)) ?_ ?_
            · tm_at "go"
              simp only [fset_same]
              tm_at "if"
              · rename_i hc
                tm_at "go"
                tm_at "if"
                · rename_i hm
                  tm_at "go"
                  refine gapp_pt (by tm_at "sRpl") ?_ ?_
                  · rw [List.length_map, sizeLine_eq]; omega
                  tm_at "go"
                  refine ⟨rfl, ?_⟩
                  rw [show askB S1 l k = { S1 with known := fset S1.known k ((S1.c k).rs.length : Int), wl := S1.wl ++ [(k : Int)] } from by unfold askB; rw [if_pos ⟨hc, hm⟩]]
                  tm_at "ent"
                · rename_i hm
                  tm_at "go"
                  refine ⟨rfl, ?_⟩
                  rw [show askB S1 l k = { S1 with known := fset S1.known k ((S1.c k).rs.length : Int) } from by unfold askB; rw [if_neg (fun z => z.2 hm)]]
                  tm_at "ent"
              · rename_i hc
                tm_at "go"
                refine ⟨rfl, ?_⟩
                rw [show askB S1 l k = { S1 with known := fset S1.known k ((S1.c k).rs.length : Int) } from by unfold askB; rw [if_neg (fun z => hc z.1)]]
                tm_at "ent"
            · rintro σ' L' ⟨rfl, t1⟩
              refine GSs.ent t1 ?_
              have hld2 : (askB S1 l k).leader = some l := by rw [askB_ld]; exact hld1
              have wf2 : Wf (askB S1 l k) := wf1.askB hk hwz1
              refine cps_in (v := .int (l : Int)) (by tm_at "sSel") (by rw [hld2]; rfl) fun dc lc lu lw lk lj => ?_
              tm_at "go"
              refine call_rh (S := askB S1 l k) (l := l) (by tm_at "ent") hld2 wf2 ?_
              have hld3 : (raise (askB S1 l k) l).leader = some l := hld2
              have wf3 : Wf (raise (askB S1 l k) l) := wf2.raise
              clear wf2 hld2 wf1 hld1 hwz1
              generalize raise (askB S1 l k) l = S3 at *
              refine cps_in (v := .int (l : Int)) (by tm_at "sSel") (by rw [hld3]; rfl) fun dc lc lu lw lk lj => ?_
              refine foc_in hk (by tm_at "sSel") fun dk rk => ?_
              refine foc_in2 hk hl hn (by tm_at "sSel") fun dl rl => ?_
              tm_at "go"
              refine call_lm (c := S3.c k) (by tm_at "ent") ?_
              tm_at "go"
              refine call_lm (c := S3.c k) (by tm_at "ent") ?_
              tm_at "go"
              refine gsl_R (by tm_at "sSel") fun q => ?_
              tm_at "go"
              rw [cut_mid]
              have hlen3 := wf3.len k hk
              refine gext_R (by tm_at "sSel") (by tm_at "sRpl") ?_ ?_
              · rw [List.length_take, sizeLine_eq]; omega
              tm_at "go"
              refine call_lm (c := { S3.c k with rs := (S3.c k).rs ++ ((S3.c l).rs.drop (S3.c k).rs.length).take most }) (by tm_at "ent") ?_
              tm_at "go"
              apply Clo.mk k1
              show Ent T _ (CpsR Kf o a { S3 with c := fset S3.c k { S3.c k with rs := (S3.c k).rs ++ ((S3.c l).rs.drop (S3.c k).rs.length).take most, high := mx (S3.c k).high (mn (S3.c l).high ((S3.c k).rs ++ ((S3.c l).rs.drop (S3.c k).rs.length).take most).length) } } :: R)
              tm_at "ent"
end
end K04
set_option Elab.async false
set_option linter.all false
set_option maxRecDepth 100000
namespace K04
open PySem PySem.Spec L2 SW
open PyProof.Rows hiding St
/-! ### the law, plainly -/
def Srt (rs : List Rec) : Prop := rs.Pairwise (fun a b => a.1 ≤ b.1)
theorem fold_best (t : Int) : ∀ (G : List Rec) (b : Int), (∀ r ∈ G, r.1 ≤ t → r.1 ≤ G.foldl (fun b r => if r.1 ≤ t then (if r.1 > b then r.1 else b) else b) b) ∧ b ≤ G.foldl (fun b r => if r.1 ≤ t then (if r.1 > b then r.1 else b) else b) b ∧
    (G.foldl (fun b r => if r.1 ≤ t then (if r.1 > b then r.1 else b) else b) b = b ∨ ∃ r ∈ G, r.1 = G.foldl (fun b r => if r.1 ≤ t then (if r.1 > b then r.1 else b) else b) b)
  | [], b => ⟨fun _ h => (nomatch h), Int.le_refl _, Or.inl rfl⟩
  | r :: G, b => by
    rw [List.foldl_cons]
    obtain ⟨h1, h2, h3⟩ := fold_best t G (if r.1 ≤ t then (if r.1 > b then r.1 else b) else b)
    refine And.intro (fun s hs hst => ?_) (And.intro ?_ ?_)
    · rcases List.mem_cons.mp hs with rfl | hs
      · refine Int.le_trans ?_ h2
        rw [if_pos hst]; split <;> omega
      · exact h1 s hs hst
    · refine Int.le_trans ?_ h2
      split
      · split <;> omega
      · omega
    · rcases h3 with h3 | ⟨s, hs, e⟩
      · rw [h3]
        split
        · split
          · exact .inr ⟨r, List.mem_cons_self, rfl⟩
          · exact .inl rfl
        · exact .inl rfl
      · exact .inr ⟨s, List.mem_cons_of_mem _ hs, e⟩
theorem best_ge {t : Int} {G : List Rec} {r : Rec} (h : r ∈ G) (ht : r.1 ≤ t) : r.1 ≤ bestOf t G := (fold_best t G 0).1 r h ht
theorem best_mem {t : Int} {G : List Rec} : bestOf t G = 0 ∨ ∃ r ∈ G, r.1 = bestOf t G := (fold_best t G 0).2.2
theorem best_le' {t : Int} {G : List Rec} (h0 : 0 ≤ t) : bestOf t G ≤ t := by
  have go : ∀ (G : List Rec) (b : Int), b ≤ t → (G.foldl (fun b r => if r.1 ≤ t then (if r.1 > b then r.1 else b) else b) b) ≤ t := by
    intro G
    induction G with
    | nil => intro b h; exact h
    | cons r G ih =>
      intro b h
      rw [List.foldl_cons]
      apply ih
      split
      · split <;> omega
      · exact h
  exact go G 0 h0
theorem Srt.last {rs : List Rec} (s : Srt rs) : ∀ r ∈ rs, r.1 ≤ lastT rs := by
  intro r hr
  unfold lastT
  cases h : rs.getLast? with
  | none => rw [List.getLast?_eq_none_iff] at h; subst h; cases hr
  | some d =>
    obtain ⟨ys, e⟩ := List.getLast?_eq_some_iff.mp h
    subst e
    rcases List.mem_append.mp hr with hr | hr
    · exact (List.pairwise_append.mp s).2.2 r hr d (by simp)
    · simp at hr; subst hr; exact Int.le_refl _
theorem last_mem {rs : List Rec} (h : rs ≠ []) : ∃ d ∈ rs, d.1 = lastT rs := by
  cases e : rs.getLast? with
  | none => exact absurd (List.getLast?_eq_none_iff.mp e) h
  | some d => exact ⟨d, List.mem_of_getLast? e, by unfold lastT; rw [e]⟩
theorem filt_take {b : Int} : ∀ {rs : List Rec}, Srt rs → rs.filter (fun r => decide (r.1 ≤ b)) = rs.take (cntLe b rs)
  | [], _ => rfl
  | r :: rs, s => by
    obtain ⟨h1, h2⟩ := List.pairwise_cons.mp s
    have ih := filt_take (b := b) h2
    unfold cntLe at ih ⊢
    by_cases h : r.1 ≤ b
    · rw [List.filter_cons_of_pos (by simpa using h), List.length_cons, List.take_succ_cons, ← ih]
    · have : rs.filter (fun r => decide (r.1 ≤ b)) = [] := by
        rw [List.filter_eq_nil_iff]
        intro x hx
        have := h1 x hx
        simp; omega
      rw [List.filter_cons_of_neg (by simpa using h), this]; rfl
theorem Srt.pre {rs q : List Rec} (s : Srt rs) (h : q <+: rs) : Srt q := s.sublist h.sublist
theorem take_pre {α : Type} (n : Nat) (l : List α) : l.take n <+: l := List.take_prefix n l
theorem filt_pre {b : Int} {rs : List Rec} (s : Srt rs) : rs.filter (fun r => decide (r.1 ≤ b)) <+: rs := by rw [filt_take s]; exact take_pre _ _
theorem agree_pre {G : List Rec} : ∀ (n : Nat) {rs : List Rec}, Srt rs → agreeF G n rs <+: rs
  | 0, rs, _ => List.prefix_refl _
  | n + 1, rs, s => by
    unfold agreeF
    split
    · exact take_pre _ _
    · exact (agree_pre n (s.pre (filt_pre s))).trans (filt_pre s)
theorem pre_take {α : Type} {p l : List α} {n : Nat} (h : p <+: l) (hn : p.length ≤ n) : p <+: l.take n := by
  obtain ⟨s, rfl⟩ := h
  rw [List.take_append]
  rw [List.take_of_length_le hn]
  exact List.prefix_append _ _
theorem agree_keeps {G p : List Rec} (sG : Srt G) (hG : p <+: G) : ∀ (n : Nat) {rs : List Rec}, Srt rs → p <+: rs → p <+: agreeF G n rs
  | 0, rs, _, h => h
  | n + 1, rs, s, h => by
    have all : ∀ r ∈ p, r.1 ≤ bestOf (lastT rs) G := fun r hr => best_ge (hG.subset hr) (s.last r (h.subset hr))
    have fp : p.filter (fun r => decide (r.1 ≤ bestOf (lastT rs) G)) = p := List.filter_eq_self.mpr fun r hr => by simpa using all r hr
    unfold agreeF
    split
    · refine pre_take h ?_
      refine Nat.le_min.mpr ⟨?_, h.length_le⟩
      obtain ⟨t, rfl⟩ := hG
      unfold cntLe
      rw [List.filter_append, fp, List.length_append]; omega
    · refine agree_keeps sG hG n (s.pre (filt_pre s)) ?_
      obtain ⟨t, rfl⟩ := h
      rw [List.filter_append, fp]
      exact List.prefix_append _ _
/-- each record tells all that stand ahead of it -/
def Mt (Gh : Int → List Rec) (rs : List Rec) : Prop := ∀ p r, rs[p]? = some r → rs.take (p + 1) = (Gh r.1).take (p + 1)
theorem some_lt {α : Type} {l : List α} {p : Nat} {r : α} (h : l[p]? = some r) : p < l.length := by
  by_cases c : p < l.length
  · exact c
  · rw [List.getElem?_eq_none (by omega)] at h; cases h
theorem Mt.pre {Gh : Int → List Rec} {rs q : List Rec} (m : Mt Gh rs) (h : q <+: rs) : Mt Gh q := by
  intro p r e
  obtain ⟨t, rfl⟩ := h
  have hp := some_lt e
  have e2 : (q ++ t)[p]? = some r := by rw [List.getElem?_append_left hp]; exact e
  have := m p r e2
  rw [List.take_append_of_le_length (by omega)] at this
  exact this
theorem Mt.ext {Gh Gh' : Int → List Rec} {rs : List Rec} (m : Mt Gh rs) (h : ∀ r ∈ rs, Gh r.1 <+: Gh' r.1) : Mt Gh' rs := by
  intro p r e
  have e2 := m p r e
  have hp := some_lt e
  obtain ⟨t, et⟩ := h r (List.mem_of_getElem? e)
  have hl : p + 1 ≤ (Gh r.1).length := by
    have := congrArg List.length e2
    rw [List.length_take, List.length_take] at this
    omega
  rw [← et, List.take_append_of_le_length hl]
  exact e2
theorem Mt.alike {Gh : Int → List Rec} {rs qs : List Rec} (m1 : Mt Gh rs) (m2 : Mt Gh qs) {p : Nat} {r q : Rec} (h1 : rs[p]? = some r) (h2 : qs[p]? = some q) (e : r.1 = q.1) : rs.take (p + 1) = qs.take (p + 1) := by
  rw [m1 p r h1, m2 p q h2, e]
theorem agree_fits {Gh : Int → List Rec} {G : List Rec} (mG : Mt Gh G) (sG : Srt G) : ∀ (n : Nat) {rs : List Rec}, rs.length < n → Srt rs → Mt Gh rs → (∀ r ∈ rs, 1 ≤ r.1) → agreeF G n rs <+: G
  | 0, rs, h, _, _, _ => by omega
  | n + 1, rs, hn, s, m, h1 => by
    unfold agreeF
    by_cases hne : rs = []
    · subst hne
      rw [if_pos (.inr rfl)]
      simp
    · obtain ⟨d, hd, ed⟩ := last_mem hne
      have ht : 1 ≤ lastT rs := by rw [← ed]; exact h1 d hd
      by_cases hb : bestOf (lastT rs) G = lastT rs
      · rw [if_pos (.inl hb), hb]
        obtain ⟨g, hg, eg⟩ : ∃ r ∈ G, r.1 = lastT rs := by
          rcases best_mem (t := lastT rs) (G := G) with z | z
          · rw [hb] at z; omega
          · rw [hb] at z; exact z
        generalize ht2 : lastT rs = t at *
        have ft := filt_take (b := t) sG
        generalize he : cntLe t G = e at *
        have hmem : g ∈ G.take e := by rw [← ft]; exact List.mem_filter.mpr ⟨hg, by simp [eg]⟩
        have hel : e ≤ G.length := by rw [← he]; exact List.length_filter_le _ _
        have e1 : 1 ≤ e := by
          cases e with
          | zero => simp at hmem
          | succ e => omega
        have hlt : e - 1 < G.length := by omega
        have hx : G[e - 1]? = some G[e - 1] := by simp [hlt]
        have hxt : (G[e - 1]).1 = t := by
          have hxm : G[e - 1] ∈ G.take e := by
            rw [List.mem_take_iff_getElem]
            exact ⟨e - 1, by omega, rfl⟩
          have le1 : (G[e - 1]).1 ≤ t := by
            rw [← ft] at hxm
            simpa using (List.mem_filter.mp hxm).2
          have ge1 : t ≤ (G[e - 1]).1 := by
            rw [← eg]
            obtain ⟨j, hj, ej⟩ := List.mem_take_iff_getElem.mp hmem
            rw [← ej]
            by_cases q : j = e - 1
            · subst q; exact Int.le_refl _
            · exact (List.pairwise_iff_getElem.mp sG) j (e - 1) (by omega) hlt (by omega)
          omega
        have k1 := mG (e - 1) _ hx
        rw [hxt, show e - 1 + 1 = e by omega] at k1
        have hlr : 0 < rs.length := List.length_pos_iff.mpr hne
        have hy : rs[rs.length - 1]? = some rs[rs.length - 1] := by simp
        have hyt : (rs[rs.length - 1]).1 = t := by
          rw [← ht2]; unfold lastT
          rw [List.getLast?_eq_getElem?, hy]
        have k2 := m (rs.length - 1) _ hy
        rw [hyt, show rs.length - 1 + 1 = rs.length by omega, List.take_length] at k2
        have k3 : rs.take (min e rs.length) = G.take (min e rs.length) := by
          calc rs.take (min e rs.length) = ((Gh t).take rs.length).take (min e rs.length) := by rw [← k2]
            _ = (Gh t).take (min e rs.length) := by rw [List.take_take]; congr 1; omega
            _ = ((Gh t).take e).take (min e rs.length) := by rw [List.take_take]; congr 1; omega
            _ = (G.take e).take (min e rs.length) := by rw [k1]
            _ = G.take (min e rs.length) := by rw [List.take_take]; congr 1; omega
        rw [k3]
        exact take_pre _ _
      · rw [if_neg (by rintro (z | z); exact hb z; exact hne z)]
        have hp := filt_pre (b := bestOf (lastT rs) G) s
        refine agree_fits mG sG n ?_ (s.pre hp) (m.pre hp) (fun r hr => h1 r (hp.subset hr))
        have : (rs.filter fun r => decide (r.1 ≤ bestOf (lastT rs) G)).length < rs.length := by
          refine Nat.lt_of_le_of_ne (List.length_filter_le _ _) fun z => ?_
          have q := (List.length_filter_eq_length_iff.mp z) d hd
          have q2 := best_le' (t := lastT rs) (G := G) (by omega)
          simp at q
          omega
        omega
structure Inv (S : CS) (n : Nat) (G : Int → List Rec) (C : List Rec) (gv : List Str) : Prop where
  wl : ∀ x ∈ S.wl, ∃ j : Nat, j < 3 ∧ x = (j : Int)
  nd : S.wl.Nodup
  wlz : S.wl.length ≤ 3 + n
  ldw : ∀ l, S.leader = some l → l < 3 ∧ (l : Int) ∈ S.wl
  len : ∀ i, i < 3 → (S.c i).rs.length ≤ 2 * n
  mt : ∀ i, i < 3 → Mt G (S.c i).rs
  srt : ∀ i, i < 3 → Srt (S.c i).rs
  tn : ∀ i, i < 3 → ∀ r ∈ (S.c i).rs, 1 ≤ r.1 ∧ r.1 ≤ S.turn
  t1 : 1 ≤ S.turn
  ldG : ∀ l, S.leader = some l → (S.c l).rs = G S.turn
  jn : ∀ l, S.leader = some l → ∀ i, i < 3 → S.joined i = true → (S.c i).turn = S.turn ∧ (S.c i).rs <+: (S.c l).rs
  w : ∀ l, S.leader = some l → ∀ j : Nat, j < 3 → (j : Int) ∈ S.wl → S.joined j = true ∧ (S.c l).high ≤ S.known j ∧ S.known j ≤ (S.c j).rs.length
  cl : ∀ l, S.leader = some l → C = (S.c l).rs.take (S.c l).high.toNat
  cn : S.leader = none → ∀ j : Nat, j < 3 → (j : Int) ∈ S.wl → C <+: (S.c j).rs
  hi : ∀ i, i < 3 → 0 ≤ (S.c i).high ∧ (S.c i).high ≤ (S.c i).rs.length ∧ (S.c i).rs.take (S.c i).high.toNat <+: C
  gv : ∀ i, i < 3 → ∀ r ∈ (S.c i).rs, r.2 ∈ gv
theorem minL_spec {ns : List Int} (h : ns ≠ []) : minL ns ∈ ns ∧ ∀ y ∈ ns, minL ns ≤ y := by
  unfold minL
  cases e : ns.min? with
  | none => exact absurd (List.min?_eq_none_iff.mp e) h
  | some m => exact List.min?_eq_some_iff.mp e
theorem take_mono {α : Type} {l : List α} {m n : Nat} (h : m ≤ n) : l.take m <+: l.take n := by
  have : l.take m = (l.take n).take m := by rw [List.take_take]; congr 1; omega
  rw [this]; exact take_pre _ _
theorem raise_c {S : CS} {l i : Nat} (h : i ≠ l) : (raise S l).c i = S.c i := by unfold raise; exact fset_ne h
theorem raise_cl {S : CS} {l : Nat} : (raise S l).c l = raiseC S l := by unfold raise; exact fset_same
theorem raiseC_high {S : CS} {l : Nat} (h : S.wl ≠ []) : (raiseC S l).rs = (S.c l).rs ∧ (raiseC S l).turn = (S.c l).turn ∧ (S.c l).high ≤ (raiseC S l).high ∧ ((S.c l).high ≤ (S.c l).rs.length → (raiseC S l).high ≤ (S.c l).rs.length) ∧
    ∀ b, (S.c l).high ≤ b → (∃ x ∈ S.wl, kn S x ≤ b) → (raiseC S l).high ≤ b := by
  have e : (raiseC S l).high = mx (S.c l).high (mn (minL (S.wl.map (kn S))) (S.c l).rs.length) := rfl
  rw [e, mx_max, mn_min]
  refine ⟨rfl, rfl, by omega, fun h => by omega, fun b hb ⟨x, hx, hxb⟩ => ?_⟩
  have := (minL_spec (ns := S.wl.map (kn S)) (by simpa using h)).2 _ (List.mem_map.mpr ⟨x, hx, rfl⟩)
  omega
theorem inv_raise {S : CS} {n : Nat} {G : Int → List Rec} {C : List Rec} {gv : List Str} {l : Nat} (I : Inv S n G C gv) (hl : S.leader = some l) :
    ∃ C', Inv (raise S l) n G C' gv ∧ C <+: C' ∧ C' = ((raise S l).c l).rs.take ((raise S l).c l).high.toNat := by
  obtain ⟨hl3, hlw⟩ := I.ldw l hl
  have hne : S.wl ≠ [] := fun z => by rw [z] at hlw; cases hlw
  obtain ⟨r1, r2, r3, r4, r5⟩ := raiseC_high (l := l) hne
  have rs : ∀ i, ((raise S l).c i).rs = (S.c i).rs := fun i => by
    by_cases h : i = l
    · subst h; rw [raise_cl]; exact r1
    · rw [raise_c h]
  have tu : ∀ i, ((raise S l).c i).turn = (S.c i).turn := fun i => by
    by_cases h : i = l
    · subst h; rw [raise_cl]; exact r2
    · rw [raise_c h]
  obtain ⟨h0, h1, h2⟩ := I.hi l hl3
  have hC := I.cl l hl
  have hpre : C <+: ((raise S l).c l).rs.take ((raise S l).c l).high.toNat := by
    rw [rs, raise_cl, hC]; exact take_mono (by omega)
  refine ⟨_, ⟨I.wl, I.nd, I.wlz, I.ldw, fun i hi => by rw [rs]; exact I.len i hi, fun i hi => by rw [rs]; exact I.mt i hi, fun i hi => by rw [rs]; exact I.srt i hi, fun i hi => by rw [rs]; exact I.tn i hi, I.t1,
    fun l' h' => by rw [rs]; exact I.ldG l' h', fun l' h' i hi hj => by rw [rs, rs, tu]; exact I.jn l' h' i hi hj, fun l' h' j hj hjw => ?_, fun l' h' => ?_, fun h' => ?_, fun i hi => ?_, fun i hi => by rw [rs]; exact I.gv i hi⟩, hpre, rfl⟩
  · have : l' = l := by
      have : S.leader = some l' := h'
      rw [hl] at this; exact (Option.some.inj this).symm
    subst this
    obtain ⟨a, b, c⟩ := I.w l' hl j hj hjw
    refine ⟨a, ?_, by rw [rs]; exact c⟩
    rw [raise_cl]
    show _ ≤ S.known j
    exact r5 _ b ⟨(j : Int), hjw, by unfold kn; simp⟩
  · have : l' = l := by
      have : S.leader = some l' := h'
      rw [hl] at this; exact (Option.some.inj this).symm
    subst this; rfl
  · have : S.leader = none := h'
    rw [hl] at this; cases this
  · by_cases h : i = l
    · subst h
      refine ⟨by rw [raise_cl]; omega, by rw [rs, raise_cl]; exact r4 h1, List.prefix_refl _⟩
    · rw [rs, raise_c h]
      obtain ⟨a, b, c⟩ := I.hi i hi
      exact ⟨a, b, c.trans hpre⟩
theorem Mt.snoc {G : Int → List Rec} {rs : List Rec} {x : Rec} (m : Mt G rs) (h : G x.1 = rs ++ [x]) : Mt G (rs ++ [x]) := by
  intro p r e
  by_cases hp : p < rs.length
  · rw [List.getElem?_append_left hp] at e
    rw [List.take_append_of_le_length (by omega)]
    exact m p r e
  · have hq := some_lt e
    rw [List.length_append, List.length_singleton] at hq
    have : p = rs.length := by omega
    subst this
    rw [List.getElem?_append_right (Nat.le_refl _), Nat.sub_self] at e
    cases e
    rw [h]
theorem inv_give {S : CS} {n : Nat} {G : Int → List Rec} {C : List Rec} {gv : List Str} {l : Nat} {what : Str} (I : Inv S n G C gv) (hl : S.leader = some l) : ∃ G' C', Inv (giveP S l what) (n + 1) G' C' (gv ++ [what]) ∧ C <+: C' := by
  obtain ⟨hl3, hlw⟩ := I.ldw l hl
  obtain ⟨h0, h1, h2⟩ := I.hi l hl3
  let c1 : Cp := { S.c l with rs := (S.c l).rs ++ [(S.turn, what)] }
  let S1 : CS := { S with c := fset S.c l c1, known := fset S.known l c1.rs.length }
  let G' : Int → List Rec := fun t => if t = S.turn then c1.rs else G t
  have ll : ∀ l', S.leader = some l' → l' = l := fun l' h => by rw [hl] at h; exact (Option.some.inj h).symm
  have cl : S1.c l = c1 := fset_same
  have co : ∀ i, i ≠ l → S1.c i = S.c i := fun i h => fset_ne h
  have gp : ∀ t, G t <+: G' t := fun t => by
    by_cases h : t = S.turn
    · subst h
      show G S.turn <+: if S.turn = S.turn then c1.rs else _
      rw [if_pos rfl, ← I.ldG l hl]; exact List.prefix_append _ _
    · show G t <+: if t = S.turn then c1.rs else _
      rw [if_neg h]; exact List.prefix_refl _
  have I1 : Inv S1 (n + 1) G' C (gv ++ [what]) := by
    refine ⟨I.wl, I.nd, Nat.le_trans I.wlz (by omega), I.ldw, fun i hi => ?_, fun i hi => ?_, fun i hi => ?_, fun i hi r hr => ?_, I.t1, fun l' h' => ?_, fun l' h' i hi hj => ?_, fun l' h' j hj hjw => ?_, fun l' h' => ?_, fun h' => ?_, fun i hi => ?_, fun i hi r hr => ?_⟩
    · by_cases h : i = l
      · subst h; rw [cl]; have := I.len i hi; simp [c1]; omega
      · rw [co i h]; have := I.len i hi; omega
    · by_cases h : i = l
      · subst h; rw [cl]
        refine ((I.mt i hi).ext fun r _ => gp r.1).snoc ?_
        show (if S.turn = S.turn then c1.rs else _) = _
        rw [if_pos rfl]
      · rw [co i h]; exact (I.mt i hi).ext fun r _ => gp r.1
    · by_cases h : i = l
      · subst h; rw [cl]
        refine List.pairwise_append.mpr ⟨I.srt i hi, by simp, fun a ha b hb => ?_⟩
        simp at hb; subst hb
        exact (I.tn i hi a ha).2
      · rw [co i h]; exact I.srt i hi
    · by_cases h : i = l
      · subst h; rw [cl] at hr
        rcases List.mem_append.mp hr with hr | hr
        · exact I.tn i hi r hr
        · simp at hr; subst hr; exact ⟨I.t1, Int.le_refl _⟩
      · rw [co i h] at hr; exact I.tn i hi r hr
    · rw [ll l' h', cl]
      show _ = if S.turn = S.turn then c1.rs else _
      rw [if_pos rfl]
    · rw [ll l' h', cl]
      by_cases h : i = l
      · subst h; rw [cl]; exact ⟨(I.jn i hl i hi hj).1, List.prefix_refl _⟩
      · rw [co i h]
        obtain ⟨a, b⟩ := I.jn l hl i hi hj
        exact ⟨a, b.trans (List.prefix_append _ _)⟩
    · rw [ll l' h', cl]
      obtain ⟨a, b, c⟩ := I.w l hl j hj hjw
      refine ⟨a, ?_, ?_⟩
      · show (S.c l).high ≤ fset S.known l _ j
        by_cases h : j = l
        · subst h; rw [fset_same]; show _ ≤ (((S.c j).rs ++ [(S.turn, what)]).length : Int); rw [List.length_append]; push_cast; omega
        · rw [fset_ne h]; exact b
      · show fset S.known l _ j ≤ _
        by_cases h : j = l
        · subst h; rw [fset_same, cl]; exact Int.le_refl _
        · rw [fset_ne h, co j h]; exact c
    · rw [ll l' h', cl, I.cl l hl]
      show _ = ((S.c l).rs ++ [(S.turn, what)]).take (S.c l).high.toNat
      rw [List.take_append_of_le_length (by omega)]
    · have : S.leader = none := h'
      rw [hl] at this; cases this
    · by_cases h : i = l
      · subst h; rw [cl]
        refine ⟨h0, ?_, ?_⟩
        · show (S.c i).high ≤ (((S.c i).rs ++ [(S.turn, what)]).length : Int); rw [List.length_append]; push_cast; omega
        · show ((S.c i).rs ++ [(S.turn, what)]).take (S.c i).high.toNat <+: C
          rw [List.take_append_of_le_length (by omega)]; exact h2
      · rw [co i h]; exact I.hi i hi
    · by_cases h : i = l
      · subst h; rw [cl] at hr
        rcases List.mem_append.mp hr with hr | hr
        · exact List.mem_append_left _ (I.gv i hi r hr)
        · simp at hr; subst hr; simp
      · rw [co i h] at hr; exact List.mem_append_left _ (I.gv i hi r hr)
  obtain ⟨C', I2, p, _⟩ := inv_raise I1 (l := l) hl
  exact ⟨G', C', I2, p⟩
theorem Inv.more {S : CS} {n m : Nat} {G : Int → List Rec} {C : List Rec} {gv : List Str} (I : Inv S n G C gv) (h : n ≤ m) : Inv S m G C gv :=
  { I with wlz := Nat.le_trans I.wlz (by omega), len := fun i hi => Nat.le_trans (I.len i hi) (by omega) }
theorem inv_up {S : CS} {n : Nat} {G : Int → List Rec} {C : List Rec} {gv : List Str} {u : Nat → Bool} (I : Inv S n G C gv) : Inv { S with up := u } n G C gv :=
  ⟨I.wl, I.nd, I.wlz, I.ldw, I.len, I.mt, I.srt, I.tn, I.t1, I.ldG, I.jn, I.w, I.cl, I.cn, I.hi, I.gv⟩
/-- one is left out -/
theorem inv_drop {S : CS} {n : Nat} {G : Int → List Rec} {C : List Rec} {gv : List Str} {u j' : Nat → Bool} {k l : Nat} (I : Inv S n G C gv) (hl : S.leader = some l) (hn : k ≠ l) (hj : ∀ i, i ≠ k → j' i = S.joined i) (hk : j' k = true → S.joined k = true) : Inv { S with wl := S.wl.erase (k : Int), up := u, joined := j' } n G C gv := by
  have sub : ∀ x, x ∈ S.wl.erase (k : Int) → x ∈ S.wl := fun x h => List.mem_of_mem_erase h
  refine ⟨fun x hx => I.wl x (sub x hx), I.nd.erase _, Nat.le_trans List.length_erase_le I.wlz, fun l' h' => ?_, I.len, I.mt, I.srt, I.tn, I.t1, I.ldG, fun l' h' i hi hji => ?_, fun l' h' j hj2 hjw => ?_, I.cl, fun h' => ?_, I.hi, I.gv⟩
  · obtain ⟨a, b⟩ := I.ldw l' h'
    have : l' = l := by
      have : S.leader = some l' := h'
      rw [hl] at this; exact (Option.some.inj this).symm
    subst this
    exact ⟨a, (List.mem_erase_of_ne (by intro z; exact hn (by exact_mod_cast z.symm))).mpr b⟩
  · refine I.jn l' h' i hi ?_
    have hji : j' i = true := hji
    by_cases h : i = k
    · subst h; exact hk hji
    · rw [← hj i h]; exact hji
  · obtain ⟨a, b, c⟩ := I.w l' h' j hj2 (sub _ hjw)
    refine ⟨?_, b, c⟩
    show j' j = true
    by_cases h : j = k
    · subst h
      exact absurd hjw (List.Nodup.not_mem_erase I.nd)
    · rw [hj j h]; exact a
  · have : S.leader = none := h'
    rw [hl] at this; cases this
theorem inv_lag {S : CS} {n : Nat} {G : Int → List Rec} {C : List Rec} {gv : List Str} {k l : Nat} (I : Inv S n G C gv) (hl : S.leader = some l) (hn : k ≠ l) : ∃ C', Inv (lagP S l k) n G C' gv ∧ C <+: C' := by
  obtain ⟨C', I2, p, _⟩ := inv_raise (inv_drop (u := S.up) (j' := S.joined) I hl hn (fun _ _ => rfl) id) (l := l) hl
  exact ⟨C', I2, p⟩
theorem inv_down {S : CS} {n : Nat} {G : Int → List Rec} {C : List Rec} {gv : List Str} {k : Nat} (I : Inv S n G C gv) : ∃ C', Inv (downP S k) n G C' gv ∧ C <+: C' := by
  have jk : ∀ i, fset S.joined k false i = true → S.joined i = true := fun i h => by
    by_cases e : i = k
    · subst e; rw [fset_same] at h; cases h
    · rw [fset_ne e] at h; exact h
  cases hl : S.leader with
  | none =>
    have e : downP S k = { S with up := fset S.up k false, joined := fset S.joined k false } := by unfold downP; rw [hl]
    rw [e]
    refine ⟨C, ⟨I.wl, I.nd, I.wlz, fun l h => ?_, I.len, I.mt, I.srt, I.tn, I.t1, I.ldG, fun l h => ?_, fun l h => ?_, I.cl, I.cn, I.hi, I.gv⟩, List.prefix_refl _⟩
    all_goals (have : S.leader = some l := h; rw [hl] at this; cases this)
  | some l =>
    obtain ⟨hl3, hlw⟩ := I.ldw l hl
    by_cases hk : k = l
    · subst hk
      have e : downP S k = { S with up := fset S.up k false, joined := fset S.joined k false, leader := none } := by unfold downP; rw [hl]; simp
      rw [e]
      refine ⟨C, ⟨I.wl, I.nd, I.wlz, fun l h => (by cases h), I.len, I.mt, I.srt, I.tn, I.t1, fun l h => (by cases h), fun l h => (by cases h), fun l h => (by cases h), fun l h => (by cases h), fun _ j hj hjw => ?_, I.hi, I.gv⟩, List.prefix_refl _⟩
      obtain ⟨a, b, c⟩ := I.w k hl j hj hjw
      rw [I.cl k hl]
      show _ <+: (S.c j).rs
      obtain ⟨_, d⟩ := I.jn k hl j hj a
      obtain ⟨t, e⟩ := d
      rw [← e, List.take_append_of_le_length (by omega)]
      exact take_pre _ _
    · by_cases hw : (k : Int) ∈ S.wl
      · have e : downP S k = raise { S with up := fset S.up k false, joined := fset S.joined k false, wl := S.wl.erase (k : Int) } l := by unfold downP; rw [hl]; simp [hk, hw]
        rw [e]
        obtain ⟨C', I2, p, _⟩ := inv_raise (inv_drop (u := fset S.up k false) (j' := fset S.joined k false) I hl hk (fun i h => fset_ne h) (jk k)) (l := l) hl
        exact ⟨C', I2, p⟩
      · have e : downP S k = { S with up := fset S.up k false, joined := fset S.joined k false } := by unfold downP; rw [hl]; simp [hk, hw]
        rw [e]
        refine ⟨C, ⟨I.wl, I.nd, I.wlz, I.ldw, I.len, I.mt, I.srt, I.tn, I.t1, I.ldG, fun l h i hi hj => I.jn l h i hi (jk i hj), fun l h j hj hjw => ?_, I.cl, I.cn, I.hi, I.gv⟩, List.prefix_refl _⟩
        obtain ⟨a, b, c⟩ := I.w l h j hj hjw
        refine ⟨?_, b, c⟩
        show fset S.joined k false j = true
        have hjw : (j : Int) ∈ S.wl := hjw
        rw [fset_ne (by rintro rfl; exact hw hjw)]
        exact a
theorem inv_lead {S : CS} {n : Nat} {G : Int → List Rec} {C : List Rec} {gv : List Str} {k : Nat} (I : Inv S n G C gv) (hk : k < 3) (hl : S.leader = none) (hw : (k : Int) ∈ S.wl) : ∃ G' C', Inv (leadP S k) n G' C' gv ∧ C <+: C' := by
  have hC := I.cn hl k hk hw
  obtain ⟨h0, h1, h2⟩ := I.hi k hk
  let c1 : Cp := { S.c k with turn := S.turn + 1 }
  let S1 : CS := { S with turn := S.turn + 1, leader := some k, wl := [(k : Int)], known := fset (fun _ => 0) k c1.rs.length, joined := fset (fun _ => false) k true, c := fset S.c k c1 }
  have ec : S1.c k = c1 := fset_same
  have eh : raiseC S1 k = { S.c k with turn := S.turn + 1, high := (S.c k).rs.length } := by
    show ({ S1.c k with high := mx (S1.c k).high (mn (minL (S1.wl.map (kn S1))) (S1.c k).rs.length) } : Cp) = _
    rw [ec]
    have : minL (S1.wl.map (kn S1)) = (S.c k).rs.length := by
      have e1 : S1.wl.map (kn S1) = [((S.c k).rs.length : Int)] := by
        show [kn S1 (k : Int)] = _
        unfold kn
        show [fset (fun _ => 0) k (c1.rs.length : Int) (k : Int).toNat] = _
        rw [show (k : Int).toNat = k from by simp, fset_same]
      rw [e1]; rfl
    rw [this, mx_max, mn_min]
    show ({ c1 with high := max (S.c k).high (min ((S.c k).rs.length : Int) ((S.c k).rs.length : Int)) } : Cp) = _
    rw [show max (S.c k).high (min ((S.c k).rs.length : Int) ((S.c k).rs.length : Int)) = ((S.c k).rs.length : Int) from by omega]
  let S2 := raise S1 k
  have e2 : leadP S k = S2 := rfl
  have ck : S2.c k = { S.c k with turn := S.turn + 1, high := (S.c k).rs.length } := by rw [← eh]; exact raise_cl
  have co : ∀ i, i ≠ k → S2.c i = S.c i := fun i h => by
    show (raise S1 k).c i = _
    rw [raise_c h]; exact fset_ne h
  have rs : ∀ i, (S2.c i).rs = (S.c i).rs := fun i => by
    by_cases h : i = k
    · subst h; rw [ck]
    · rw [co i h]
  let G' : Int → List Rec := fun t => if t = S.turn + 1 then (S.c k).rs else G t
  have gp : ∀ i, i < 3 → ∀ r ∈ (S.c i).rs, G r.1 <+: G' r.1 := fun i hi r hr => by
    show _ <+: if r.1 = S.turn + 1 then _ else _
    have := (I.tn i hi r hr).2
    rw [if_neg (by omega)]; exact List.prefix_refl _
  have ll : ∀ l', S2.leader = some l' → l' = k := fun l' h => by
    have h : some k = some l' := h
    exact (Option.some.inj h).symm
  rw [e2]
  refine ⟨G', (S.c k).rs, ⟨fun x hx => ⟨k, hk, ?_⟩, ?_, ?_, fun l h => ?_, fun i hi => by rw [rs]; exact I.len i hi, fun i hi => by rw [rs]; exact (I.mt i hi).ext (gp i hi), fun i hi => by rw [rs]; exact I.srt i hi, fun i hi r hr => ?_, ?_, fun l h => ?_, fun l h i hi hj => ?_, fun l h j hj hjw => ?_, fun l h => ?_, fun h => (by cases h), fun i hi => ?_, fun i hi => by rw [rs]; exact I.gv i hi⟩, hC⟩
  · have hx : x ∈ [(k : Int)] := hx
    simpa using hx
  · show ([(k : Int)]).Nodup
    simp
  · show ([(k : Int)]).length ≤ _
    simp; omega
  · rw [ll l h]; exact ⟨hk, by show (k : Int) ∈ [(k : Int)]; simp⟩
  · rw [rs] at hr
    obtain ⟨a, b⟩ := I.tn i hi r hr
    exact ⟨a, by show r.1 ≤ S.turn + 1; omega⟩
  · show 1 ≤ S.turn + 1
    have := I.t1; omega
  · rw [ll l h, rs]
    show _ = if S.turn + 1 = S.turn + 1 then _ else _
    rw [if_pos rfl]
  · have hj : fset (fun _ => false) k true i = true := hj
    by_cases e : i = k
    · subst e
      rw [ll l h]
      refine ⟨?_, List.prefix_refl _⟩
      rw [ck]
      rfl
    · rw [fset_ne e] at hj; cases hj
  · have hjw : (j : Int) ∈ [(k : Int)] := hjw
    have : j = k := by simp at hjw; omega
    subst this
    rw [ll l h]
    refine ⟨(fset_same : fset (fun _ => false) j true j = true), ?_, ?_⟩
    · rw [ck]
      show ((S.c j).rs.length : Int) ≤ fset (fun _ => 0) j (c1.rs.length : Int) j
      rw [fset_same]; exact Int.le_refl _
    · rw [rs]
      show fset (fun _ => 0) j (c1.rs.length : Int) j ≤ _
      rw [fset_same]; exact Int.le_refl _
  · rw [ll l h, ck]
    show _ = (S.c k).rs.take ((S.c k).rs.length : Int).toNat
    rw [show ((S.c k).rs.length : Int).toNat = (S.c k).rs.length from by simp, List.take_length]
  · by_cases e : i = k
    · subst e
      rw [ck]
      refine ⟨by show (0 : Int) ≤ ((S.c i).rs.length : Int); omega, Int.le_refl _, take_pre _ _⟩
    · rw [co i e]
      obtain ⟨a, b, c⟩ := I.hi i hi
      exact ⟨a, b, c.trans hC⟩
theorem inv_askA {S : CS} {n : Nat} {G : Int → List Rec} {C : List Rec} {gv : List Str} {l k : Nat} (I : Inv S n G C gv) (hk : k < 3) (hl : S.leader = some l) (hn : l ≠ k) : Inv (askA S l k) n G C gv ∧ (askA S l k).joined k = true := by
  unfold askA
  by_cases hj : S.joined k = true
  · have := (I.jn l hl k hk hj).1
    rw [if_neg (by rintro (z | z); exact z this; rw [hj] at z; cases z)]
    exact ⟨I, hj⟩
  · have hj : S.joined k = false := by simpa using hj
    rw [if_pos (.inr hj)]
    refine ⟨?_, fset_same⟩
    obtain ⟨hl3, hlw⟩ := I.ldw l hl
    let rs' := agreeF (S.c l).rs ((S.c k).rs.length + 1) (S.c k).rs
    have p1 : rs' <+: (S.c k).rs := agree_pre _ (I.srt k hk)
    have p2 : rs' <+: (S.c l).rs := agree_fits (I.mt l hl3) (I.srt l hl3) _ (Nat.lt_succ_self _) (I.srt k hk) (I.mt k hk) fun r hr => (I.tn k hk r hr).1
    obtain ⟨h0, h1, h2⟩ := I.hi k hk
    have hCl : C <+: (S.c l).rs := by rw [I.cl l hl]; exact take_pre _ _
    have p3 : (S.c k).rs.take (S.c k).high.toNat <+: rs' := agree_keeps (I.srt l hl3) (h2.trans hCl) _ (I.srt k hk) (take_pre _ _)
    have hlen : (S.c k).high ≤ rs'.length := by
      have := p3.length_le
      rw [List.length_take] at this
      omega
    have ck : (agreeP S l k).c k = { S.c k with rs := rs', turn := S.turn } := fset_same
    have co : ∀ i, i ≠ k → (agreeP S l k).c i = S.c i := fun i h => fset_ne h
    have pr : ∀ i, i < 3 → ((agreeP S l k).c i).rs <+: (S.c i).rs := fun i hi => by
      by_cases h : i = k
      · subst h; rw [ck]; exact p1
      · rw [co i h]; exact List.prefix_refl _
    have kw : ∀ j : Nat, j < 3 → (j : Int) ∈ S.wl → j ≠ k := fun j hj3 hjw e => by
      subst e
      have := (I.w l hl j hj3 hjw).1
      rw [hj] at this; cases this
    have ll : ∀ l', (agreeP S l k).leader = some l' → l' = l := fun l' h => by
      have h : S.leader = some l' := h
      rw [hl] at h; exact (Option.some.inj h).symm
    refine ⟨I.wl, I.nd, I.wlz, I.ldw, fun i hi => Nat.le_trans (pr i hi).length_le (I.len i hi), fun i hi => (I.mt i hi).pre (pr i hi), fun i hi => (I.srt i hi).pre (pr i hi), fun i hi r hr => I.tn i hi r ((pr i hi).subset hr), I.t1, fun l' h' => ?_, fun l' h' i hi hji => ?_, fun l' h' j hj hjw => ?_, fun l' h' => ?_, fun h' => ?_, fun i hi => ?_, fun i hi r hr => I.gv i hi r ((pr i hi).subset hr)⟩
    · rw [ll l' h', co l hn]; exact I.ldG l hl
    · rw [ll l' h', co l hn]
      by_cases h : i = k
      · subst h; rw [ck]; exact ⟨rfl, p2⟩
      · rw [co i h]
        refine I.jn l hl i hi ?_
        have hji : fset S.joined k true i = true := hji
        rw [fset_ne h] at hji; exact hji
    · rw [ll l' h', co l hn]
      have hne := kw j hj hjw
      rw [co j hne]
      obtain ⟨a, b, c⟩ := I.w l hl j hj hjw
      refine ⟨?_, b, c⟩
      show fset S.joined k true j = true
      rw [fset_ne hne]; exact a
    · rw [ll l' h', co l hn]; exact I.cl l hl
    · have h' : S.leader = none := h'
      rw [hl] at h'; cases h'
    · by_cases h : i = k
      · subst h; rw [ck]
        refine ⟨h0, hlen, ?_⟩
        show rs'.take (S.c i).high.toNat <+: C
        obtain ⟨t, e⟩ := p1
        have : rs'.take (S.c i).high.toNat = (S.c i).rs.take (S.c i).high.toNat := by
          rw [← e, List.take_append_of_le_length (by omega)]
        rw [this]; exact h2
      · rw [co i h]; exact I.hi i hi
theorem inv_askB {S : CS} {n : Nat} {G : Int → List Rec} {C : List Rec} {gv : List Str} {l k : Nat} (I : Inv S n G C gv) (hk : k < 3) (hl : S.leader = some l) (hn : l ≠ k) (hj : S.joined k = true) : Inv (askB S l k) (n + 1) G C gv := by
  have key : ∀ (wl' : List Int), (∀ x ∈ wl', x ∈ S.wl ∨ x = (k : Int) ∧ (S.c l).high ≤ ((S.c k).rs.length : Int)) → (∀ x ∈ S.wl, x ∈ wl') → wl'.Nodup → wl'.length ≤ S.wl.length + 1 → Inv { S with known := fset S.known k ((S.c k).rs.length : Int), wl := wl' } (n + 1) G C gv := by
    intro wl' h1 h2 h3 h4
    have J := I.more (Nat.le_succ n)
    refine ⟨fun x hx => ?_, h3, ?_, fun l' h' => ⟨(I.ldw l' h').1, h2 _ (I.ldw l' h').2⟩, J.len, I.mt, I.srt, I.tn, I.t1, I.ldG, I.jn, fun l' h' j hj' hjw => ?_, I.cl, fun h' => ?_, I.hi, I.gv⟩
    · rcases h1 x hx with h | ⟨h, _⟩
      · exact I.wl x h
      · exact ⟨k, hk, h⟩
    · have := I.wlz; show wl'.length ≤ _; omega
    · have e : l' = l := by
        have h : S.leader = some l' := h'
        rw [hl] at h; exact (Option.some.inj h).symm
      subst e
      show S.joined j = true ∧ (S.c l').high ≤ fset S.known k _ j ∧ fset S.known k _ j ≤ ((S.c j).rs.length : Int)
      by_cases e : j = k
      · subst e
        rw [fset_same]
        refine ⟨hj, ?_, Int.le_refl _⟩
        rcases h1 _ hjw with h | ⟨_, h⟩
        · obtain ⟨_, b, c⟩ := I.w l' hl j hj' h
          omega
        · exact h
      · rw [fset_ne e]
        rcases h1 _ hjw with h | ⟨h, _⟩
        · exact I.w l' hl j hj' h
        · exact absurd (by exact_mod_cast h) e
    · have h' : S.leader = none := h'
      rw [hl] at h'; cases h'
  unfold askB
  simp only
  split
  · rename_i hc
    refine key (S.wl ++ [(k : Int)]) (fun x hx => ?_) (fun x hx => List.mem_append_left _ hx) ?_ (by simp)
    · rcases List.mem_append.mp hx with h | h
      · exact .inl h
      · exact .inr ⟨by simpa using h, hc.1⟩
    · refine List.nodup_append.mpr ⟨I.nd, by simp, fun a ha b hb => ?_⟩
      simp at hb; subst hb
      rintro rfl; exact hc.2 ha
  · exact key S.wl (fun x hx => .inl hx) (fun x hx => hx) I.nd (by omega)
theorem inv_askD {S : CS} {n : Nat} {G : Int → List Rec} {C : List Rec} {gv : List Str} {l k most : Nat} (I : Inv S n G C gv) (hk : k < 3) (hl : S.leader = some l) (hn : l ≠ k) (hj : S.joined k = true) (hm : (S.c k).rs.length + most ≤ 2 * n) : Inv (askD S l k most) n G C gv := by
  obtain ⟨hl3, hlw⟩ := I.ldw l hl
  let rs' := (S.c k).rs ++ ((S.c l).rs.drop (S.c k).rs.length).take most
  obtain ⟨hjt, hjp⟩ := I.jn l hl k hk hj
  have p2 : rs' <+: (S.c l).rs := by
    obtain ⟨t, e⟩ := hjp
    have : (S.c l).rs.drop (S.c k).rs.length = t := by rw [← e]; simp
    show (S.c k).rs ++ _ <+: _
    rw [this, ← e]
    exact (List.prefix_append_right_inj _).mpr (take_pre _ _)
  have p1 : (S.c k).rs <+: rs' := List.prefix_append _ _
  obtain ⟨h0, h1, h2⟩ := I.hi k hk
  obtain ⟨g0, g1, g2⟩ := I.hi l hl3
  let c1 : Cp := { S.c k with rs := rs', high := mx (S.c k).high (mn (S.c l).high rs'.length) }
  have ck : (askD S l k most).c k = c1 := fset_same
  have co : ∀ i, i ≠ k → (askD S l k most).c i = S.c i := fun i h => fset_ne h
  have ll : ∀ l', (askD S l k most).leader = some l' → l' = l := fun l' h => by
    have h : S.leader = some l' := h
    rw [hl] at h; exact (Option.some.inj h).symm
  have hlen : rs'.length ≤ 2 * n := by
    show ((S.c k).rs ++ _).length ≤ _
    rw [List.length_append, List.length_take]; omega
  refine ⟨I.wl, I.nd, I.wlz, I.ldw, fun i hi => ?_, fun i hi => ?_, fun i hi => ?_, fun i hi r hr => ?_, I.t1, fun l' h' => ?_, fun l' h' i hi hji => ?_, fun l' h' j hj' hjw => ?_, fun l' h' => ?_, fun h' => ?_, fun i hi => ?_, fun i hi r hr => ?_⟩
  · by_cases h : i = k
    · subst h; rw [ck]; exact hlen
    · rw [co i h]; exact I.len i hi
  · by_cases h : i = k
    · subst h; rw [ck]; exact (I.mt l hl3).pre p2
    · rw [co i h]; exact I.mt i hi
  · by_cases h : i = k
    · subst h; rw [ck]; exact (I.srt l hl3).pre p2
    · rw [co i h]; exact I.srt i hi
  · by_cases h : i = k
    · subst h; rw [ck] at hr; exact I.tn l hl3 r (p2.subset hr)
    · rw [co i h] at hr; exact I.tn i hi r hr
  · rw [ll l' h', co l hn]; exact I.ldG l hl
  · rw [ll l' h', co l hn]
    by_cases h : i = k
    · subst h; rw [ck]; exact ⟨hjt, p2⟩
    · rw [co i h]; exact I.jn l hl i hi hji
  · rw [ll l' h', co l hn]
    obtain ⟨a, b, c⟩ := I.w l hl j hj' hjw
    refine ⟨a, b, ?_⟩
    by_cases h : j = k
    · subst h; rw [ck]
      have := p1.length_le
      show S.known j ≤ (rs'.length : Int)
      omega
    · rw [co j h]; exact c
  · rw [ll l' h', co l hn]; exact I.cl l hl
  · have h' : S.leader = none := h'
    rw [hl] at h'; cases h'
  · by_cases h : i = k
    · subst h; rw [ck]
      have := p1.length_le
      show 0 ≤ mx _ _ ∧ mx (S.c i).high (mn (S.c l).high rs'.length) ≤ (rs'.length : Int) ∧ rs'.take (mx (S.c i).high (mn (S.c l).high rs'.length)).toNat <+: C
      rw [mx_max, mn_min]
      refine ⟨by omega, by omega, ?_⟩
      by_cases hq : (S.c i).high ≤ min (S.c l).high (rs'.length : Int)
      · rw [Int.max_eq_right hq, I.cl l hl]
        obtain ⟨t, e⟩ := p2
        rw [← e]
        have : (min (S.c l).high (rs'.length : Int)).toNat ≤ rs'.length := by omega
        rw [← List.take_append_of_le_length (l₂ := t) this]
        exact take_mono (by omega)
      · rw [Int.max_eq_left (by omega), List.take_append_of_le_length (by omega)]
        exact h2
    · rw [co i h]; exact I.hi i hi
  · by_cases h : i = k
    · subst h; rw [ck] at hr; exact I.gv l hl3 r (p2.subset hr)
    · rw [co i h] at hr; exact I.gv i hi r hr
theorem inv_ask {S : CS} {n : Nat} {G : Int → List Rec} {C : List Rec} {gv : List Str} {l k most : Nat} (I : Inv S n G C gv) (hk : k < 3) (hl : S.leader = some l) (hn : l ≠ k) (hm : most ≤ 2) : ∃ C', Inv (askP S l k most) (n + 1) G C' gv ∧ C <+: C' := by
  obtain ⟨IA, hjA⟩ := inv_askA I hk hl hn
  have hlA : (askA S l k).leader = some l := by unfold askA agreeP; split <;> exact hl
  have IB := inv_askB IA hk hlA hn hjA
  have hlB : (askB (askA S l k) l k).leader = some l := by unfold askB; simp only; split <;> exact hlA
  have hjB : (askB (askA S l k) l k).joined k = true := by unfold askB; simp only; split <;> exact hjA
  have hcB : (askB (askA S l k) l k).c = (askA S l k).c := by unfold askB; simp only; split <;> rfl
  obtain ⟨C', IR, p, _⟩ := inv_raise IB hlB
  refine ⟨C', inv_askD IR hk hlB hn hjB ?_, p⟩
  have e : ((raise (askB (askA S l k) l k) l).c k).rs = ((askB (askA S l k) l k).c k).rs := by rw [raise_c hn.symm]
  have := IA.len k hk
  rw [e, hcB]
  omega
/-- one drawn deed -/
inductive Step (S : CS) (what : Str) : CS → Bool → Prop
  | give {l} (h : S.leader = some l) : Step S what (giveP S l what) true
  | idle : Step S what S false
  | ask {l k most : Nat} (hk : k < 3) (hl : S.leader = some l) (hn : l ≠ k) (hm : most ≤ 2) : Step S what (askP S l k most) false
  | down {k : Nat} : Step S what (downP S k) false
  | upd {u : Nat → Bool} : Step S what { S with up := u } false
  | lead {u : Nat → Bool} {k : Nat} (hk : k < 3) (hl : S.leader = none) (hw : (k : Int) ∈ S.wl) : Step S what (leadP { S with up := u } k) false
  | lag {l k : Nat} (hl : S.leader = some l) (hn : k ≠ l) : Step S what (lagP S l k) false
theorem step_inv {S S' : CS} {n : Nat} {G : Int → List Rec} {C : List Rec} {gv : List Str} {what : Str} {b : Bool} (I : Inv S n G C gv) (s : Step S what S' b) : ∃ G' C', Inv S' (n + 1) G' C' (if b = true then gv ++ [what] else gv) ∧ C <+: C' := by
  cases s with
  | give h => exact inv_give I h
  | idle => exact ⟨G, C, I.more (Nat.le_succ n), List.prefix_refl _⟩
  | ask hk hl hn hm => obtain ⟨C', a, b⟩ := inv_ask I hk hl hn hm; exact ⟨G, C', a, b⟩
  | down => obtain ⟨C', a, b⟩ := inv_down (I.more (Nat.le_succ n)); exact ⟨G, C', a, b⟩
  | upd => exact ⟨G, C, inv_up (I.more (Nat.le_succ n)), List.prefix_refl _⟩
  | lead hk hl hw => exact inv_lead (inv_up (I.more (Nat.le_succ n))) hk hl hw
  | lag hl hn => obtain ⟨C', a, b⟩ := inv_lag (I.more (Nat.le_succ n)) hl hn; exact ⟨G, C', a, b⟩
def S0 (least : Int) : CS := { c := fun _ => ⟨[], 0, 1⟩, least := least, up := fun _ => true, leader := some 0, turn := 1, wl := [0, 1, 2], known := fun _ => 0, joined := fun _ => true }
theorem inv_S0 {least : Int} : Inv (S0 least) 0 (fun _ => []) [] [] := by
  refine ⟨fun x hx => ?_, by show ([0, 1, 2] : List Int).Nodup; decide, by show 3 ≤ 3; omega, fun l h => ?_, fun i hi => Nat.le_refl _, fun i hi p r h => (by cases h), fun i hi => List.Pairwise.nil, fun i hi r hr => (by cases hr), Int.le_refl _, fun l h => rfl, fun l h i hi hj => ⟨rfl, List.prefix_refl _⟩, fun l h j hj hjw => ⟨rfl, Int.le_refl _, Int.le_refl _⟩, fun l h => rfl, fun h => (by cases h), fun i hi => ⟨Int.le_refl _, Int.le_refl _, List.prefix_refl _⟩, fun i hi r hr => (by cases hr)⟩
  · have hx : x ∈ ([0, 1, 2] : List Int) := hx
    simp at hx
    rcases hx with rfl | rfl | rfl
    · exact ⟨0, by omega, rfl⟩
    · exact ⟨1, by omega, rfl⟩
    · exact ⟨2, by omega, rfl⟩
  · have h : some 0 = some l := h
    cases h
    exact ⟨by omega, by show (0 : Int) ∈ ([0, 1, 2] : List Int); simp⟩
end K04
set_option Elab.async false
set_option linter.all false
set_option maxRecDepth 100000
set_option maxHeartbeats 800000
set_option pp.deepTerms false
set_option pp.deepTerms.threshold 10
set_option pp.maxSteps 500
namespace K04
open PySem PySem.Spec L2 SW
open PyProof.Rows hiding St
local macro_rules | `(tactic| tm_at "sAt") => `(tactic| with_reducible (first | exact At.here | (apply At.there; tm_at "sAt")))
local macro_rules | `(tactic| tm_at "sSlot") => `(tactic| with_reducible (first | exact Slot.here | (apply Slot.there; tm_at "sSlot")))
local macro_rules | `(tactic| tm_at "sKd") => `(tactic| with_reducible (first | exact Kd.here | (apply Kd.there; tm_at "sKd")))
local macro_rules | `(tactic| tm_at "sSel") => `(tactic| with_reducible (first | exact Sel.here | (apply Sel.there; tm_at "sSel")))
local macro_rules | `(tactic| tm_at "sRpl") => `(tactic| with_reducible (first | exact Rpl.here | (apply Rpl.there; tm_at "sRpl")))
local macro_rules | `(tactic| tm_at "sTk") => `(tactic| (first | exact Tk.nil | (apply Tk.cons; (tm_at "sSel"); (tm_at "sTk"))))
local macro_rules | `(tactic| tm_at "sVk") => `(tactic| first
  | exact Vk.l
  | exact Vk.c
  | exact Vk.f)
local macro_rules | `(tactic| tm_at "sLk") => `(tactic| first
  | exact Lk.l
  | exact Lk.c)
local macro_rules | `(tactic| tm_at "sLf") => `(tactic| first
  | exact Or.inl rfl
  | exact Or.inr rfl)
local macro_rules | `(tactic| tm_at "sRoom") => `(tactic| first
  | assumption
  | exact L2.Room.mono (by assumption) (by decide))
local macro_rules | `(tactic| tm_at "sXok") => `(tactic| first
  | assumption
  | exact xok0)
local macro_rules | `(tactic| tm_at "sCv") => `(tactic| (first | with_reducible exact Cv.id | with_reducible exact Cv.lst0 | ((with_reducible refine Cv.pt ?_); tm_at "sEq") | ((with_reducible refine Cv.lst ?_); tm_at "sEq") | ((with_reducible refine Cv.val ?_); tm_at "sEq")))
local macro_rules | `(tactic| tm_at "sEq") => `(tactic| (first | rfl | assumption | (simp; done)))
local macro_rules | `(tactic| tm_at "sSelC") => `(tactic| (first | ((with_reducible apply SelC.here); tm_at "sCv") | ((with_reducible apply SelC.there); tm_at "sSelC")))
local macro_rules | `(tactic| tm_at "fit") => `(tactic| (first | with_reducible exact Fit.refl | with_reducible exact Fit.nil | ((with_reducible apply Fit.find); (case s => tm_at "sSelC"); (case t => tm_at "fit")) | ((with_reducible apply Fit.drop); tm_at "fit")))
local macro_rules | `(tactic| tm_at "sLkF") => `(tactic| with_reducible (first | exact LkF.here | (apply LkF.there (by with_unfolding_all rfl); tm_at "sLkF")))
local macro_rules | `(tactic| tm_at "sNoF") => `(tactic| with_reducible (first | exact NoF.nil | (apply NoF.cons (by with_unfolding_all rfl); tm_at "sNoF")))
local macro_rules | `(tactic| tm_at "sPutF") => `(tactic| with_reducible (first | exact PutF.here | exact PutF.nil | (apply PutF.there (by with_unfolding_all rfl); tm_at "sPutF")))
local macro_rules | `(tactic| tm_at "sHasL") => `(tactic| (first | exact hasL_pt (by tm_at "sSel") | exact hasL_R (by tm_at "sSel")))
local macro_rules | `(tactic| tm_at "sZ") => `(tactic| (first | assumption | (simp only [List.length_cons, List.length_nil, List.length_append, PySem.sizeLine_eq]; omega) | (rw [PySem.sizeLine_eq]; simp; done)))
local macro_rules | `(tactic| tm_at "sIx") => `(tactic| with_unfolding_all rfl)
local macro_rules | `(tactic| tm_at "sSet") => `(tactic| (first | exact SetR.here | (apply SetR.there; tm_at "sSet")))
local macro_rules | `(tactic| tm_at "sPut") => `(tactic| first
  | exact PutAt.c 0 (by with_unfolding_all rfl) (by tm_at "sSet")
  | exact PutAt.c 1 (by with_unfolding_all rfl) (by tm_at "sSet")
  | exact PutAt.c 2 (by with_unfolding_all rfl) (by tm_at "sSet")
  | exact PutAt.c 3 (by with_unfolding_all rfl) (by tm_at "sSet")
  | exact PutAt.c 4 (by with_unfolding_all rfl) (by tm_at "sSet")
  | exact PutAt.c 5 (by with_unfolding_all rfl) (by tm_at "sSet"))
local macro_rules | `(tactic| tm_at "gECall") => `(tactic| first
  | ((guard_target = GE _ _ (Expr.Call (Expr.Name "len" _) _ _ _) _ _ _); (with_reducible refine gb_len (by assumption) (by tm_at "sKd") ?hm ?he ?hpl ?_); (case hm => assumption); (case he => rfl); (case hpl => rfl))
  | ((guard_target = GE _ _ (Expr.Call (Expr.Name "int" _) _ _ _) _ _ _); (with_reducible refine gb_int (by assumption) (by tm_at "sKd") ?hm ?he ?hpl ?_); (case hm => assumption); (case he => rfl); (case hpl => rfl))
  | ((guard_target = GE _ _ (Expr.Call (Expr.Name "str" _) _ _ _) _ _ _); (with_reducible refine gb_str (by assumption) (by tm_at "sKd") ?hm ?he ?hpl ?_); (case hm => assumption); (case he => rfl); (case hpl => rfl))
  | ((guard_target = GE _ _ (Expr.Call (Expr.Name "list" _) _ _ _) _ _ _); (with_reducible refine gb_list (by assumption) (by tm_at "sKd") ?hm ?he ?hpl ?_); (case hm => assumption); (case he => rfl); (case hpl => rfl))
  | ((guard_target = GE _ _ (Expr.Call (Expr.Name "tuple" _) _ _ _) _ _ _); (with_reducible refine gb_tuple (by assumption) (by tm_at "sKd") ?hm ?he ?hpl ?_); (case hm => assumption); (case he => rfl); (case hpl => rfl))
  | ((guard_target = GE _ _ (Expr.Call (Expr.Name "min" _) _ _ _) _ _ _); (with_reducible refine gb_min (by assumption) (by tm_at "sKd") ?hm ?he ?hpl ?_); (case hm => assumption); (case he => rfl); (case hpl => rfl))
  | ((guard_target = GE _ _ (Expr.Call (Expr.Name "max" _) _ _ _) _ _ _); (with_reducible refine gb_max (by assumption) (by tm_at "sKd") ?hm ?he ?hpl ?_); (case hm => assumption); (case he => rfl); (case hpl => rfl))
  | ((guard_target = GE _ _ (Expr.Call (Expr.Name "sum" _) _ _ _) _ _ _); (with_reducible refine gb_sum (by assumption) (by tm_at "sKd") ?hm ?he ?hpl ?_); (case hm => assumption); (case he => rfl); (case hpl => rfl))
  | ((guard_target = GE _ _ (Expr.Call (Expr.Name "sorted" _) _ _ _) _ _ _); (with_reducible refine gb_sorted (by assumption) (by tm_at "sKd") ?hm ?he ?hpl ?_); (case hm => assumption); (case he => rfl); (case hpl => rfl))
  | ((guard_target = GE _ _ (Expr.Call (Expr.Name "abs" _) _ _ _) _ _ _); (with_reducible refine gb_abs (by assumption) (by tm_at "sKd") ?hm ?he ?hpl ?_); (case hm => assumption); (case he => rfl); (case hpl => rfl))
  | ((guard_target = GE _ _ (Expr.Call (Expr.Name "range" _) _ _ _) _ _ _); (with_reducible refine gb_range (by assumption) (by tm_at "sKd") ?hm ?he ?hpl ?_); (case hm => assumption); (case he => rfl); (case hpl => rfl))
  | ((guard_target = GE _ _ (Expr.Call (Expr.Name "any" _) _ _ _) _ _ _); (with_reducible refine gb_any (by assumption) (by tm_at "sKd") ?hm ?he ?hpl ?_); (case hm => assumption); (case he => rfl); (case hpl => rfl))
  | ((guard_target = GE _ _ (Expr.Call (Expr.Name "all" _) _ _ _) _ _ _); (with_reducible refine gb_all (by assumption) (by tm_at "sKd") ?hm ?he ?hpl ?_); (case hm => assumption); (case he => rfl); (case hpl => rfl))
  | ((guard_target = GE _ _ (Expr.Call (Expr.Name "dict" _) _ _ _) _ _ _); (with_reducible refine gb_dict (by assumption) (by tm_at "sKd") ?hm ?he ?hpl ?_); (case hm => assumption); (case he => rfl); (case hpl => rfl))
  | ((guard_target = GE _ _ (Expr.Call (Expr.Name "set" _) _ _ _) _ _ _); (with_reducible refine gb_set (by assumption) (by tm_at "sKd") ?hm ?he ?hpl ?_); (case hm => assumption); (case he => rfl); (case hpl => rfl)))
local macro_rules | `(tactic| tm_at "gECall") => `(tactic| (guard_target = GE _ _ (Expr.Call (Expr.Name "_law_roll" _) (_ :: _) [] _) _ _ _; (refine ge_call (FnAt.e (x := "_law_roll") (by assumption)) (by tm_at "sRoom") (by tm_at "sXok") (Nm.gl (by assumption) (by tm_at "sKd")) ?hdb ?he ?hpl ?_); (case hdb => rfl); (case he => rfl); (case hpl => rfl)))
local macro_rules | `(tactic| tm_at "gECall") => `(tactic| (guard_target = GE _ _ (Expr.Call (Expr.Name "_law_dice" _) (_ :: _) [] _) _ _ _; (refine ge_call (FnAt.e (x := "_law_dice") (by assumption)) (by tm_at "sRoom") (by tm_at "sXok") (Nm.gl (by assumption) (by tm_at "sKd")) ?hdb ?he ?hpl ?_); (case hdb => rfl); (case he => rfl); (case hpl => rfl)))
local macro_rules | `(tactic| tm_at "gECall") => `(tactic| (guard_target = GE _ _ (Expr.Call (Expr.Name "_law_rounds" _) (_ :: _) [] _) _ _ _; (refine ge_call (FnAt.e (x := "_law_rounds") (by assumption)) (by tm_at "sRoom") (by tm_at "sXok") (Nm.gl (by assumption) (by tm_at "sKd")) ?hdb ?he ?hpl ?_); (case hdb => rfl); (case he => rfl); (case hpl => rfl)))
local macro_rules | `(tactic| tm_at "gECall") => `(tactic| (guard_target = GE _ _ (Expr.Call (Expr.Name "_law_deed" _) (_ :: _) [] _) _ _ _; (refine ge_call (FnAt.e (x := "_law_deed") (by assumption)) (by tm_at "sRoom") (by tm_at "sXok") (Nm.gl (by assumption) (by tm_at "sKd")) ?hdb ?he ?hpl ?_); (case hdb => rfl); (case he => rfl); (case hpl => rfl)))
local macro_rules | `(tactic| tm_at "gE") => `(tactic| first
  | ((guard_target = GE _ _ (Expr.Name _ _) _ _ _); (with_reducible refine ge_name (by assumption) (by tm_at "sAt") (by tm_at "sKd") (by tm_at "sVk") rfl ?_))
  | ((guard_target = GE _ _ (Expr.Constant (Const.int _) _ _) _ _ _); (with_reducible refine ge_int ?_))
  | ((guard_target = GE _ _ (Expr.Attribute _ _ _) _ _ _); (with_reducible refine ge_fld ?hb ?_); (case hb => rfl))
  | ((guard_target = GE _ _ (Expr.Subscript _ (Expr.Slice _ _ none _) _) _ _ _); (with_reducible refine ge_slice ?_))
  | ((guard_target = GE _ _ (Expr.Call (Expr.Attribute _ _ _) _ _ _) _ _ _); tm_at "gEMeth")
  | ((guard_target = GE _ _ (Expr.Subscript _ _ _) _ _ _); (with_reducible refine ge_sub ?hs ?_); (case hs => exact fun _ _ => rfl))
  | ((guard_target = GE _ _ (Expr.BinOp _ _ _ _) _ _ _); (with_reducible refine ge_bin ?_))
  | ((guard_target = GE _ _ (Expr.Constant (Const.str _) _ _) _ _ _); (with_reducible refine ge_str ?_))
  | ((guard_target = GE _ _ (Expr.Call (Expr.Name _ _) _ _ _) _ _ _); tm_at "gECall")
  | ((guard_target = GE _ _ (Expr.List _ _) _ _ _); (with_reducible refine ge_lst ?_))
  | ((guard_target = GE _ _ (Expr.Tuple _ _ _) _ _ _); (with_reducible refine ge_tup ?_))
  | ((guard_target = GE _ _ (Expr.Constant Const.none _ _) _ _ _); (with_reducible refine ge_none ?_))
  | ((guard_target = GE _ _ (Expr.Constant (Const.bool _) _ _) _ _ _); (with_reducible refine ge_bl ?_))
  | ((guard_target = GE _ _ (Expr.Compare _ [_] [_] _) _ _ _); (with_reducible refine ge_cmp ?hm ?_); (case hm => first | exact nomark _ | rfl))
  | ((guard_target = GE _ _ (Expr.UnaryOp UnaryOp.Not _ _) _ _ _); (with_reducible refine ge_not ?_))
  | ((guard_target = GE _ _ (Expr.UnaryOp _ _ _) _ _ _); (with_reducible refine ge_un ?_))
  | ((guard_target = GE _ _ (Expr.IfExp _ _ _ _) _ _ _); (with_reducible refine ge_if ?_))
  | ((guard_target = GE _ _ (Expr.Compare _ [_, _] [_, _] _) _ _ _); (with_reducible refine ge_chain ?hm ?_); (case hm => with_unfolding_all rfl))
  | ((guard_target = GE _ _ (Expr.BoolOp _ [_] _) _ _ _); (with_reducible refine ge_one ?_))
  | ((guard_target = GE _ _ (Expr.BoolOp BoolOp.And _ _) _ _ _); (with_reducible refine ge_and ?_))
  | ((guard_target = GE _ _ (Expr.BoolOp BoolOp.Or _ _) _ _ _); (with_reducible refine ge_or ?_)))
local macro_rules | `(tactic| tm_at "gEMeth") => `(tactic| first
  | ((guard_target = GE _ _ (Expr.Call (Expr.Attribute _ "append" _) [_] [] _) _ _ _); (with_reducible refine ge_append ?h1 ?h2 ?h3 ?h4 ?h5 ?_); (case h1 => rfl); (case h2 => rfl); (case h3 => rfl); (case h4 => rfl); (case h5 => rfl))
  | ((guard_target = GE _ _ (Expr.Call (Expr.Attribute _ "extend" _) [_] [] _) _ _ _); (with_reducible refine ge_extend ?h1 ?h2 ?h3 ?h4 ?h5 ?_); (case h1 => rfl); (case h2 => rfl); (case h3 => rfl); (case h4 => rfl); (case h5 => rfl))
  | ((guard_target = GE _ _ (Expr.Call (Expr.Attribute _ "remove" _) [_] [] _) _ _ _); (with_reducible refine ge_remove ?h1 ?h2 ?h3 ?h4 ?h5 ?_); (case h1 => rfl); (case h2 => rfl); (case h3 => rfl); (case h4 => rfl); (case h5 => rfl))
  | ((guard_target = GE _ _ (Expr.Call (Expr.Attribute _ "pop" _) [_] [] _) _ _ _); (with_reducible refine ge_popAt ?h1 ?h2 ?h3 ?h4 ?h5 ?_); (case h1 => rfl); (case h2 => rfl); (case h3 => rfl); (case h4 => rfl); (case h5 => rfl)))
local macro_rules | `(tactic| tm_at "gT") => `(tactic| first
  | ((guard_target = GT _ _ (Expr.Compare _ [_] [_] _) _ _ _); (with_reducible refine gt_cmp ?hm ?_); (case hm => first | exact nomark _ | rfl))
  | ((guard_target = GT _ _ (Expr.UnaryOp UnaryOp.Not _ _) _ _ _); (with_reducible refine gt_not ?_))
  | ((guard_target = GT _ _ (Expr.BoolOp _ _ _) _ _ _); (with_reducible refine gt_bool ?_))
  | ((guard_target = GT _ _ (Expr.Compare _ [_, _] [_, _] _) _ _ _); (with_reducible refine gt_chain ?hm ?_); (case hm => with_unfolding_all rfl))
  | ((guard_target = GT _ _ (Expr.Call _ _ _ _) _ _ _); (with_reducible refine gt_val ?he ?_); (case he => intro _; rfl))
  | ((guard_target = GT _ _ (Expr.Subscript _ _ _) _ _ _); (with_reducible refine gt_val ?he ?_); (case he => intro _; rfl))
  | ((guard_target = GT _ _ (Expr.Name _ _) _ _ _); (with_reducible refine gt_val ?he ?_); (case he => intro _; rfl))
  | ((guard_target = GT _ _ (Expr.Attribute _ _ _) _ _ _); (with_reducible refine gt_val ?he ?_); (case he => intro _; rfl)))
local macro_rules | `(tactic| tm_at "gB") => `(tactic| first
  | ((guard_target = GB _ _ (Expr.BoolOp BoolOp.And [_] _) _ _ _); (with_reducible refine gb_and1 ?_))
  | ((guard_target = GB _ _ (Expr.BoolOp BoolOp.Or [_] _) _ _ _); (with_reducible refine gb_or1 ?_))
  | ((guard_target = GB _ _ (Expr.BoolOp BoolOp.And _ _) _ _ _); (with_reducible refine gb_and ?_))
  | ((guard_target = GB _ _ (Expr.BoolOp BoolOp.Or _ _) _ _ _); (with_reducible refine gb_or ?_)))
local macro_rules | `(tactic| tm_at "gA") => `(tactic| first
  | ((guard_target = GA _ _ ([]) _ _ _); (with_reducible refine ga_nil ?_))
  | ((guard_target = GA _ _ (_ :: _) _ _ _); (with_reducible refine ga_cons ?hst ?_); (case hst => rfl)))
local macro_rules | `(tactic| tm_at "gOp") => `(tactic| first
  | ((guard_target = GOp _ _ (binaryOp Operator.Add) (V.int _) (V.int _) _ _); (with_reducible refine go_add ?_))
  | ((guard_target = GOp _ _ (binaryOp Operator.Sub) (V.int _) (V.int _) _ _); (with_reducible refine go_sub ?_))
  | ((guard_target = GOp _ _ (compareOp CmpOp.Eq) (V.int _) (V.int _) _ _); (with_reducible refine go_eqI ?_))
  | ((guard_target = GOp _ _ (compareOp CmpOp.Lt) (V.int _) (V.int _) _ _); (with_reducible refine go_lt ?_))
  | ((guard_target = GOp _ _ (compareOp CmpOp.LtE) (V.int _) (V.int _) _ _); (with_reducible refine go_le ?_))
  | ((guard_target = GOp _ _ (compareOp CmpOp.Gt) (V.int _) (V.int _) _ _); (with_reducible refine go_gt ?_))
  | ((guard_target = GOp _ _ (compareOp CmpOp.GtE) (V.int _) (V.int _) _ _); (with_reducible refine go_ge ?_))
  | ((guard_target = GOp _ _ (compareOp CmpOp.NotEq) (V.int _) (V.int _) _ _); (with_reducible refine go_neI ?_))
  | ((guard_target = GOp _ _ (binaryOp Operator.Mult) (V.int _) (V.int _) _ _); (with_reducible refine go_mul ?c ?_); (case c => first | (left; constructor <;> omega) | (right; constructor <;> omega)))
  | ((guard_target = GOp _ _ (binaryOp Operator.FloorDiv) (V.int _) (V.int _) _ _); (with_reducible refine go_div ?c ?_); (case c => constructor <;> omega))
  | ((guard_target = GOp _ _ (binaryOp Operator.Mod) (V.int _) (V.int _) _ _); (with_reducible refine go_mod ?c ?_); (case c => omega))
  | ((guard_target = GOp _ _ (compareOp CmpOp.Eq) (V.str _) (V.str _) _ _); (with_reducible refine go_eqT ?_))
  | ((guard_target = GOp _ _ (compareOp CmpOp.NotEq) (V.str _) (V.str _) _ _); (with_reducible refine go_neT ?_))
  | ((guard_target = GOp _ _ (compareOp CmpOp.Eq) (V.bl _) (V.bl _) _ _); (with_reducible refine go_eqB ?_))
  | ((guard_target = GOp _ _ (compareOp CmpOp.NotEq) (V.bl _) (V.bl _) _ _); (with_reducible refine go_neB ?_))
  | ((guard_target = GOp _ _ (compareOp CmpOp.In) (V.int _) (V.ref _) _ _); (with_reducible refine go_inI (by tm_at "sSel") ?_))
  | ((guard_target = GOp _ _ (compareOp CmpOp.NotIn) (V.int _) (V.ref _) _ _); (with_reducible refine go_ninI (by tm_at "sSel") ?_))
  | ((guard_target = GOp _ _ (compareOp CmpOp.In) (V.str _) (V.ref _) _ _); (with_reducible refine go_inT (by tm_at "sSel") ?_))
  | ((guard_target = GOp _ _ (compareOp CmpOp.NotIn) (V.str _) (V.ref _) _ _); (with_reducible refine go_ninT (by tm_at "sSel") ?_))
  | ((guard_target = GOp _ _ (compareOp CmpOp.Eq) (_) (V.non) _ _); (with_reducible refine go_eqS rfl ?_))
  | ((guard_target = GOp _ _ (compareOp CmpOp.NotEq) (_) (V.non) _ _); (with_reducible refine go_neS rfl ?_))
  | ((guard_target = GOp _ _ (compareOp CmpOp.Is) (_) (V.non) _ _); (with_reducible refine go_isN ?_))
  | ((guard_target = GOp _ _ (compareOp CmpOp.IsNot) (_) (V.non) _ _); (with_reducible refine go_notN ?_)))
local macro_rules | `(tactic| tm_at "gC") => `(tactic| first
  | ((guard_target = GC _ _ (Value.type "int") [V.int _] _ _); (with_reducible refine gc_intI ?_))
  | ((guard_target = GC _ _ (Value.type "int") [V.bl _] _ _); (with_reducible refine gc_intB ?_))
  | ((guard_target = GC _ _ (Value.builtin "abs") [V.int _] _ _); (with_reducible refine gc_abs ?_))
  | ((guard_target = GC _ _ (Value.builtin "max") [V.int _, V.int _] _ _); (with_reducible refine gc_max2 ?hc ?_); (case hc => rfl))
  | ((guard_target = GC _ _ (Value.builtin "min") [V.int _, V.int _] _ _); (with_reducible refine gc_min2 ?hc ?_); (case hc => rfl))
  | ((guard_target = GC _ _ (Value.type "range") [V.int _] _ _); (with_reducible refine gc_rng1 ?_))
  | ((guard_target = GC _ _ (Value.type "range") [V.int _, V.int _] _ _); (with_reducible refine gc_rng2 ?_))
  | ((guard_target = GC _ _ (Value.builtin "len") [V.ref _] _ _); (with_reducible refine gc_lenR (by tm_at "sSel") ?_))
  | ((guard_target = GC _ _ (Value.builtin "len") [V.ref _] _ _); (with_reducible refine gc_len (by tm_at "sSel") ?_))
  | ((guard_target = GC _ _ (Value.builtin "len") [V.ref _] _ _); (with_reducible refine gc_lenT (by tm_at "sSel") ?_)))
local macro_rules | `(tactic| tm_at "gF") => `(tactic| first
  | ((guard_target = GF _ _ _ _ _ _); (with_reducible refine gf (by tm_at "sSel") (by tm_at "sLkF") ?hc ?hn ?_); (case hc => assumption); (case hn => assumption))
  | ((guard_target = GFS _ _ _ _ _ _); (with_reducible refine gfs (by tm_at "sRpl") (by tm_at "sPutF") ?hc ?hn ?hz ?_); (case hc => assumption); (case hn => assumption); (case hz => exact Nat.le_of_ble_eq_true rfl))
  | ((guard_target = GFA _ _ _ _ _ _ _ _ _); (with_reducible refine gfa (by tm_at "sSel") (by tm_at "sLkF") ?hc ?hn ?_); (case hc => assumption); (case hn => assumption))
  | ((guard_target = Exists fun _ => Exists fun _ => Exists fun _ => (Rpl _ _ _ _ ∧ _ ∧ _)); (with_reducible refine gfaE (by tm_at "sRpl") (by tm_at "sPutF") ?hz ?_); (case hz => exact Nat.le_of_ble_eq_true rfl))
  | ((guard_target = GAS _ _ _ _ _ _ _ _ _); (with_reducible refine gas (by tm_at "sSel") (by tm_at "sIx") ?_))
  | ((guard_target = (HasL _ _ _ ∧ _)); (with_reducible refine And.intro ?hh ?_); (case hh => tm_at "sHasL"))
  | ((guard_target = (IsIns _ _ _ _ _ ∧ _)); (with_reducible refine And.intro ?hh ?_); (case hh => exact isIns (by tm_at "sSel") (by tm_at "sNoF") (by rfl)))
  | ((guard_target = GApp _ _ _ _ _); (with_reducible refine gapp_pt (by tm_at "sRpl") ?hz ?_); (case hz => tm_at "sZ"))
  | ((guard_target = (List.length _ ≤ PySem.sizeLine ∧ _)); (with_reducible refine And.intro ?hz ?_); (case hz => tm_at "sZ"); intro _)
  | ((guard_target = GIp _ _ Operator.Add (V.int _) (V.int _) _ _); (with_reducible refine gip_add ?_))
  | ((guard_target = GIp _ _ Operator.Sub (V.int _) (V.int _) _ _); (with_reducible refine gip_sub ?_))
  | ((guard_target = GRem _ _ _ _ _); (with_reducible refine grem (by tm_at "sRpl") ?hm ?_); (case hm => assumption))
  | ((guard_target = GO _ _ none _ _ _); (with_reducible refine goN ?_))
  | ((guard_target = GO _ _ (some _) _ _ _); (with_reducible refine goS ?_)))
local macro_rules | `(tactic| tm_at "gIx") => `(tactic| first
  | (with_reducible refine gi_lst (by tm_at "sSel") (by tm_at "sIx") ?_)
  | (with_reducible refine gi_tup (by tm_at "sSel") (by tm_at "sIx") ?_))
local macro_rules | `(tactic| tm_at "gS") => `(tactic| first
  | ((guard_target = GS _ _ (Stmt.Assign [Expr.Name _ _] _ _) _ _ _); (with_reducible refine gs_name (by assumption) (by tm_at "sSlot") (by tm_at "sKd") (by tm_at "sLk") (by tm_at "sLf") ?hsw ?_); (case hsw => rfl))
  | ((guard_target = GS _ _ (Stmt.If _ _ _ _) _ _ _); (with_reducible refine gs_if ?_))
  | ((guard_target = GS _ _ (Stmt.AugAssign (Expr.Name _ _) _ _ _) _ _ _); (with_reducible refine gs_aug (by assumption) (by tm_at "sAt") (by tm_at "sSlot") (by tm_at "sKd") (by tm_at "sLk") (by tm_at "sLf") ?_))
  | ((guard_target = GS _ _ (Stmt.AugAssign (Expr.Attribute _ _ _) _ _ _) _ _ _); (with_reducible refine gs_fldaug ?_))
  | ((guard_target = GS _ _ (Stmt.AugAssign (Expr.Subscript _ _ _) _ _ _) _ _ _); (with_reducible refine gs_augS ?ha ?_); (case ha => intros; rfl))
  | ((guard_target = GS _ _ (Stmt.Return (some _) _) _ _ _); (with_reducible refine gs_ret ?_))
  | ((guard_target = GS _ _ (Stmt.Expr (Expr.Constant _ _ _) _) _ _ _); (with_reducible refine gs_doc ?_))
  | ((guard_target = GS _ _ (Stmt.Expr _ _) _ _ _); (with_reducible refine gs_expr ?hsw ?_); (case hsw => rfl))
  | ((guard_target = GS _ _ (Stmt.Assign [Expr.Attribute _ _ _] _ _) _ _ _); (with_reducible refine gs_fld ?hsw ?_); (case hsw => rfl))
  | ((guard_target = GS _ _ (Stmt.Assign [Expr.Subscript _ _ _] _ _) _ _ _); (with_reducible refine gs_asg ?hsw ?hw ?h1 ?_); (case hsw => rfl); (case hw => rfl); (case h1 => rfl))
  | ((guard_target = GS _ _ (Stmt.Assign [Expr.Tuple _ _ _] _ _) _ _ _); (with_reducible refine gs_asg ?hsw ?hw ?h1 ?_); (case hsw => rfl); (case hw => rfl); (case h1 => rfl))
  | ((guard_target = GS _ _ (Stmt.Return none _) _ _ _); (with_reducible refine gs_retN ?_))
  | ((guard_target = GS _ _ (Stmt.Pass _) _ _ _); (with_reducible refine gs_pass ?_))
  | ((guard_target = GS _ _ (Stmt.Break _) _ _ _); (with_reducible refine gs_break ?_))
  | ((guard_target = GS _ _ (Stmt.Continue _) _ _ _); (with_reducible refine gs_continue ?_)))
local macro_rules | `(tactic| tm_at "gG") => `(tactic| first
  | ((guard_target = GG _ _ (Expr.Name _ _) _ _ _ _); (with_reducible refine gg_name (by assumption) (by tm_at "sSlot") (by tm_at "sKd") (by tm_at "sLk") (by tm_at "sLf") ?_))
  | ((guard_target = GG _ _ (Expr.Subscript _ _ _) _ _ _ _); (with_reducible refine gg_sub ?ha ?_); (case ha => intro _; rfl))
  | ((guard_target = GG _ _ (Expr.Tuple _ _ _) _ _ _ _); (with_reducible refine gg_tup ?hc (by tm_at "sSel") ?hn ?hst ?_); (case hc => rfl); (case hn => rfl); (case hst => rfl)))
local macro_rules | `(tactic| tm_at "g") => `(tactic| first
  | ((guard_target = GE _ _ _ _ _ _); tm_at "gE")
  | ((guard_target = GOp _ _ _ _ _ _ _); tm_at "gOp")
  | ((guard_target = GIx _ _ _ _ _ _); tm_at "gIx")
  | tm_at "gF"
  | ((guard_target = (wipe _ _ = wipe _ _ ∧ _)); refine And.intro rfl ?_)
  | ((guard_target = GGs _ _ [] _ _ _ _); (with_reducible refine ggs_nil ?_))
  | ((guard_target = GGs _ _ (_ :: _) _ _ _ _); (with_reducible refine ggs_cons ?hst ?_); (case hst => rfl))
  | ((guard_target = GTs _ _ [] _ _ _); (with_reducible refine gts_nil ?_))
  | ((guard_target = GTs _ _ [_] _ _ _); (with_reducible refine gts_one ?_))
  | ((guard_target = KB _ _ _); (with_reducible refine KB.mk ?_))
  | ((guard_target = GA _ _ _ _ _ _); tm_at "gA")
  | ((guard_target = GS _ _ _ _ _ _); tm_at "gS")
  | ((guard_target = GSs _ _ (_ :: _) _ _ _); (with_reducible refine gss_cons ?_))
  | ((guard_target = GSs _ _ ([]) _ _ _); (with_reducible refine gss_nil ?_))
  | ((guard_target = GT _ _ _ _ _ _); tm_at "gT")
  | ((guard_target = GB _ _ _ _ _ _); tm_at "gB")
  | ((guard_target = GC _ _ _ _ _ _); tm_at "gC")
  | ((guard_target = GG _ _ _ _ _ _ _); tm_at "gG")
  | ((guard_target = GPutL _ _ _ _ _); (with_reducible refine gput (by tm_at "sRpl") (by tm_at "sPut") ?_))
  | ((guard_target = if true = true then _ else _); (with_reducible refine iteT ?_))
  | ((guard_target = if (!true) = true then _ else _); (with_reducible refine iteNT ?_))
  | ((guard_target = if (!false) = true then _ else _); (with_reducible refine iteNF ?_))
  | ((guard_target = if false = true then _ else _); (with_reducible refine iteF ?_))
  | ((guard_target = Exists _); (with_reducible refine Exists.intro _ (And.intro rfl ?_)))
  | (first | with_reducible refine ite_nI ?_ | with_reducible refine ite_nN ?_ | with_reducible refine ite_nnI ?_ | with_reducible refine ite_nnN ?_ | with_reducible refine ite_nR ?_ | with_reducible refine ite_nnR ?_))
local macro_rules | `(tactic| tm_at "sSetN") => `(tactic| (first | exact SetN.here | (apply SetN.there; tm_at "sSetN")))
local macro_rules | `(tactic| tm_at "sWp") => `(tactic| (first | exact Wp.nil | (apply Wp.cons; (tm_at "sWp"); (tm_at "sSetN"))))
local macro_rules | `(tactic| tm_at "fits") => `(tactic| (first | apply Fits.mk | apply FitL.mk))
local macro_rules | `(tactic| tm_at "ent") => `(tactic| (apply Fit.ent; tm_at "fit"))
local macro_rules | `(tactic| tm_at "go") => `(tactic| repeat (tm_at "g"))
local macro_rules | `(tactic| tm_at "gs") => `(tactic| repeat ((fail_if_success (guard_target = GSs _ _ (_ :: _) _ _ _)); tm_at "g"))
local macro_rules | `(tactic| tm_at "if") => `(tactic| first
  | (with_reducible refine ite_ndec (fun _ => ?_) (fun _ => ?_))
  | (with_reducible refine ite_dec (fun _ => ?_) (fun _ => ?_))
  | (with_reducible refine ite_nb (fun _ => ?_) (fun _ => ?_))
  | (with_reducible refine ite_b (fun _ => ?_) (fun _ => ?_)))
local macro_rules | `(tactic| tm_at "fit") => `(tactic| (guard_target = Fit _ (CpsR _ _ _ _ :: _); (first | ((with_reducible apply Fit.find); (case s => tm_at "sSelC"); (case t => tm_at "fit")) | ((with_reducible apply cps_want); (case f => tm_at "fit"); (case e => first | rfl | (simp only [vLd]; done) | (simp [raise_ld, vLd, *]; done))))))
local macro_rules | `(tactic| tm_at "fit") => `(tactic| (guard_target = Fit _ (RestP _ _ _ [] :: _); (first | ((with_reducible apply Fit.find); (case s => tm_at "sSelC"); (case t => tm_at "fit")) | ((with_reducible apply rest_want); (case hk => assumption); (case f => tm_at "fit")) | ((with_reducible apply rest_back); (case s => tm_at "sSel"); (case hk => assumption); (case f => tm_at "fit")))))
local macro_rules | `(tactic| tm_at "gEMeth") => `(tactic| (guard_target = GE _ _ (Expr.Call (Expr.Attribute _ "last_mark" _) [] _ _) _ _ _; (refine ge_meth0 (MeAt.e (C := "Copy") (m := "last_mark") (by assumption)) (by tm_at "sRoom") (by tm_at "sXok") ?ht ?_); (case ht => exact ⟨_, rfl⟩)))
local macro_rules | `(tactic| tm_at "gEMeth") => `(tactic| (guard_target = GE _ _ (Expr.Call (Expr.Attribute _ "raise_high" _) [] _ _) _ _ _; (refine ge_meth0 (MeAt.e (C := "Copies") (m := "raise_high") (by assumption)) (by tm_at "sRoom") (by tm_at "sXok") ?ht ?_); (case ht => exact ⟨_, rfl⟩)))
local macro_rules | `(tactic| tm_at "gEMeth") => `(tactic| (guard_target = GE _ _ (Expr.Call (Expr.Attribute _ "sure" _) [] _ _) _ _ _; (refine ge_meth0 (MeAt.e (C := "Copies") (m := "sure") (by assumption)) (by tm_at "sRoom") (by tm_at "sXok") ?ht ?_); (case ht => exact ⟨_, rfl⟩)))
local macro_rules | `(tactic| tm_at "gEMeth") => `(tactic| (guard_target = GE _ _ (Expr.Call (Expr.Attribute _ "alike" _) [] _ _) _ _ _; (refine ge_meth0 (MeAt.e (C := "Copies") (m := "alike") (by assumption)) (by tm_at "sRoom") (by tm_at "sXok") ?ht ?_); (case ht => exact ⟨_, rfl⟩)))
local macro_rules | `(tactic| tm_at "gEMeth") => `(tactic| (guard_target = GE _ _ (Expr.Call (Expr.Attribute _ "turn_end" _) (_ :: _) _ _) _ _ _; (refine ge_meth (MeAt.e (C := "Copy") (m := "turn_end") (by assumption)) (by tm_at "sRoom") (by tm_at "sXok") ?hst ?hpl ?ht ?_); (case hst => rfl); (case hpl => rfl); (case ht => exact ⟨_, rfl⟩)))
local macro_rules | `(tactic| tm_at "gEMeth") => `(tactic| (guard_target = GE _ _ (Expr.Call (Expr.Attribute _ "agree" _) (_ :: _) _ _) _ _ _; (refine ge_meth (MeAt.e (C := "Copies") (m := "agree") (by assumption)) (by tm_at "sRoom") (by tm_at "sXok") ?hst ?hpl ?ht ?_); (case hst => rfl); (case hpl => rfl); (case ht => exact ⟨_, rfl⟩)))
local macro_rules | `(tactic| tm_at "gEMeth") => `(tactic| (guard_target = GE _ _ (Expr.Call (Expr.Attribute _ "give" _) (_ :: _) _ _) _ _ _; (refine ge_meth (MeAt.e (C := "Copies") (m := "give") (by assumption)) (by tm_at "sRoom") (by tm_at "sXok") ?hst ?hpl ?ht ?_); (case hst => rfl); (case hpl => rfl); (case ht => exact ⟨_, rfl⟩)))
local macro_rules | `(tactic| tm_at "gEMeth") => `(tactic| (guard_target = GE _ _ (Expr.Call (Expr.Attribute _ "ask" _) (_ :: _) _ _) _ _ _; (refine ge_meth (MeAt.e (C := "Copies") (m := "ask") (by assumption)) (by tm_at "sRoom") (by tm_at "sXok") ?hst ?hpl ?ht ?_); (case hst => rfl); (case hpl => rfl); (case ht => exact ⟨_, rfl⟩)))
local macro_rules | `(tactic| tm_at "gEMeth") => `(tactic| (guard_target = GE _ _ (Expr.Call (Expr.Attribute _ "down" _) (_ :: _) _ _) _ _ _; (refine ge_meth (MeAt.e (C := "Copies") (m := "down") (by assumption)) (by tm_at "sRoom") (by tm_at "sXok") ?hst ?hpl ?ht ?_); (case hst => rfl); (case hpl => rfl); (case ht => exact ⟨_, rfl⟩)))
local macro_rules | `(tactic| tm_at "gEMeth") => `(tactic| (guard_target = GE _ _ (Expr.Call (Expr.Attribute _ "up_again" _) (_ :: _) _ _) _ _ _; (refine ge_meth (MeAt.e (C := "Copies") (m := "up_again") (by assumption)) (by tm_at "sRoom") (by tm_at "sXok") ?hst ?hpl ?ht ?_); (case hst => rfl); (case hpl => rfl); (case ht => exact ⟨_, rfl⟩)))
local macro_rules | `(tactic| tm_at "gEMeth") => `(tactic| (guard_target = GE _ _ (Expr.Call (Expr.Attribute _ "lead" _) (_ :: _) _ _) _ _ _; (refine ge_meth (MeAt.e (C := "Copies") (m := "lead") (by assumption)) (by tm_at "sRoom") (by tm_at "sXok") ?hst ?hpl ?ht ?_); (case hst => rfl); (case hpl => rfl); (case ht => exact ⟨_, rfl⟩)))
local macro_rules | `(tactic| tm_at "gEMeth") => `(tactic| (guard_target = GE _ _ (Expr.Call (Expr.Attribute _ "give_as" _) (_ :: _) _ _) _ _ _; (refine ge_meth (MeAt.e (C := "Copies") (m := "give_as") (by assumption)) (by tm_at "sRoom") (by tm_at "sXok") ?hst ?hpl ?ht ?_); (case hst => rfl); (case hpl => rfl); (case ht => exact ⟨_, rfl⟩)))
local macro_rules | `(tactic| tm_at "gEMeth") => `(tactic| (guard_target = GE _ _ (Expr.Call (Expr.Attribute _ "lag" _) (_ :: _) _ _) _ _ _; (refine ge_meth (MeAt.e (C := "Copies") (m := "lag") (by assumption)) (by tm_at "sRoom") (by tm_at "sXok") ?hst ?hpl ?ht ?_); (case hst => rfl); (case hpl => rfl); (case ht => exact ⟨_, rfl⟩)))
local macro_rules | `(tactic| tm_at "sIx") => `(tactic| exact at3 (by assumption))
local macro_rules | `(tactic| tm_at "sPut") => `(tactic| (first | exact put3 (g := V.int) (by assumption) | exact put3 (g := V.bl) (by assumption)))
local macro_rules | `(tactic| tm_at "gF") => `(tactic| ((guard_target = (IsIns _ _ _ _ _ ∧ _)); (with_reducible refine And.intro ?hh ?_); (case hh => exact ins_cps (by tm_at "sSel") (fun _ _ _ _ _ _ _ _ => by tm_at "sNoF"))))
local macro_rules | `(tactic| tm_at "fit") => `(tactic| (guard_target = Fit _ (RestP _ _ _ [_] :: _); (first | ((with_reducible apply Fit.find); (case s => tm_at "sSelC"); (case t => tm_at "fit")) | ((with_reducible apply rest_back2); (case s => tm_at "sSel"); (case hk => assumption); (case hl => assumption); (case hn => assumption); (case f => tm_at "fit")))))
local macro_rules | `(tactic| tm_at "fit") => `(tactic| (guard_target = Fit _ (RestP _ _ _ [] :: _); (first | ((with_reducible apply Fit.find); (case s => tm_at "sSelC"); (case t => tm_at "fit")) | ((with_reducible apply rest_want); (case hk => assumption); (case f => tm_at "fit")) | ((with_reducible apply rest_back3); (case s => tm_at "sSel"); (case hk => assumption); (case hl => assumption); (case hn => assumption); (case f => tm_at "fit")) | ((with_reducible apply rest_back); (case s => tm_at "sSel"); (case hk => assumption); (case f => tm_at "fit")))))
theorem lcend_ent {T : List (Addr × Str)} {D : Addr} {y : V} {L L' : List SA} {N : List SA → Prop} (t : Ent T L L') (h : LcEnd T D y L' N) : LcEnd T D y L N := fun H hs => h H (t H hs)
theorem go_rep3' {T : List (Addr × Str)} {X : Cx} {p : Addr} {x : V} {L R' : List SA} {K : GK} (s : Sel L (pt p (.lst [x])) R') (k : ∀ r, K (.ref r) (pt r (.lst (l3 fun _ => x)) :: L)) : GOp T X (binaryOp .Mult) (.ref p) (.int 3) L K := by
  refine go_rep s (by decide) (by decide) ?_ fun r => k r
  show 1 * 3 ≤ sizeLine
  rw [sizeLine_eq]; omega
section
variable {T : List (Addr × Str)} {P : Program} {w : World} {Kf : PySem.W.Frag} {mg : Str → Option Value} {base : Heap} {f : Addr} {fd : FuncData}
def MkC (Kf : PySem.W.Frag) (D : Addr) (as : List Addr) : SA := fun h => Pcs (pt D (.lst (as.map V.ref)) :: as.map fun a => CopyP Kf a ⟨[], 0, 0⟩) h
theorem pcs_pt1 {a : Addr} {o : HO} {h : Hp} (n : NoTbl o) (e : pt a o h) : Pcs [pt a o] h := ⟨[one a o], .cons one_same .nil, by simp, fun g hg => by
  have hg : g = one a o := by simpa using hg
  subst hg
  intro b u e2
  obtain ⟨rfl, rfl⟩ := one_of e2
  exact ⟨e, n⟩⟩
theorem mkC_out {D a d r : Addr} {as : List Addr} {L : List SA} : Ent T (cpP Kf a d r ⟨[], 0, 0⟩ (MkC Kf D as :: L)) (pt D (.lst (as.map V.ref)) :: ((as.map fun a => CopyP Kf a ⟨[], 0, 0⟩) ++ (CopyP Kf a ⟨[], 0, 0⟩ :: L))) :=
  Ent.trans (Fit.ent copy_fold) (Ent.trans (Ent.perm (List.Perm.swap _ _ _)) (Ent.unf (L1 := pt D (.lst (as.map V.ref)) :: as.map fun a => CopyP Kf a ⟨[], 0, 0⟩)))
theorem mkC_in {D a : Addr} {as : List Addr} {L : List SA} : Ent T (pt D (.lst (as.map V.ref ++ [.ref a])) :: ((as.map fun a => CopyP Kf a ⟨[], 0, 0⟩) ++ (CopyP Kf a ⟨[], 0, 0⟩ :: L))) (MkC Kf D (as ++ [a]) :: L) := by
  have e : (pt D (.lst (as.map V.ref ++ [.ref a])) :: ((as.map fun a => CopyP Kf a ⟨[], 0, 0⟩) ++ (CopyP Kf a ⟨[], 0, 0⟩ :: L))) = (pt D (.lst ((as ++ [a]).map V.ref)) :: (as ++ [a]).map fun a => CopyP Kf a ⟨[], 0, 0⟩) ++ L := by simp
  rw [e]
  exact Ent.fold
def cI (i : Nat) : Nat → Cp := fun j => ⟨[], 0, if j < i then 1 else 0⟩
theorem cI_succ {i : Nat} : cI (i + 1) = fset (cI i) i ⟨[], 0, 1⟩ := by
  funext j
  unfold cI
  by_cases h : j = i
  · subst h; rw [fset_same, if_pos (by omega)]
  · rw [fset_ne h]
    by_cases q : j < i
    · rw [if_pos q, if_pos (by omega)]
    · rw [if_neg q, if_neg (by omega)]
def a3 (x y z : Addr) : Nat → Addr
  | 0 => x
  | 1 => y
  | _ => z
theorem mkC_3 {D x y z : Addr} {L : List SA} : Ent T (MkC Kf D [x, y, z] :: L) (pt D (.lst (l3 fun i => .ref (a3 x y z i))) :: RestP Kf (a3 x y z) (cI 0) [] :: L) :=
  Ent.trans (Ent.unf (L1 := pt D (.lst ([x, y, z].map V.ref)) :: [x, y, z].map fun a => CopyP Kf a ⟨[], 0, 0⟩)) (Fit.ent (Fit.tl (fun H h => Pcs.fold (L1 := [CopyP Kf x ⟨[], 0, 0⟩, CopyP Kf y ⟨[], 0, 0⟩, CopyP Kf z ⟨[], 0, 0⟩]) h)))
def spCsI (Kf : PySem.W.Frag) : SpL := fun vs L K kx => ∃ (o d : Addr) (least : Int) (R : List SA), vs = [.ref o, .int 3, .int least] ∧ L = pt o (.ins (He.ga Kf "Copies") d []) :: R ∧ ∀ a, K .non (CpsR Kf o a (S0 least) :: R)
theorem ok_csi (fx : Fx Kf mg) (gC : mg "Copy" = some (.ref (He.ga Kf "Copy"))) (hci : MkAt T P w Kf mg base 1 "Copy" (spCI Kf)) (F : FunD Kf "__init__" "Copies.__init__" (defArgs s_Copies__init) (defBody s_Copies__init) (defScope s_Copies__init) [] [] f fd) : FnOk P w Kf mg base (L2.CX P w) 3 f fd ["self", "many", "least"] (spOf T (spCsI Kf)) := by
  refine def_in F sc_Copies__init (fun vs L K kx h => ?_) (fun A outer s H E hr n vs L KK kx h hx σ hσ => ?_)
  · obtain ⟨o, d, least, R, rfl, _⟩ := h; rfl
  · obtain ⟨o, d, least, R, rfl, rfl, k1⟩ := h
    obtain rfl : σ = [some (.ref o), some (.int 3), some (.int least), none, none] := hσ
    cases fx
    refine gss_cons ?_
    tm_at "go"
    refine ge_lcN ow0_Copies__init rfl n.ndN (blkOk_by (N := n_Copies__init) (sc := defScope s_Copies__init) (by decide +kernel)) (by tm_at "sWp") (n.gl (by tm_at "sKd")) (by assumption) rfl (fun _ => rfl) ?_
    tm_at "go"
    refine ⟨by decide, by decide, lcgo (MkC Kf) (fun i as => as.length = i) [] rfl (fun D h e => ?_) ?_ ?_⟩
    · exact pcs_pt1 (fun _ => nofun) e
    · rintro D i x Lx as hi ⟨rfl, rfl⟩ e s' H' C cl fp
      simp only [List.nil_append]
      refine gg_blk (kc := kc0_Copies__init) n rfl (by decide) fun nb => ?_
      tm_at "go"
      intro s' H' C cl fp
      refine gts_blk (kc := kc0_Copies__init) n rfl (by decide) fun nb => ?_
      tm_at "go"
      intro s' H' C cl fp
      refine ge_blk (kc := kc0_Copies__init) n rfl (by decide) fun nb => ?_
      refine ge_make0 hci (by tm_at "sRoom") (by tm_at "sXok") (nb.gl (by tm_at "sKd")) rfl fun a d => ?_
      refine ⟨a, d, _, rfl, rfl, fun r => ⟨rfl, ?_⟩⟩
      refine lcend_ent (L' := pt D (.lst (as.map V.ref)) :: ((as.map fun a => CopyP Kf a ⟨[], 0, 0⟩) ++ (CopyP Kf a ⟨[], 0, 0⟩ :: _))) (mkC_out) (lcend_pt .here ?_ ⟨as ++ [a], by simp [e], mkC_in⟩)
      rw [List.length_map, sizeLine_eq, e]
      have : i < 3 := hi
      omega
    · intro D as e
      obtain ⟨x, y, z, rfl⟩ : ∃ x y z, as = [x, y, z] := by
        rcases as with _ | ⟨x, _ | ⟨y, _ | ⟨z, _ | ⟨u, t⟩⟩⟩⟩
        · cases e
        · cases e
        · cases e
        · exact ⟨x, y, z, rfl⟩
        · simp at e
      refine GE.ent (mkC_3 (x := x) (y := y) (z := z)) ?_
      tm_at "go"
      refine go_rep3' (by tm_at "sSel") fun p1 => ?_
      tm_at "go"
      intro r
      tm_at "go"
      refine gc_listRng rfl (by tm_at "sSel") (by decide) (by decide) (by decide) (by decide) (by decide) (by rw [sizeLine_eq]; decide) fun p2 => ?_
      rw [show rngL 0 3 = [0, 1, 2] from by decide]
      tm_at "go"
      refine go_rep3' (by tm_at "sSel") fun p3 => ?_
      tm_at "go"
      refine go_rep3' (by tm_at "sSel") fun p4 => ?_
      tm_at "go"
      refine GS.ent (L' := cpsF Kf o (a3 x y z) d D p1 p2 p3 p4 { S0 least with c := cI 0 } (.int 0) R) (by tm_at "ent") ?_
      refine gs_forL (fun i σ' L' => ∃ w, σ' = [some (.ref o), some (.int 3), some (.int least), w, none] ∧ L' = cpsF Kf o (a3 x y z) d D p1 p2 p3 p4 { S0 least with c := cI i } (.int 0) R) D (l3 fun i => .ref (a3 x y z i)) (passes_of rfl) rfl (fun _ => rfl) ?_ ?_ ?_ ?_
      · tm_at "go"
        exact ⟨rfl, _, rfl, rfl⟩
      · rintro i σ' L' ⟨w, rfl, rfl⟩
        exact ⟨_, by tm_at "sSel"⟩
      · rintro i v σ' L' hi ⟨w, rfl, rfl⟩
        obtain ⟨hi3, rfl⟩ : i < 3 ∧ v = .ref (a3 x y z i) := by
          rcases i with _ | _ | _ | i
          · cases hi; exact ⟨by omega, rfl⟩
          · cases hi; exact ⟨by omega, rfl⟩
          · cases hi; exact ⟨by omega, rfl⟩
          · cases hi
        tm_at "gs"
        refine foc_in hi3 (by tm_at "sSel") fun dx r => ?_
        tm_at "go"
        tm_at "fits"
        · exact ⟨_, rfl, rfl⟩
        · show Ent T _ (cpsF Kf o (a3 x y z) d D p1 p2 p3 p4 { S0 least with c := cI (i + 1) } (.int 0) R)
          rw [cI_succ]
          tm_at "ent"
      · rintro σ' L' ⟨w, rfl, rfl⟩
        refine gss_nil ?_
        show Clo T _ (cpsF Kf o (a3 x y z) d D p1 p2 p3 p4 (S0 least) (.int 0) R)
        apply Clo.mk (k1 (a3 x y z))
        tm_at "ent"
end
end K04
set_option Elab.async false
set_option linter.all false
set_option maxRecDepth 100000
set_option maxHeartbeats 1600000
set_option pp.deepTerms false
set_option pp.deepTerms.threshold 10
set_option pp.maxSteps 500
namespace K04
open PySem PySem.Spec L2 SW
open PyProof.Rows hiding St
local macro_rules | `(tactic| tm_at "sAt") => `(tactic| with_reducible (first | exact At.here | (apply At.there; tm_at "sAt")))
local macro_rules | `(tactic| tm_at "sSlot") => `(tactic| with_reducible (first | exact Slot.here | (apply Slot.there; tm_at "sSlot")))
local macro_rules | `(tactic| tm_at "sKd") => `(tactic| with_reducible (first | exact Kd.here | (apply Kd.there; tm_at "sKd")))
local macro_rules | `(tactic| tm_at "sSel") => `(tactic| with_reducible (first | exact Sel.here | (apply Sel.there; tm_at "sSel")))
local macro_rules | `(tactic| tm_at "sRpl") => `(tactic| with_reducible (first | exact Rpl.here | (apply Rpl.there; tm_at "sRpl")))
local macro_rules | `(tactic| tm_at "sTk") => `(tactic| (first | exact Tk.nil | (apply Tk.cons; (tm_at "sSel"); (tm_at "sTk"))))
local macro_rules | `(tactic| tm_at "sVk") => `(tactic| first
  | exact Vk.l
  | exact Vk.c
  | exact Vk.f)
local macro_rules | `(tactic| tm_at "sLk") => `(tactic| first
  | exact Lk.l
  | exact Lk.c)
local macro_rules | `(tactic| tm_at "sLf") => `(tactic| first
  | exact Or.inl rfl
  | exact Or.inr rfl)
local macro_rules | `(tactic| tm_at "sRoom") => `(tactic| first
  | assumption
  | exact L2.Room.mono (by assumption) (by decide))
local macro_rules | `(tactic| tm_at "sXok") => `(tactic| first
  | assumption
  | exact xok0)
local macro_rules | `(tactic| tm_at "sCv") => `(tactic| (first | with_reducible exact Cv.id | with_reducible exact Cv.lst0 | ((with_reducible refine Cv.pt ?_); tm_at "sEq") | ((with_reducible refine Cv.lst ?_); tm_at "sEq") | ((with_reducible refine Cv.val ?_); tm_at "sEq")))
local macro_rules | `(tactic| tm_at "sEq") => `(tactic| (first | rfl | assumption | (simp; done)))
local macro_rules | `(tactic| tm_at "sSelC") => `(tactic| (first | ((with_reducible apply SelC.here); tm_at "sCv") | ((with_reducible apply SelC.there); tm_at "sSelC")))
local macro_rules | `(tactic| tm_at "fit") => `(tactic| (first | with_reducible exact Fit.refl | with_reducible exact Fit.nil | ((with_reducible apply Fit.find); (case s => tm_at "sSelC"); (case t => tm_at "fit")) | ((with_reducible apply Fit.drop); tm_at "fit")))
local macro_rules | `(tactic| tm_at "sLkF") => `(tactic| with_reducible (first | exact LkF.here | (apply LkF.there (by with_unfolding_all rfl); tm_at "sLkF")))
local macro_rules | `(tactic| tm_at "sNoF") => `(tactic| with_reducible (first | exact NoF.nil | (apply NoF.cons (by with_unfolding_all rfl); tm_at "sNoF")))
local macro_rules | `(tactic| tm_at "sPutF") => `(tactic| with_reducible (first | exact PutF.here | exact PutF.nil | (apply PutF.there (by with_unfolding_all rfl); tm_at "sPutF")))
local macro_rules | `(tactic| tm_at "sHasL") => `(tactic| (first | exact hasL_pt (by tm_at "sSel") | exact hasL_R (by tm_at "sSel")))
local macro_rules | `(tactic| tm_at "sZ") => `(tactic| (first | assumption | (simp only [List.length_cons, List.length_nil, List.length_append, PySem.sizeLine_eq]; omega) | (rw [PySem.sizeLine_eq]; simp; done)))
local macro_rules | `(tactic| tm_at "sIx") => `(tactic| with_unfolding_all rfl)
local macro_rules | `(tactic| tm_at "sSet") => `(tactic| (first | exact SetR.here | (apply SetR.there; tm_at "sSet")))
local macro_rules | `(tactic| tm_at "sPut") => `(tactic| first
  | exact PutAt.c 0 (by with_unfolding_all rfl) (by tm_at "sSet")
  | exact PutAt.c 1 (by with_unfolding_all rfl) (by tm_at "sSet")
  | exact PutAt.c 2 (by with_unfolding_all rfl) (by tm_at "sSet")
  | exact PutAt.c 3 (by with_unfolding_all rfl) (by tm_at "sSet")
  | exact PutAt.c 4 (by with_unfolding_all rfl) (by tm_at "sSet")
  | exact PutAt.c 5 (by with_unfolding_all rfl) (by tm_at "sSet"))
local macro_rules | `(tactic| tm_at "gECall") => `(tactic| first
  | ((guard_target = GE _ _ (Expr.Call (Expr.Name "len" _) _ _ _) _ _ _); (with_reducible refine gb_len (by assumption) (by tm_at "sKd") ?hm ?he ?hpl ?_); (case hm => assumption); (case he => rfl); (case hpl => rfl))
  | ((guard_target = GE _ _ (Expr.Call (Expr.Name "int" _) _ _ _) _ _ _); (with_reducible refine gb_int (by assumption) (by tm_at "sKd") ?hm ?he ?hpl ?_); (case hm => assumption); (case he => rfl); (case hpl => rfl))
  | ((guard_target = GE _ _ (Expr.Call (Expr.Name "str" _) _ _ _) _ _ _); (with_reducible refine gb_str (by assumption) (by tm_at "sKd") ?hm ?he ?hpl ?_); (case hm => assumption); (case he => rfl); (case hpl => rfl))
  | ((guard_target = GE _ _ (Expr.Call (Expr.Name "list" _) _ _ _) _ _ _); (with_reducible refine gb_list (by assumption) (by tm_at "sKd") ?hm ?he ?hpl ?_); (case hm => assumption); (case he => rfl); (case hpl => rfl))
  | ((guard_target = GE _ _ (Expr.Call (Expr.Name "tuple" _) _ _ _) _ _ _); (with_reducible refine gb_tuple (by assumption) (by tm_at "sKd") ?hm ?he ?hpl ?_); (case hm => assumption); (case he => rfl); (case hpl => rfl))
  | ((guard_target = GE _ _ (Expr.Call (Expr.Name "min" _) _ _ _) _ _ _); (with_reducible refine gb_min (by assumption) (by tm_at "sKd") ?hm ?he ?hpl ?_); (case hm => assumption); (case he => rfl); (case hpl => rfl))
  | ((guard_target = GE _ _ (Expr.Call (Expr.Name "max" _) _ _ _) _ _ _); (with_reducible refine gb_max (by assumption) (by tm_at "sKd") ?hm ?he ?hpl ?_); (case hm => assumption); (case he => rfl); (case hpl => rfl))
  | ((guard_target = GE _ _ (Expr.Call (Expr.Name "sum" _) _ _ _) _ _ _); (with_reducible refine gb_sum (by assumption) (by tm_at "sKd") ?hm ?he ?hpl ?_); (case hm => assumption); (case he => rfl); (case hpl => rfl))
  | ((guard_target = GE _ _ (Expr.Call (Expr.Name "sorted" _) _ _ _) _ _ _); (with_reducible refine gb_sorted (by assumption) (by tm_at "sKd") ?hm ?he ?hpl ?_); (case hm => assumption); (case he => rfl); (case hpl => rfl))
  | ((guard_target = GE _ _ (Expr.Call (Expr.Name "abs" _) _ _ _) _ _ _); (with_reducible refine gb_abs (by assumption) (by tm_at "sKd") ?hm ?he ?hpl ?_); (case hm => assumption); (case he => rfl); (case hpl => rfl))
  | ((guard_target = GE _ _ (Expr.Call (Expr.Name "range" _) _ _ _) _ _ _); (with_reducible refine gb_range (by assumption) (by tm_at "sKd") ?hm ?he ?hpl ?_); (case hm => assumption); (case he => rfl); (case hpl => rfl))
  | ((guard_target = GE _ _ (Expr.Call (Expr.Name "any" _) _ _ _) _ _ _); (with_reducible refine gb_any (by assumption) (by tm_at "sKd") ?hm ?he ?hpl ?_); (case hm => assumption); (case he => rfl); (case hpl => rfl))
  | ((guard_target = GE _ _ (Expr.Call (Expr.Name "all" _) _ _ _) _ _ _); (with_reducible refine gb_all (by assumption) (by tm_at "sKd") ?hm ?he ?hpl ?_); (case hm => assumption); (case he => rfl); (case hpl => rfl))
  | ((guard_target = GE _ _ (Expr.Call (Expr.Name "dict" _) _ _ _) _ _ _); (with_reducible refine gb_dict (by assumption) (by tm_at "sKd") ?hm ?he ?hpl ?_); (case hm => assumption); (case he => rfl); (case hpl => rfl))
  | ((guard_target = GE _ _ (Expr.Call (Expr.Name "set" _) _ _ _) _ _ _); (with_reducible refine gb_set (by assumption) (by tm_at "sKd") ?hm ?he ?hpl ?_); (case hm => assumption); (case he => rfl); (case hpl => rfl)))
local macro_rules | `(tactic| tm_at "gECall") => `(tactic| (guard_target = GE _ _ (Expr.Call (Expr.Name "_law_roll" _) (_ :: _) [] _) _ _ _; (refine ge_call (FnAt.e (x := "_law_roll") (by assumption)) (by tm_at "sRoom") (by tm_at "sXok") (Nm.gl (by assumption) (by tm_at "sKd")) ?hdb ?he ?hpl ?_); (case hdb => rfl); (case he => rfl); (case hpl => rfl)))
local macro_rules | `(tactic| tm_at "gECall") => `(tactic| (guard_target = GE _ _ (Expr.Call (Expr.Name "_law_dice" _) (_ :: _) [] _) _ _ _; (refine ge_call (FnAt.e (x := "_law_dice") (by assumption)) (by tm_at "sRoom") (by tm_at "sXok") (Nm.gl (by assumption) (by tm_at "sKd")) ?hdb ?he ?hpl ?_); (case hdb => rfl); (case he => rfl); (case hpl => rfl)))
local macro_rules | `(tactic| tm_at "gECall") => `(tactic| (guard_target = GE _ _ (Expr.Call (Expr.Name "_law_rounds" _) (_ :: _) [] _) _ _ _; (refine ge_call (FnAt.e (x := "_law_rounds") (by assumption)) (by tm_at "sRoom") (by tm_at "sXok") (Nm.gl (by assumption) (by tm_at "sKd")) ?hdb ?he ?hpl ?_); (case hdb => rfl); (case he => rfl); (case hpl => rfl)))
local macro_rules | `(tactic| tm_at "gECall") => `(tactic| (guard_target = GE _ _ (Expr.Call (Expr.Name "_law_deed" _) (_ :: _) [] _) _ _ _; (refine ge_call (FnAt.e (x := "_law_deed") (by assumption)) (by tm_at "sRoom") (by tm_at "sXok") (Nm.gl (by assumption) (by tm_at "sKd")) ?hdb ?he ?hpl ?_); (case hdb => rfl); (case he => rfl); (case hpl => rfl)))
local macro_rules | `(tactic| tm_at "gE") => `(tactic| first
  | ((guard_target = GE _ _ (Expr.Name _ _) _ _ _); (with_reducible refine ge_name (by assumption) (by tm_at "sAt") (by tm_at "sKd") (by tm_at "sVk") rfl ?_))
  | ((guard_target = GE _ _ (Expr.Constant (Const.int _) _ _) _ _ _); (with_reducible refine ge_int ?_))
  | ((guard_target = GE _ _ (Expr.Attribute _ _ _) _ _ _); (with_reducible refine ge_fld ?hb ?_); (case hb => rfl))
  | ((guard_target = GE _ _ (Expr.Subscript _ (Expr.Slice _ _ none _) _) _ _ _); (with_reducible refine ge_slice ?_))
  | ((guard_target = GE _ _ (Expr.Call (Expr.Attribute _ _ _) _ _ _) _ _ _); tm_at "gEMeth")
  | ((guard_target = GE _ _ (Expr.Subscript _ _ _) _ _ _); (with_reducible refine ge_sub ?hs ?_); (case hs => exact fun _ _ => rfl))
  | ((guard_target = GE _ _ (Expr.BinOp _ _ _ _) _ _ _); (with_reducible refine ge_bin ?_))
  | ((guard_target = GE _ _ (Expr.Constant (Const.str _) _ _) _ _ _); (with_reducible refine ge_str ?_))
  | ((guard_target = GE _ _ (Expr.Call (Expr.Name _ _) _ _ _) _ _ _); tm_at "gECall")
  | ((guard_target = GE _ _ (Expr.List _ _) _ _ _); (with_reducible refine ge_lst ?_))
  | ((guard_target = GE _ _ (Expr.Tuple _ _ _) _ _ _); (with_reducible refine ge_tup ?_))
  | ((guard_target = GE _ _ (Expr.Constant Const.none _ _) _ _ _); (with_reducible refine ge_none ?_))
  | ((guard_target = GE _ _ (Expr.Constant (Const.bool _) _ _) _ _ _); (with_reducible refine ge_bl ?_))
  | ((guard_target = GE _ _ (Expr.Compare _ [_] [_] _) _ _ _); (with_reducible refine ge_cmp ?hm ?_); (case hm => first | exact nomark _ | rfl))
  | ((guard_target = GE _ _ (Expr.UnaryOp UnaryOp.Not _ _) _ _ _); (with_reducible refine ge_not ?_))
  | ((guard_target = GE _ _ (Expr.UnaryOp _ _ _) _ _ _); (with_reducible refine ge_un ?_))
  | ((guard_target = GE _ _ (Expr.IfExp _ _ _ _) _ _ _); (with_reducible refine ge_if ?_))
  | ((guard_target = GE _ _ (Expr.Compare _ [_, _] [_, _] _) _ _ _); (with_reducible refine ge_chain ?hm ?_); (case hm => with_unfolding_all rfl))
  | ((guard_target = GE _ _ (Expr.BoolOp _ [_] _) _ _ _); (with_reducible refine ge_one ?_))
  | ((guard_target = GE _ _ (Expr.BoolOp BoolOp.And _ _) _ _ _); (with_reducible refine ge_and ?_))
  | ((guard_target = GE _ _ (Expr.BoolOp BoolOp.Or _ _) _ _ _); (with_reducible refine ge_or ?_)))
local macro_rules | `(tactic| tm_at "gEMeth") => `(tactic| first
  | ((guard_target = GE _ _ (Expr.Call (Expr.Attribute _ "append" _) [_] [] _) _ _ _); (with_reducible refine ge_append ?h1 ?h2 ?h3 ?h4 ?h5 ?_); (case h1 => rfl); (case h2 => rfl); (case h3 => rfl); (case h4 => rfl); (case h5 => rfl))
  | ((guard_target = GE _ _ (Expr.Call (Expr.Attribute _ "extend" _) [_] [] _) _ _ _); (with_reducible refine ge_extend ?h1 ?h2 ?h3 ?h4 ?h5 ?_); (case h1 => rfl); (case h2 => rfl); (case h3 => rfl); (case h4 => rfl); (case h5 => rfl))
  | ((guard_target = GE _ _ (Expr.Call (Expr.Attribute _ "remove" _) [_] [] _) _ _ _); (with_reducible refine ge_remove ?h1 ?h2 ?h3 ?h4 ?h5 ?_); (case h1 => rfl); (case h2 => rfl); (case h3 => rfl); (case h4 => rfl); (case h5 => rfl))
  | ((guard_target = GE _ _ (Expr.Call (Expr.Attribute _ "pop" _) [_] [] _) _ _ _); (with_reducible refine ge_popAt ?h1 ?h2 ?h3 ?h4 ?h5 ?_); (case h1 => rfl); (case h2 => rfl); (case h3 => rfl); (case h4 => rfl); (case h5 => rfl)))
local macro_rules | `(tactic| tm_at "gT") => `(tactic| first
  | ((guard_target = GT _ _ (Expr.Compare _ [_] [_] _) _ _ _); (with_reducible refine gt_cmp ?hm ?_); (case hm => first | exact nomark _ | rfl))
  | ((guard_target = GT _ _ (Expr.UnaryOp UnaryOp.Not _ _) _ _ _); (with_reducible refine gt_not ?_))
  | ((guard_target = GT _ _ (Expr.BoolOp _ _ _) _ _ _); (with_reducible refine gt_bool ?_))
  | ((guard_target = GT _ _ (Expr.Compare _ [_, _] [_, _] _) _ _ _); (with_reducible refine gt_chain ?hm ?_); (case hm => with_unfolding_all rfl))
  | ((guard_target = GT _ _ (Expr.Call _ _ _ _) _ _ _); (with_reducible refine gt_val ?he ?_); (case he => intro _; rfl))
  | ((guard_target = GT _ _ (Expr.Subscript _ _ _) _ _ _); (with_reducible refine gt_val ?he ?_); (case he => intro _; rfl))
  | ((guard_target = GT _ _ (Expr.Name _ _) _ _ _); (with_reducible refine gt_val ?he ?_); (case he => intro _; rfl))
  | ((guard_target = GT _ _ (Expr.Attribute _ _ _) _ _ _); (with_reducible refine gt_val ?he ?_); (case he => intro _; rfl)))
local macro_rules | `(tactic| tm_at "gB") => `(tactic| first
  | ((guard_target = GB _ _ (Expr.BoolOp BoolOp.And [_] _) _ _ _); (with_reducible refine gb_and1 ?_))
  | ((guard_target = GB _ _ (Expr.BoolOp BoolOp.Or [_] _) _ _ _); (with_reducible refine gb_or1 ?_))
  | ((guard_target = GB _ _ (Expr.BoolOp BoolOp.And _ _) _ _ _); (with_reducible refine gb_and ?_))
  | ((guard_target = GB _ _ (Expr.BoolOp BoolOp.Or _ _) _ _ _); (with_reducible refine gb_or ?_)))
local macro_rules | `(tactic| tm_at "gA") => `(tactic| first
  | ((guard_target = GA _ _ ([]) _ _ _); (with_reducible refine ga_nil ?_))
  | ((guard_target = GA _ _ (_ :: _) _ _ _); (with_reducible refine ga_cons ?hst ?_); (case hst => rfl)))
local macro_rules | `(tactic| tm_at "gOp") => `(tactic| first
  | ((guard_target = GOp _ _ (binaryOp Operator.Add) (V.int _) (V.int _) _ _); (with_reducible refine go_add ?_))
  | ((guard_target = GOp _ _ (binaryOp Operator.Sub) (V.int _) (V.int _) _ _); (with_reducible refine go_sub ?_))
  | ((guard_target = GOp _ _ (compareOp CmpOp.Eq) (V.int _) (V.int _) _ _); (with_reducible refine go_eqI ?_))
  | ((guard_target = GOp _ _ (compareOp CmpOp.Lt) (V.int _) (V.int _) _ _); (with_reducible refine go_lt ?_))
  | ((guard_target = GOp _ _ (compareOp CmpOp.LtE) (V.int _) (V.int _) _ _); (with_reducible refine go_le ?_))
  | ((guard_target = GOp _ _ (compareOp CmpOp.Gt) (V.int _) (V.int _) _ _); (with_reducible refine go_gt ?_))
  | ((guard_target = GOp _ _ (compareOp CmpOp.GtE) (V.int _) (V.int _) _ _); (with_reducible refine go_ge ?_))
  | ((guard_target = GOp _ _ (compareOp CmpOp.NotEq) (V.int _) (V.int _) _ _); (with_reducible refine go_neI ?_))
  | ((guard_target = GOp _ _ (binaryOp Operator.Mult) (V.int _) (V.int _) _ _); (with_reducible refine go_mul ?c ?_); (case c => first | (left; constructor <;> omega) | (right; constructor <;> omega)))
  | ((guard_target = GOp _ _ (binaryOp Operator.FloorDiv) (V.int _) (V.int _) _ _); (with_reducible refine go_div ?c ?_); (case c => constructor <;> omega))
  | ((guard_target = GOp _ _ (binaryOp Operator.Mod) (V.int _) (V.int _) _ _); (with_reducible refine go_mod ?c ?_); (case c => omega))
  | ((guard_target = GOp _ _ (compareOp CmpOp.Eq) (V.str _) (V.str _) _ _); (with_reducible refine go_eqT ?_))
  | ((guard_target = GOp _ _ (compareOp CmpOp.NotEq) (V.str _) (V.str _) _ _); (with_reducible refine go_neT ?_))
  | ((guard_target = GOp _ _ (compareOp CmpOp.Eq) (V.bl _) (V.bl _) _ _); (with_reducible refine go_eqB ?_))
  | ((guard_target = GOp _ _ (compareOp CmpOp.NotEq) (V.bl _) (V.bl _) _ _); (with_reducible refine go_neB ?_))
  | ((guard_target = GOp _ _ (compareOp CmpOp.In) (V.int _) (V.ref _) _ _); (with_reducible refine go_inI (by tm_at "sSel") ?_))
  | ((guard_target = GOp _ _ (compareOp CmpOp.NotIn) (V.int _) (V.ref _) _ _); (with_reducible refine go_ninI (by tm_at "sSel") ?_))
  | ((guard_target = GOp _ _ (compareOp CmpOp.In) (V.str _) (V.ref _) _ _); (with_reducible refine go_inT (by tm_at "sSel") ?_))
  | ((guard_target = GOp _ _ (compareOp CmpOp.NotIn) (V.str _) (V.ref _) _ _); (with_reducible refine go_ninT (by tm_at "sSel") ?_))
  | ((guard_target = GOp _ _ (compareOp CmpOp.Eq) (_) (V.non) _ _); (with_reducible refine go_eqS rfl ?_))
  | ((guard_target = GOp _ _ (compareOp CmpOp.NotEq) (_) (V.non) _ _); (with_reducible refine go_neS rfl ?_))
  | ((guard_target = GOp _ _ (compareOp CmpOp.Is) (_) (V.non) _ _); (with_reducible refine go_isN ?_))
  | ((guard_target = GOp _ _ (compareOp CmpOp.IsNot) (_) (V.non) _ _); (with_reducible refine go_notN ?_)))
local macro_rules | `(tactic| tm_at "gC") => `(tactic| first
  | ((guard_target = GC _ _ (Value.type "int") [V.int _] _ _); (with_reducible refine gc_intI ?_))
  | ((guard_target = GC _ _ (Value.type "int") [V.bl _] _ _); (with_reducible refine gc_intB ?_))
  | ((guard_target = GC _ _ (Value.builtin "abs") [V.int _] _ _); (with_reducible refine gc_abs ?_))
  | ((guard_target = GC _ _ (Value.builtin "max") [V.int _, V.int _] _ _); (with_reducible refine gc_max2 ?hc ?_); (case hc => rfl))
  | ((guard_target = GC _ _ (Value.builtin "min") [V.int _, V.int _] _ _); (with_reducible refine gc_min2 ?hc ?_); (case hc => rfl))
  | ((guard_target = GC _ _ (Value.type "range") [V.int _] _ _); (with_reducible refine gc_rng1 ?_))
  | ((guard_target = GC _ _ (Value.type "range") [V.int _, V.int _] _ _); (with_reducible refine gc_rng2 ?_))
  | ((guard_target = GC _ _ (Value.builtin "len") [V.ref _] _ _); (with_reducible refine gc_lenR (by tm_at "sSel") ?_))
  | ((guard_target = GC _ _ (Value.builtin "len") [V.ref _] _ _); (with_reducible refine gc_len (by tm_at "sSel") ?_))
  | ((guard_target = GC _ _ (Value.builtin "len") [V.ref _] _ _); (with_reducible refine gc_lenT (by tm_at "sSel") ?_)))
local macro_rules | `(tactic| tm_at "gF") => `(tactic| first
  | ((guard_target = GF _ _ _ _ _ _); (with_reducible refine gf (by tm_at "sSel") (by tm_at "sLkF") ?hc ?hn ?_); (case hc => assumption); (case hn => assumption))
  | ((guard_target = GFS _ _ _ _ _ _); (with_reducible refine gfs (by tm_at "sRpl") (by tm_at "sPutF") ?hc ?hn ?hz ?_); (case hc => assumption); (case hn => assumption); (case hz => exact Nat.le_of_ble_eq_true rfl))
  | ((guard_target = GFA _ _ _ _ _ _ _ _ _); (with_reducible refine gfa (by tm_at "sSel") (by tm_at "sLkF") ?hc ?hn ?_); (case hc => assumption); (case hn => assumption))
  | ((guard_target = Exists fun _ => Exists fun _ => Exists fun _ => (Rpl _ _ _ _ ∧ _ ∧ _)); (with_reducible refine gfaE (by tm_at "sRpl") (by tm_at "sPutF") ?hz ?_); (case hz => exact Nat.le_of_ble_eq_true rfl))
  | ((guard_target = GAS _ _ _ _ _ _ _ _ _); (with_reducible refine gas (by tm_at "sSel") (by tm_at "sIx") ?_))
  | ((guard_target = (HasL _ _ _ ∧ _)); (with_reducible refine And.intro ?hh ?_); (case hh => tm_at "sHasL"))
  | ((guard_target = (IsIns _ _ _ _ _ ∧ _)); (with_reducible refine And.intro ?hh ?_); (case hh => exact isIns (by tm_at "sSel") (by tm_at "sNoF") (by rfl)))
  | ((guard_target = GApp _ _ _ _ _); (with_reducible refine gapp_pt (by tm_at "sRpl") ?hz ?_); (case hz => tm_at "sZ"))
  | ((guard_target = (List.length _ ≤ PySem.sizeLine ∧ _)); (with_reducible refine And.intro ?hz ?_); (case hz => tm_at "sZ"); intro _)
  | ((guard_target = GIp _ _ Operator.Add (V.int _) (V.int _) _ _); (with_reducible refine gip_add ?_))
  | ((guard_target = GIp _ _ Operator.Sub (V.int _) (V.int _) _ _); (with_reducible refine gip_sub ?_))
  | ((guard_target = GRem _ _ _ _ _); (with_reducible refine grem (by tm_at "sRpl") ?hm ?_); (case hm => assumption))
  | ((guard_target = GO _ _ none _ _ _); (with_reducible refine goN ?_))
  | ((guard_target = GO _ _ (some _) _ _ _); (with_reducible refine goS ?_)))
local macro_rules | `(tactic| tm_at "gIx") => `(tactic| first
  | (with_reducible refine gi_lst (by tm_at "sSel") (by tm_at "sIx") ?_)
  | (with_reducible refine gi_tup (by tm_at "sSel") (by tm_at "sIx") ?_))
local macro_rules | `(tactic| tm_at "gS") => `(tactic| first
  | ((guard_target = GS _ _ (Stmt.Assign [Expr.Name _ _] _ _) _ _ _); (with_reducible refine gs_name (by assumption) (by tm_at "sSlot") (by tm_at "sKd") (by tm_at "sLk") (by tm_at "sLf") ?hsw ?_); (case hsw => rfl))
  | ((guard_target = GS _ _ (Stmt.If _ _ _ _) _ _ _); (with_reducible refine gs_if ?_))
  | ((guard_target = GS _ _ (Stmt.AugAssign (Expr.Name _ _) _ _ _) _ _ _); (with_reducible refine gs_aug (by assumption) (by tm_at "sAt") (by tm_at "sSlot") (by tm_at "sKd") (by tm_at "sLk") (by tm_at "sLf") ?_))
  | ((guard_target = GS _ _ (Stmt.AugAssign (Expr.Attribute _ _ _) _ _ _) _ _ _); (with_reducible refine gs_fldaug ?_))
  | ((guard_target = GS _ _ (Stmt.AugAssign (Expr.Subscript _ _ _) _ _ _) _ _ _); (with_reducible refine gs_augS ?ha ?_); (case ha => intros; rfl))
  | ((guard_target = GS _ _ (Stmt.Return (some _) _) _ _ _); (with_reducible refine gs_ret ?_))
  | ((guard_target = GS _ _ (Stmt.Expr (Expr.Constant _ _ _) _) _ _ _); (with_reducible refine gs_doc ?_))
  | ((guard_target = GS _ _ (Stmt.Expr _ _) _ _ _); (with_reducible refine gs_expr ?hsw ?_); (case hsw => rfl))
  | ((guard_target = GS _ _ (Stmt.Assign [Expr.Attribute _ _ _] _ _) _ _ _); (with_reducible refine gs_fld ?hsw ?_); (case hsw => rfl))
  | ((guard_target = GS _ _ (Stmt.Assign [Expr.Subscript _ _ _] _ _) _ _ _); (with_reducible refine gs_asg ?hsw ?hw ?h1 ?_); (case hsw => rfl); (case hw => rfl); (case h1 => rfl))
  | ((guard_target = GS _ _ (Stmt.Assign [Expr.Tuple _ _ _] _ _) _ _ _); (with_reducible refine gs_asg ?hsw ?hw ?h1 ?_); (case hsw => rfl); (case hw => rfl); (case h1 => rfl))
  | ((guard_target = GS _ _ (Stmt.Return none _) _ _ _); (with_reducible refine gs_retN ?_))
  | ((guard_target = GS _ _ (Stmt.Pass _) _ _ _); (with_reducible refine gs_pass ?_))
  | ((guard_target = GS _ _ (Stmt.Break _) _ _ _); (with_reducible refine gs_break ?_))
  | ((guard_target = GS _ _ (Stmt.Continue _) _ _ _); (with_reducible refine gs_continue ?_)))
local macro_rules | `(tactic| tm_at "gG") => `(tactic| first
  | ((guard_target = GG _ _ (Expr.Name _ _) _ _ _ _); (with_reducible refine gg_name (by assumption) (by tm_at "sSlot") (by tm_at "sKd") (by tm_at "sLk") (by tm_at "sLf") ?_))
  | ((guard_target = GG _ _ (Expr.Subscript _ _ _) _ _ _ _); (with_reducible refine gg_sub ?ha ?_); (case ha => intro _; rfl))
  | ((guard_target = GG _ _ (Expr.Tuple _ _ _) _ _ _ _); (with_reducible refine gg_tup ?hc (by tm_at "sSel") ?hn ?hst ?_); (case hc => rfl); (case hn => rfl); (case hst => rfl)))
local macro_rules | `(tactic| tm_at "g") => `(tactic| first
  | ((guard_target = GE _ _ _ _ _ _); tm_at "gE")
  | ((guard_target = GOp _ _ _ _ _ _ _); tm_at "gOp")
  | ((guard_target = GIx _ _ _ _ _ _); tm_at "gIx")
  | tm_at "gF"
  | ((guard_target = (wipe _ _ = wipe _ _ ∧ _)); refine And.intro rfl ?_)
  | ((guard_target = GGs _ _ [] _ _ _ _); (with_reducible refine ggs_nil ?_))
  | ((guard_target = GGs _ _ (_ :: _) _ _ _ _); (with_reducible refine ggs_cons ?hst ?_); (case hst => rfl))
  | ((guard_target = GTs _ _ [] _ _ _); (with_reducible refine gts_nil ?_))
  | ((guard_target = GTs _ _ [_] _ _ _); (with_reducible refine gts_one ?_))
  | ((guard_target = KB _ _ _); (with_reducible refine KB.mk ?_))
  | ((guard_target = GA _ _ _ _ _ _); tm_at "gA")
  | ((guard_target = GS _ _ _ _ _ _); tm_at "gS")
  | ((guard_target = GSs _ _ (_ :: _) _ _ _); (with_reducible refine gss_cons ?_))
  | ((guard_target = GSs _ _ ([]) _ _ _); (with_reducible refine gss_nil ?_))
  | ((guard_target = GT _ _ _ _ _ _); tm_at "gT")
  | ((guard_target = GB _ _ _ _ _ _); tm_at "gB")
  | ((guard_target = GC _ _ _ _ _ _); tm_at "gC")
  | ((guard_target = GG _ _ _ _ _ _ _); tm_at "gG")
  | ((guard_target = GPutL _ _ _ _ _); (with_reducible refine gput (by tm_at "sRpl") (by tm_at "sPut") ?_))
  | ((guard_target = if true = true then _ else _); (with_reducible refine iteT ?_))
  | ((guard_target = if (!true) = true then _ else _); (with_reducible refine iteNT ?_))
  | ((guard_target = if (!false) = true then _ else _); (with_reducible refine iteNF ?_))
  | ((guard_target = if false = true then _ else _); (with_reducible refine iteF ?_))
  | ((guard_target = Exists _); (with_reducible refine Exists.intro _ (And.intro rfl ?_)))
  | (first | with_reducible refine ite_nI ?_ | with_reducible refine ite_nN ?_ | with_reducible refine ite_nnI ?_ | with_reducible refine ite_nnN ?_ | with_reducible refine ite_nR ?_ | with_reducible refine ite_nnR ?_))
local macro_rules | `(tactic| tm_at "sSetN") => `(tactic| (first | exact SetN.here | (apply SetN.there; tm_at "sSetN")))
local macro_rules | `(tactic| tm_at "sWp") => `(tactic| (first | exact Wp.nil | (apply Wp.cons; (tm_at "sWp"); (tm_at "sSetN"))))
local macro_rules | `(tactic| tm_at "fits") => `(tactic| (first | apply Fits.mk | apply FitL.mk))
local macro_rules | `(tactic| tm_at "ent") => `(tactic| (apply Fit.ent; tm_at "fit"))
local macro_rules | `(tactic| tm_at "go") => `(tactic| repeat (tm_at "g"))
local macro_rules | `(tactic| tm_at "gs") => `(tactic| repeat ((fail_if_success (guard_target = GSs _ _ (_ :: _) _ _ _)); tm_at "g"))
local macro_rules | `(tactic| tm_at "if") => `(tactic| first
  | (with_reducible refine ite_ndec (fun _ => ?_) (fun _ => ?_))
  | (with_reducible refine ite_dec (fun _ => ?_) (fun _ => ?_))
  | (with_reducible refine ite_nb (fun _ => ?_) (fun _ => ?_))
  | (with_reducible refine ite_b (fun _ => ?_) (fun _ => ?_)))
local macro_rules | `(tactic| tm_at "fit") => `(tactic| (guard_target = Fit _ (CpsR _ _ _ _ :: _); (first | ((with_reducible apply Fit.find); (case s => tm_at "sSelC"); (case t => tm_at "fit")) | ((with_reducible apply cps_want); (case f => tm_at "fit"); (case e => first | rfl | (simp only [vLd]; done) | (simp [raise_ld, vLd, *]; done))))))
local macro_rules | `(tactic| tm_at "fit") => `(tactic| (guard_target = Fit _ (RestP _ _ _ [] :: _); (first | ((with_reducible apply Fit.find); (case s => tm_at "sSelC"); (case t => tm_at "fit")) | ((with_reducible apply rest_want); (case hk => assumption); (case f => tm_at "fit")) | ((with_reducible apply rest_back); (case s => tm_at "sSel"); (case hk => assumption); (case f => tm_at "fit")))))
local macro_rules | `(tactic| tm_at "gEMeth") => `(tactic| (guard_target = GE _ _ (Expr.Call (Expr.Attribute _ "last_mark" _) [] _ _) _ _ _; (refine ge_meth0 (MeAt.e (C := "Copy") (m := "last_mark") (by assumption)) (by tm_at "sRoom") (by tm_at "sXok") ?ht ?_); (case ht => exact ⟨_, rfl⟩)))
local macro_rules | `(tactic| tm_at "gEMeth") => `(tactic| (guard_target = GE _ _ (Expr.Call (Expr.Attribute _ "raise_high" _) [] _ _) _ _ _; (refine ge_meth0 (MeAt.e (C := "Copies") (m := "raise_high") (by assumption)) (by tm_at "sRoom") (by tm_at "sXok") ?ht ?_); (case ht => exact ⟨_, rfl⟩)))
local macro_rules | `(tactic| tm_at "gEMeth") => `(tactic| (guard_target = GE _ _ (Expr.Call (Expr.Attribute _ "sure" _) [] _ _) _ _ _; (refine ge_meth0 (MeAt.e (C := "Copies") (m := "sure") (by assumption)) (by tm_at "sRoom") (by tm_at "sXok") ?ht ?_); (case ht => exact ⟨_, rfl⟩)))
local macro_rules | `(tactic| tm_at "gEMeth") => `(tactic| (guard_target = GE _ _ (Expr.Call (Expr.Attribute _ "alike" _) [] _ _) _ _ _; (refine ge_meth0 (MeAt.e (C := "Copies") (m := "alike") (by assumption)) (by tm_at "sRoom") (by tm_at "sXok") ?ht ?_); (case ht => exact ⟨_, rfl⟩)))
local macro_rules | `(tactic| tm_at "gEMeth") => `(tactic| (guard_target = GE _ _ (Expr.Call (Expr.Attribute _ "turn_end" _) (_ :: _) _ _) _ _ _; (refine ge_meth (MeAt.e (C := "Copy") (m := "turn_end") (by assumption)) (by tm_at "sRoom") (by tm_at "sXok") ?hst ?hpl ?ht ?_); (case hst => rfl); (case hpl => rfl); (case ht => exact ⟨_, rfl⟩)))
local macro_rules | `(tactic| tm_at "gEMeth") => `(tactic| (guard_target = GE _ _ (Expr.Call (Expr.Attribute _ "agree" _) (_ :: _) _ _) _ _ _; (refine ge_meth (MeAt.e (C := "Copies") (m := "agree") (by assumption)) (by tm_at "sRoom") (by tm_at "sXok") ?hst ?hpl ?ht ?_); (case hst => rfl); (case hpl => rfl); (case ht => exact ⟨_, rfl⟩)))
local macro_rules | `(tactic| tm_at "gEMeth") => `(tactic| (guard_target = GE _ _ (Expr.Call (Expr.Attribute _ "give" _) (_ :: _) _ _) _ _ _; (refine ge_meth (MeAt.e (C := "Copies") (m := "give") (by assumption)) (by tm_at "sRoom") (by tm_at "sXok") ?hst ?hpl ?ht ?_); (case hst => rfl); (case hpl => rfl); (case ht => exact ⟨_, rfl⟩)))
local macro_rules | `(tactic| tm_at "gEMeth") => `(tactic| (guard_target = GE _ _ (Expr.Call (Expr.Attribute _ "ask" _) (_ :: _) _ _) _ _ _; (refine ge_meth (MeAt.e (C := "Copies") (m := "ask") (by assumption)) (by tm_at "sRoom") (by tm_at "sXok") ?hst ?hpl ?ht ?_); (case hst => rfl); (case hpl => rfl); (case ht => exact ⟨_, rfl⟩)))
local macro_rules | `(tactic| tm_at "gEMeth") => `(tactic| (guard_target = GE _ _ (Expr.Call (Expr.Attribute _ "down" _) (_ :: _) _ _) _ _ _; (refine ge_meth (MeAt.e (C := "Copies") (m := "down") (by assumption)) (by tm_at "sRoom") (by tm_at "sXok") ?hst ?hpl ?ht ?_); (case hst => rfl); (case hpl => rfl); (case ht => exact ⟨_, rfl⟩)))
local macro_rules | `(tactic| tm_at "gEMeth") => `(tactic| (guard_target = GE _ _ (Expr.Call (Expr.Attribute _ "up_again" _) (_ :: _) _ _) _ _ _; (refine ge_meth (MeAt.e (C := "Copies") (m := "up_again") (by assumption)) (by tm_at "sRoom") (by tm_at "sXok") ?hst ?hpl ?ht ?_); (case hst => rfl); (case hpl => rfl); (case ht => exact ⟨_, rfl⟩)))
local macro_rules | `(tactic| tm_at "gEMeth") => `(tactic| (guard_target = GE _ _ (Expr.Call (Expr.Attribute _ "lead" _) (_ :: _) _ _) _ _ _; (refine ge_meth (MeAt.e (C := "Copies") (m := "lead") (by assumption)) (by tm_at "sRoom") (by tm_at "sXok") ?hst ?hpl ?ht ?_); (case hst => rfl); (case hpl => rfl); (case ht => exact ⟨_, rfl⟩)))
local macro_rules | `(tactic| tm_at "gEMeth") => `(tactic| (guard_target = GE _ _ (Expr.Call (Expr.Attribute _ "give_as" _) (_ :: _) _ _) _ _ _; (refine ge_meth (MeAt.e (C := "Copies") (m := "give_as") (by assumption)) (by tm_at "sRoom") (by tm_at "sXok") ?hst ?hpl ?ht ?_); (case hst => rfl); (case hpl => rfl); (case ht => exact ⟨_, rfl⟩)))
local macro_rules | `(tactic| tm_at "gEMeth") => `(tactic| (guard_target = GE _ _ (Expr.Call (Expr.Attribute _ "lag" _) (_ :: _) _ _) _ _ _; (refine ge_meth (MeAt.e (C := "Copies") (m := "lag") (by assumption)) (by tm_at "sRoom") (by tm_at "sXok") ?hst ?hpl ?ht ?_); (case hst => rfl); (case hpl => rfl); (case ht => exact ⟨_, rfl⟩)))
local macro_rules | `(tactic| tm_at "sIx") => `(tactic| exact at3 (by assumption))
local macro_rules | `(tactic| tm_at "sPut") => `(tactic| (first | exact put3 (g := V.int) (by assumption) | exact put3 (g := V.bl) (by assumption)))
local macro_rules | `(tactic| tm_at "gF") => `(tactic| ((guard_target = (IsIns _ _ _ _ _ ∧ _)); (with_reducible refine And.intro ?hh ?_); (case hh => exact ins_cps (by tm_at "sSel") (fun _ _ _ _ _ _ _ _ => by tm_at "sNoF"))))
local macro_rules | `(tactic| tm_at "fit") => `(tactic| (guard_target = Fit _ (RestP _ _ _ [_] :: _); (first | ((with_reducible apply Fit.find); (case s => tm_at "sSelC"); (case t => tm_at "fit")) | ((with_reducible apply rest_back2); (case s => tm_at "sSel"); (case hk => assumption); (case hl => assumption); (case hn => assumption); (case f => tm_at "fit")))))
local macro_rules | `(tactic| tm_at "fit") => `(tactic| (guard_target = Fit _ (RestP _ _ _ [] :: _); (first | ((with_reducible apply Fit.find); (case s => tm_at "sSelC"); (case t => tm_at "fit")) | ((with_reducible apply rest_want); (case hk => assumption); (case f => tm_at "fit")) | ((with_reducible apply rest_back3); (case s => tm_at "sSel"); (case hk => assumption); (case hl => assumption); (case hn => assumption); (case f => tm_at "fit")) | ((with_reducible apply rest_back); (case s => tm_at "sSel"); (case hk => assumption); (case f => tm_at "fit")))))
section
variable {T : List (Addr × Str)} {P : Program} {w : World} {Kf : PySem.W.Frag} {mg : Str → Option Value} {base : Heap} {f : Addr} {fd : FuncData}
def eqT (rs qs : List Rec) (i : Nat) : List Int := ((List.range i).filter fun (k : Nat) => decide ((rs[k]?).map (fun r => r.1) = (qs[k]?).map (fun r => r.1))).map fun (k : Nat) => (k : Int)
theorem eqT_succ {rs qs : List Rec} {i : Nat} {r q : Rec} (h1 : rs[i]? = some r) (h2 : qs[i]? = some q) : eqT rs qs (i + 1) = eqT rs qs i ++ if r.1 = q.1 then [(i : Int)] else [] := by
  unfold eqT
  rw [List.range_succ, List.filter_append, List.map_append]
  by_cases c : r.1 = q.1 <;> simp [h1, h2, c]
theorem eqT_len {rs qs : List Rec} {i : Nat} : (eqT rs qs i).length ≤ i := by
  unfold eqT
  rw [List.length_map]
  exact Nat.le_trans (List.length_filter_le _ _) (by simp)
theorem cut_n {rs : List Rec} {n : Nat} : SW.cutD rs none (some (n : Int)) = rs.take n := by
  unfold SW.cutD
  rw [HT.sIx_nat]
  show (rs.drop 0).take (min n rs.length - 0) = _
  rw [List.drop_zero, Nat.sub_zero, List.take_eq_take_iff]; omega
def AlikeP (S : CS) : Prop := ∀ i j, i < 3 → j < 3 → ∀ (p : Nat) (r q : Rec), (S.c i).rs[p]? = some r → (S.c j).rs[p]? = some q → r.1 = q.1 → (S.c i).rs.take (p + 1) = (S.c j).rs.take (p + 1)
theorem cut_same {rs qs : List Rec} {m : Int} (h : ∀ (p : Nat) (r q : Rec), rs[p]? = some r → qs[p]? = some q → r.1 = q.1 → rs.take (p + 1) = qs.take (p + 1)) {n : Nat} (hn : n ≤ rs.length) (hn2 : n ≤ qs.length) (hm : m ∈ (-1 : Int) :: eqT rs qs n) : SW.cutD rs none (some (m + 1)) = SW.cutD qs none (some (m + 1)) := by
  rcases List.mem_cons.mp hm with rfl | hm
  · rw [show (-1 : Int) + 1 = ((0 : Nat) : Int) by rfl, cut_n, cut_n]; rfl
  · unfold eqT at hm
    obtain ⟨k, hk, rfl⟩ := List.mem_map.mp hm
    obtain ⟨h1, h2⟩ := List.mem_filter.mp hk
    have hk3 : k < n := by simpa using h1
    have e1 : rs[k]? = some rs[k] := by simp
    have e2 : qs[k]? = some qs[k] := by simp
    rw [show ((k : Int) + 1) = ((k + 1 : Nat) : Int) by push_cast; rfl, cut_n, cut_n]
    refine h k _ _ e1 e2 ?_
    rw [e1, e2] at h2
    simpa using h2
def spAl (Kf : PySem.W.Frag) : SpL := fun vs L K kx => ∃ (o : Addr) (a : Nat → Addr) (S : CS) (R : List SA), vs = [.ref o] ∧ L = CpsR Kf o a S :: R ∧ Wf S ∧ AlikeP S ∧ K (.bl true) (CpsR Kf o a S :: R)
theorem l3_at {f : Nat → V} {i : Nat} {v : V} (h : (l3 f)[i]? = some v) : i < 3 ∧ v = f i := by
  rcases i with _ | _ | _ | i
  · cases h; exact ⟨by omega, rfl⟩
  · cases h; exact ⟨by omega, rfl⟩
  · cases h; exact ⟨by omega, rfl⟩
  · cases h
theorem ok_al (fx : Fx Kf mg) (hlm : MeAt T P w Kf mg base 1 "Copy" "last_mark" (spLM Kf)) (F : FunD Kf "alike" "Copies.alike" (defArgs s_Copies_alike) (defBody s_Copies_alike) (defScope s_Copies_alike) [] [] f fd) : FnOk P w Kf mg base (L2.CX P w) 2 f fd ["self"] (spOf T (spAl Kf)) := by
  refine def_in F sc_Copies_alike (fun vs L K kx h => ?_) (fun A outer s H E hr n vs L KK kx h hx σ hσ => ?_)
  · obtain ⟨o, a, S, R, rfl, _⟩ := h; rfl
  · obtain ⟨o, a, S, R, rfl, rfl, wf, hal, k1⟩ := h
    obtain rfl : σ = [some (.ref o), none, none, none, none, none] := hσ
    cases fx
    refine cps_in (v := vLd S.leader) (by tm_at "sSel") rfl fun dc lc lu lw lk lj => ?_
    refine gss_cons ?_
    tm_at "go"
    refine gs_forL (fun i σ' L' => ∃ u1 u2 u3 u4 u5, σ' = [some (.ref o), u1, u2, u3, u4, u5] ∧ L' = cpsF Kf o a dc lc lu lw lk lj S (vLd S.leader) R) lc (l3 fun i => .ref (a i)) (passes_of rfl) rfl (fun _ => rfl) ?_ ?_ ?_ ?_
    · tm_at "go"
      exact ⟨rfl, _, _, _, _, _, rfl, rfl⟩
    · rintro i σ' L' ⟨u1, u2, u3, u4, u5, rfl, rfl⟩
      exact ⟨_, by tm_at "sSel"⟩
    · rintro i v σ' L' hi ⟨u1, u2, u3, u4, u5, rfl, rfl⟩
      obtain ⟨hi3, rfl⟩ := l3_at hi
      tm_at "go"
      refine gs_forL (fun j σ' L' => ∃ u2 u3 u4 u5, σ' = [some (.ref o), some (.ref (a i)), u2, u3, u4, u5] ∧ L' = cpsF Kf o a dc lc lu lw lk lj S (vLd S.leader) R) lc (l3 fun i => .ref (a i)) (passes_of rfl) rfl (fun _ => rfl) ?_ ?_ ?_ ?_
      · tm_at "go"
        exact ⟨rfl, _, _, _, _, rfl, rfl⟩
      · rintro j σ' L' ⟨u2, u3, u4, u5, rfl, rfl⟩
        exact ⟨_, by tm_at "sSel"⟩
      · rintro j v σ' L' hj ⟨u2, u3, u4, u5, rfl, rfl⟩
        obtain ⟨hj3, rfl⟩ := l3_at hj
        tm_at "gs"
        have hal' := hal i j hi3 hj3
        by_cases hij : i = j
        · subst hij
          refine foc_in hi3 (by tm_at "sSel") fun dk rk => ?_
          tm_at "go"
          refine call_lm (by tm_at "ent") ?_
          tm_at "go"
          refine call_lm (by tm_at "ent") ?_
          tm_at "go"
          rw [show (if ((S.c i).rs.length : Int) < ((S.c i).rs.length : Int) then ((S.c i).rs.length : Int) else ((S.c i).rs.length : Int)) = ((min (S.c i).rs.length (S.c i).rs.length : Nat) : Int) from by split <;> omega]
          have hlen := wf.len i hi3
          refine gu_neg ?_
          tm_at "go"
          refine ge_lcN ow0_Copies_alike rfl n.ndN (blkOk_by (N := n_Copies_alike) (sc := defScope s_Copies_alike) (by decide +kernel)) (by tm_at "sWp") (n.gl (by tm_at "sKd")) (by assumption) rfl (fun _ => rfl) ?_
          tm_at "go"
          refine ⟨by omega, by omega, lcgo (fun D (ys : List Int) => pt D (.lst (ys.map V.int))) (fun m ys => ys = eqT (S.c i).rs (S.c i).rs m) [] rfl (fun _ _ h => h) ?_ ?_⟩
          · rintro D m x Lx ys hm ⟨rfl, rfl⟩ e s' H' C cl fp
            simp only [List.nil_append]
            refine gg_blk (kc := kc0_Copies_alike) n rfl (by decide) fun nb => ?_
            tm_at "go"
            intro s' H' C cl fp
            refine gts_blk (kc := kc0_Copies_alike) n rfl (by decide) fun nb => ?_
            have hm1 : m < (S.c i).rs.length := by rw [Int.toNat_natCast] at hm; omega
            have hm2 : m < (S.c i).rs.length := by rw [Int.toNat_natCast] at hm; omega
            have e1 : (S.c i).rs[m]? = some (S.c i).rs[m] := by simp [hm1]
            have e2 : (S.c i).rs[m]? = some (S.c i).rs[m] := by simp [hm2]
            tm_at "go"
            refine gi_lstR (by tm_at "sSel") e1 fun v1 => ?_
            tm_at "go"
            refine gi_pair cInt cStr (rv_val .here) rfl ?_
            tm_at "go"
            refine gi_lstR (by tm_at "sSel") e2 fun v2 => ?_
            tm_at "go"
            refine gi_pair cInt cStr (rv_val .here) rfl ?_
            tm_at "go"
            tm_at "if"
            · rename_i hc
              intro s' H' C cl fp
              refine ge_blk (kc := kc0_Copies_alike) n rfl (by decide) fun nb => ?_
              tm_at "go"
              refine lcend_pt (by tm_at "sRpl") ?_ ⟨ys ++ [(m : Int)], ?_, ?_⟩
              · have := eqT_len (rs := (S.c i).rs) (qs := (S.c i).rs) (i := m)
                rw [List.length_map, e, sizeLine_eq]; omega
              · show _ = _
                rw [eqT_succ e1 e2, if_pos hc, e]
              · tm_at "ent"
            · rename_i hc
              refine ⟨ys, ?_, ?_⟩
              · show _ = _
                rw [eqT_succ e1 e2, if_neg hc, e, List.append_nil]
              · tm_at "ent"
          · intro D ys e
            rw [Int.toNat_natCast] at e
            refine go_catL (by tm_at "sSel") (by tm_at "sSel") ?_ fun r => ?_
            · have := eqT_len (rs := (S.c i).rs) (qs := (S.c i).rs) (i := min (S.c i).rs.length (S.c i).rs.length)
              rw [List.length_map, e, sizeLine_eq]; simp only [List.length_cons, List.length_nil]; omega
            tm_at "go"
            refine gc_maxL (ns := (-1 : Int) :: ys) rfl .here (by simp) fun mm hmm _ => ?_
            tm_at "go"
            refine gsl_R (by tm_at "sSel") fun q1 => ?_
            tm_at "go"
            refine gsl_R (by tm_at "sSel") fun q2 => ?_
            rw [e] at hmm
            refine go_neE hr (sees_lst (by tm_at "sSel") (by decide)) (sees_lst (by tm_at "sSel") (by decide)) (eqv_lst _ _) ?_
            rw [decide_eq_true (cut_same hal' (Nat.min_le_left _ _) (Nat.min_le_right _ _) hmm), Bool.not_true]
            tm_at "go"
            tm_at "fits"
            · exact ⟨_, _, _, _, rfl, rfl⟩
            · tm_at "ent"
        · have hji : j ≠ i := fun z => hij z.symm
          refine foc_in hi3 (by tm_at "sSel") fun dk rk => ?_
          refine foc_in2 hi3 hj3 hji (by tm_at "sSel") fun dl rl => ?_
          tm_at "go"
          refine call_lm (by tm_at "ent") ?_
          tm_at "go"
          refine call_lm (by tm_at "ent") ?_
          tm_at "go"
          rw [show (if ((S.c j).rs.length : Int) < ((S.c i).rs.length : Int) then ((S.c j).rs.length : Int) else ((S.c i).rs.length : Int)) = ((min (S.c i).rs.length (S.c j).rs.length : Nat) : Int) from by split <;> omega]
          have hlen := wf.len i hi3
          refine gu_neg ?_
          tm_at "go"
          refine ge_lcN ow0_Copies_alike rfl n.ndN (blkOk_by (N := n_Copies_alike) (sc := defScope s_Copies_alike) (by decide +kernel)) (by tm_at "sWp") (n.gl (by tm_at "sKd")) (by assumption) rfl (fun _ => rfl) ?_
          tm_at "go"
          refine ⟨by omega, by omega, lcgo (fun D (ys : List Int) => pt D (.lst (ys.map V.int))) (fun m ys => ys = eqT (S.c i).rs (S.c j).rs m) [] rfl (fun _ _ h => h) ?_ ?_⟩
          · rintro D m x Lx ys hm ⟨rfl, rfl⟩ e s' H' C cl fp
            simp only [List.nil_append]
            refine gg_blk (kc := kc0_Copies_alike) n rfl (by decide) fun nb => ?_
            tm_at "go"
            intro s' H' C cl fp
            refine gts_blk (kc := kc0_Copies_alike) n rfl (by decide) fun nb => ?_
            have hm1 : m < (S.c i).rs.length := by rw [Int.toNat_natCast] at hm; omega
            have hm2 : m < (S.c j).rs.length := by rw [Int.toNat_natCast] at hm; omega
            have e1 : (S.c i).rs[m]? = some (S.c i).rs[m] := by simp [hm1]
            have e2 : (S.c j).rs[m]? = some (S.c j).rs[m] := by simp [hm2]
            tm_at "go"
            refine gi_lstR (by tm_at "sSel") e1 fun v1 => ?_
            tm_at "go"
            refine gi_pair cInt cStr (rv_val .here) rfl ?_
            tm_at "go"
            refine gi_lstR (by tm_at "sSel") e2 fun v2 => ?_
            tm_at "go"
            refine gi_pair cInt cStr (rv_val .here) rfl ?_
            tm_at "go"
            tm_at "if"
            · rename_i hc
              intro s' H' C cl fp
              refine ge_blk (kc := kc0_Copies_alike) n rfl (by decide) fun nb => ?_
              tm_at "go"
              refine lcend_pt (by tm_at "sRpl") ?_ ⟨ys ++ [(m : Int)], ?_, ?_⟩
              · have := eqT_len (rs := (S.c i).rs) (qs := (S.c j).rs) (i := m)
                rw [List.length_map, e, sizeLine_eq]; omega
              · show _ = _
                rw [eqT_succ e1 e2, if_pos hc, e]
              · tm_at "ent"
            · rename_i hc
              refine ⟨ys, ?_, ?_⟩
              · show _ = _
                rw [eqT_succ e1 e2, if_neg hc, e, List.append_nil]
              · tm_at "ent"
          · intro D ys e
            rw [Int.toNat_natCast] at e
            refine go_catL (by tm_at "sSel") (by tm_at "sSel") ?_ fun r => ?_
            · have := eqT_len (rs := (S.c i).rs) (qs := (S.c j).rs) (i := min (S.c i).rs.length (S.c j).rs.length)
              rw [List.length_map, e, sizeLine_eq]; simp only [List.length_cons, List.length_nil]; omega
            tm_at "go"
            refine gc_maxL (ns := (-1 : Int) :: ys) rfl .here (by simp) fun mm hmm _ => ?_
            tm_at "go"
            refine gsl_R (by tm_at "sSel") fun q1 => ?_
            tm_at "go"
            refine gsl_R (by tm_at "sSel") fun q2 => ?_
            rw [e] at hmm
            refine go_neE hr (sees_lst (by tm_at "sSel") (by decide)) (sees_lst (by tm_at "sSel") (by decide)) (eqv_lst _ _) ?_
            rw [decide_eq_true (cut_same hal' (Nat.min_le_left _ _) (Nat.min_le_right _ _) hmm), Bool.not_true]
            tm_at "go"
            tm_at "fits"
            · exact ⟨_, _, _, _, rfl, rfl⟩
            · tm_at "ent"
      · rintro σ' L' ⟨u2, u3, u4, u5, rfl, rfl⟩
        tm_at "go"
        tm_at "fits"
        · exact ⟨_, _, _, _, _, rfl, rfl⟩
        · tm_at "ent"
    · rintro σ' L' ⟨u1, u2, u3, u4, u5, rfl, rfl⟩
      tm_at "go"
      apply Clo.mk k1
      tm_at "ent"
end
end K04
set_option Elab.async false
set_option linter.all false
set_option maxRecDepth 100000
set_option maxHeartbeats 2000000
/-! Sw11: lists of objects; loops whose row is found on the way; joins; the drawn dice. -/
namespace SW
open PySem PySem.Spec L2
open PyProof.Rows hiding St
theorem iteNT {A B : Prop} (h : B) : if (!true) = true then A else B := h
theorem iteNF {A B : Prop} (h : A) : if (!false) = true then A else B := h
theorem Fit.trans {L L1 L2 : List SA} (f : Fit L L1) (g : Fit L1 L2) : Fit L L2 := fun H h => g H (f H h)
theorem Fit.tl {A : SA} {L W : List SA} (f : Fit L W) : Fit (A :: L) (A :: W) := fun H h => h.cons2 Cv.id f
theorem Fit.at1 {A : SA} {L L' R : List SA} (s : Sel L A R) (f : Fit (A :: R) L') : Fit L L' := fun H h => f H (h.perm s.perm)
theorem Fit.of {L W : List SA} (p : L.Perm W) : Fit L W := fun H h => h.perm p
theorem gs_join {T : List (Addr × Str)} {X : Cx} {σ : St} {L : List SA} {D : EndsL} {st : Stmt} (n1 : St → List SA → Prop) (h : GS T X st { D with nx := n1 } σ L) (k : ∀ σ' L', n1 σ' L' → D.nx σ' L') : GS T X st D σ L :=
  fun H hs D0 l => h H hs D0 ⟨fun σ' L' H' q h' => l.nx σ' L' H' (k σ' L' q) h', l.rt, l.bk, l.ct⟩
theorem lcend_ent {T : List (Addr × Str)} {D : Addr} {y : V} {L L' : List SA} {N : List SA → Prop} (t : Ent T L L') (h : LcEnd T D y L' N) : LcEnd T D y L N := fun H hs => h H (t H hs)
theorem pcs_pt1 {a : Addr} {o : HO} {h : Hp} (n : NoTbl o) (e : pt a o h) : Pcs [pt a o] h := ⟨[one a o], .cons one_same .nil, by simp, fun g hg => by
  have hg : g = one a o := by simpa using hg
  subst hg
  intro b u e2
  obtain ⟨rfl, rfl⟩ := one_of e2
  exact ⟨e, n⟩⟩
/-! ### lists of objects -/
/-- the pieces of each -/
def ObS (F : Addr → SA) (as : List Addr) : SA := fun h => Pcs (as.map F) h
/-- a list of references, the pieces of each -/
def ObL (F : Addr → SA) (D : Addr) (as : List Addr) : SA := fun h => Pcs (pt D (.lst (as.map V.ref)) :: as.map F) h
section
variable {T : List (Addr × Str)} {F : Addr → SA} {D a : Addr} {as : List Addr} {L : List SA}
theorem obl_nil {h : Hp} (e : pt D (.lst []) h) : ObL F D [] h := pcs_pt1 (fun _ => nofun) e
theorem obl_out : Ent T (ObL F D as :: L) (pt D (.lst (as.map V.ref)) :: ObS F as :: L) := Ent.trans (Ent.unf (L1 := pt D (.lst (as.map V.ref)) :: as.map F)) (Fit.ent (Fit.tl fun _ h => Pcs.fold h))
theorem obl_in : Ent T (pt D (.lst (as.map V.ref ++ [.ref a])) :: F a :: ObS F as :: L) (ObL F D (as ++ [a]) :: L) := fun H h => by
  have h1 : Hs T (ObS F as :: pt D (.lst (as.map V.ref ++ [.ref a])) :: F a :: L) H := h.perm (List.perm_middle (l₁ := [pt D (.lst (as.map V.ref ++ [.ref a])), F a]) (a := ObS F as) (l₂ := L))
  have h2 : Hs T (as.map F ++ (pt D (.lst (as.map V.ref ++ [.ref a])) :: F a :: L)) H := ⟨h1.tabs, h1.pcs.unf⟩
  have h3 : Hs T (pt D (.lst (as.map V.ref ++ [.ref a])) :: (as.map F ++ (F a :: L))) H := h2.perm List.perm_middle
  have e : pt D (.lst (as.map V.ref ++ [.ref a])) :: (as.map F ++ (F a :: L)) = (pt D (.lst ((as ++ [a]).map V.ref)) :: (as ++ [a]).map F) ++ L := by simp
  rw [e] at h3
  exact ⟨h3.tabs, h3.pcs.fold⟩
theorem obs_cons : Ent T (ObS F (a :: as) :: L) (F a :: ObS F as :: L) := Ent.trans (Ent.unf (L1 := F a :: as.map F)) (Fit.ent (Fit.tl fun _ h => Pcs.fold h))
theorem obs_drop {i : Nat} (h : as[i]? = some a) : Ent T (ObS F (as.drop i) :: L) (F a :: ObS F (as.drop (i + 1)) :: L) := by
  have hi : i < as.length := by
    by_cases c : i < as.length
    · exact c
    · rw [List.getElem?_eq_none (by omega)] at h; cases h
  have e : as.drop i = a :: as.drop (i + 1) := by
    rw [List.drop_eq_getElem_cons hi]
    rw [List.getElem?_eq_getElem hi] at h
    cases h; rfl
  rw [e]
  exact obs_cons
end
/-! ### loops whose row is found on the way -/
section
variable {T : List (Addr × Str)} {X : Cx} {σ : St} {L R' : List SA} {D : EndsL} {tg iter : Expr} {body : List Stmt} {pos : Pos}
theorem gs_forLx (hp : PassesOwn (model X.prog X.w) X.A X.env X.xe) (hc : X.calm = true) (hf : ∀ x, foldedSetIterable iter X.env x = pure x)
    (h0 : GE T X iter σ L fun v L1 => ∃ (l : Addr) (xs : List V) (inv : Nat → St → List SA → Prop), v = .ref l ∧ Fits T (inv 0) σ L1 ∧ (∀ i σ' L', inv i σ' L' → ∃ R, Sel L' (pt l (.lst xs)) R) ∧
      (∀ i x σ' L', xs[i]? = some x → inv i σ' L' → GG T X tg x σ' L' fun σ2 L2 => GSs T X body { D with nx := Fits T (inv (i + 1)), ct := Fits T (inv (i + 1)), bk := D.nx } σ2 L2) ∧
      (∀ σ' L', inv xs.length σ' L' → D.nx σ' L')) : GS T X (.For tg iter body [] pos) D σ L := by
  refine GS.of (ps_for hp hc (pi_list peW) pgW pssW hf) fun H hh D0 le => h0 H hh _ fun v L1 H1 ⟨l, xs, inv, ev, iv, hl, hs, hd⟩ h1 => ?_
  obtain ⟨L1, iv, h1⟩ := fits_hs iv h1
  obtain ⟨R1, s1⟩ := hl _ _ _ iv
  refine ⟨l, ev, ⟨xs, SqL.of (h1.at s1)⟩, wfor (Itl X.K l) xs.length inv (fun σ L H i h => ?_) (fun i σ L H hi iv h => ?_) (fun i σ L H hi iv h x H' y => ?_) hd h1 iv le⟩
  · obtain ⟨R, s⟩ := hl _ _ _ i
    exact ⟨xs, SqL.of (h.at s), Nat.le_refl _⟩
  · obtain ⟨R, s⟩ := hl _ _ _ iv
    exact ⟨xs, xs[i], SqL.of (h.at s), by simp [hi]⟩
  · obtain ⟨R, s⟩ := hl _ _ _ iv
    obtain ⟨e, y⟩ := y
    subst e
    exact ⟨L, h, hs i x σ L (y xs (SqL.of (h.at s))) iv⟩
theorem gs_forRx (hp : PassesOwn (model X.prog X.w) X.A X.env X.xe) (hc : X.calm = true) (hf : ∀ x, foldedSetIterable iter X.env x = pure x)
    (h0 : GE T X iter σ L fun v L1 => ∃ (α : Type) (R : PRep α) (l : Addr) (ds : List α) (inv : Nat → St → List SA → Prop), v = .ref l ∧ Fits T (inv 0) σ L1 ∧ (∀ i σ' L', inv i σ' L' → ∃ R0, Sel L' (LstR R l ds) R0) ∧
      (∀ i d x σ' L', ds[i]? = some d → inv i σ' L' → GG T X tg x σ' (Val R x d :: L') fun σ2 L2 => GSs T X body { D with nx := Fits T (inv (i + 1)), ct := Fits T (inv (i + 1)), bk := D.nx } σ2 L2) ∧
      (∀ σ' L', inv ds.length σ' L' → D.nx σ' L')) : GS T X (.For tg iter body [] pos) D σ L := by
  refine GS.of (ps_for hp hc (pi_list peW) pgW pssW hf) fun H hh D0 le => h0 H hh _ fun v L1 H1 ⟨α, R, l, ds, inv, ev, iv, hl, hs, hd⟩ h1 => ?_
  obtain ⟨L1, iv, h1⟩ := fits_hs iv h1
  have get : ∀ {i σ L H}, inv i σ L → Hs T L H → ∃ xs, H l = some (.lst xs) ∧ A2r R H xs ds := fun {i σ L H} iv h => by
    obtain ⟨R0, s⟩ := hl _ _ _ iv
    exact h.factP (fun g ⟨xs, e, r⟩ sub => ⟨xs, (sub l _ e).1, r.mono sub.tup⟩) s
  obtain ⟨xs1, e1, _⟩ := get iv h1
  refine ⟨l, ev, ⟨xs1, SqL.of e1⟩, wfor (Itl X.K l) ds.length inv (fun σ L H i h => ?_) (fun i σ L H hi iv h => ?_) (fun i σ L H hi iv h x H' y => ?_) hd h1 iv le⟩
  · obtain ⟨xs, e, r⟩ := get i h
    exact ⟨xs, SqL.of e, Nat.le_of_eq r.length⟩
  · obtain ⟨xs, e, r⟩ := get iv h
    have : i < xs.length := by rw [r.length]; exact hi
    exact ⟨xs, xs[i], SqL.of e, by simp [this]⟩
  · obtain ⟨xs, e, r⟩ := get iv h
    obtain ⟨e2, y⟩ := y
    subst e2
    obtain ⟨d, hd', rr⟩ := r.get' (y xs (SqL.of e))
    exact ⟨_, h.addP Val.pers rr, hs i d x σ L hd' iv⟩
theorem gs_forTx (hp : PassesOwn (model X.prog X.w) X.A X.env X.xe) (hc : X.calm = true) (hf : ∀ x, foldedSetIterable iter X.env x = pure x)
    (h0 : GE T X iter σ L fun v L1 => ∃ (α : Type) (R : PRep α) (ds : List α) (inv : Nat → St → List SA → Prop), Fits T (inv 0) σ L1 ∧ (∀ i σ' L', inv i σ' L' → Rv T L' v (rTl R) ds) ∧
      (∀ i d x σ' L', ds[i]? = some d → inv i σ' L' → GG T X tg x σ' (Val R x d :: L') fun σ2 L2 => GSs T X body { D with nx := Fits T (inv (i + 1)), ct := Fits T (inv (i + 1)), bk := D.nx } σ2 L2) ∧
      (∀ σ' L', inv ds.length σ' L' → D.nx σ' L')) : GS T X (.For tg iter body [] pos) D σ L := by
  refine GS.of (ps_for hp hc (pi_tup peW) pgW pssW hf) fun H hh D0 le => h0 H hh _ fun v L1 H1 ⟨α, R, ds, inv, iv, hl, hs, hd⟩ h1 => ?_
  obtain ⟨L1, iv, h1⟩ := fits_hs iv h1
  obtain ⟨l, xs1, ev0, e1, _⟩ := hl _ _ _ iv H1 h1
  subst ev0
  have get : ∀ {i σ L H}, inv i σ L → Hs T L H → ∃ xs, H l = some (.tup xs) ∧ A2r R H xs ds := fun {i σ L H} iv h => by
    obtain ⟨l', xs, ev, e, r⟩ := hl _ _ _ iv H h
    cases ev
    exact ⟨xs, e, r⟩
  refine ⟨l, rfl, ⟨xs1, SqT.of e1⟩, wfor (Itt X.K l) ds.length inv (fun σ L H i h => ?_) (fun i σ L H hi iv h => ?_) (fun i σ L H hi iv h x H' y => ?_) hd h1 iv le⟩
  · obtain ⟨xs, e, r⟩ := get i h
    exact ⟨xs, SqT.of e, Nat.le_of_eq r.length⟩
  · obtain ⟨xs, e, r⟩ := get iv h
    have : i < xs.length := by rw [r.length]; exact hi
    exact ⟨xs, xs[i], SqT.of e, by simp [this]⟩
  · obtain ⟨xs, e, r⟩ := get iv h
    obtain ⟨e2, y⟩ := y
    subst e2
    obtain ⟨d, hd', rr⟩ := r.get' (y xs (SqT.of e))
    exact ⟨_, h.addP Val.pers rr, hs i d x σ L hd' iv⟩
theorem gs_forNx {a : Expr} {p : Pos} (hp : PassesOwn (model X.prog X.w) X.A X.env X.xe) (hc : X.calm = true) (hg : Gl X "range") (hm : X.mg "range" = none)
    (hst : starEach [a] X.env = [(false, eval a X.env)]) (hf : ∀ x, foldedSetIterable (.Call (.Name "range" p) [a] [] pos) X.env x = pure x) {pos2 : Pos}
    (h0 : GA T X [a] σ L fun vs L1 => ∃ (n : Int) (inv : Nat → St → List SA → Prop), vs = [.int n] ∧ -(2 ^ 62) ≤ n ∧ n < 2 ^ 62 ∧ Fits T (inv 0) σ L1 ∧
      (∀ (i : Nat) σ' L', (i : Int) < n → inv i σ' L' → GG T X tg (.int (i : Int)) σ' L' fun σ2 L2 => GSs T X body { D with nx := Fits T (inv (i + 1)), ct := Fits T (inv (i + 1)), bk := D.nx } σ2 L2) ∧
      (∀ σ' L', inv n.toNat σ' L' → D.nx σ' L')) : GS T X (.For tg (.Call (.Name "range" p) [a] [] pos) body [] pos2) D σ L := by
  refine GS.of (ps_for hp hc (pi_range1 hg hm paW hst) pgW pssW hf) fun H hh D0 le => h0 H hh _ fun vs L1 H1 ⟨n, inv, ev, b1, b2, iv, hs, hd⟩ h1 => ?_
  obtain ⟨L1, iv, h1⟩ := fits_hs iv h1
  refine ⟨n, ev, b1, b2, wfor (Itr 0 n.toNat) n.toNat inv (fun σ L H i h => Nat.le_refl _) (fun i σ L H hi iv h => hi) (fun i σ L H hi iv h x H' y => ?_) hd h1 iv le⟩
  obtain ⟨e, y⟩ := y
  subst e
  subst y
  refine ⟨L, h, ?_⟩
  rw [Int.zero_add]
  exact hs i σ L (by omega) iv
end
/-! ### the drawn dice -/
def dcP (d : Addr) : SA := fun h => ∃ q : Int × Int × Int, pt d (.lst [.int q.1, .int q.2.1, .int q.2.2]) h
section
variable {T : List (Addr × Str)} {X : Cx} {σ : St} {L R : List SA} {D : EndsL} {sts : List Stmt} {d : Addr}
theorem dc_in (s : Sel L (dcP d) R) (h : ∀ x y z, GSs T X sts D σ (pt d (.lst [.int x, .int y, .int z]) :: R)) : GSs T X sts D σ L := GSs.via fun H hs => by
  have h1 := (hs.sel s)
  obtain ⟨q, h2⟩ := h1.pcs.ex
  exact ⟨_, ⟨h1.tabs, h2⟩, h q.1 q.2.1 q.2.2⟩
theorem Cv.dc {x y z : Int} : Cv (SW.pt d (.lst [.int x, .int y, .int z])) (dcP d) := fun h e => ⟨(x, y, z), e⟩
end
def spDice : SpL := fun vs L K kx => ∃ (c : Int), vs = [.int c] ∧ ∀ d, K (.ref d) (dcP d :: L)
def spRoll : SpL := fun vs L K kx => ∃ (d : Addr) (m : Int) (R : List SA), vs = [.ref d, .int m] ∧ 0 < m ∧ m < 1073741824 ∧ L = dcP d :: R ∧ ∀ r : Int, 0 ≤ r → r < m → K (.int r) (dcP d :: R)
/-- the script: a list that is read -/
def ScrP (KK : PySem.W.Frag) (a : Addr) (ns : List Int) : SA := fun h => SqL KK h a (ns.map V.int)
theorem rd_sub {h H : Hp} {a : Addr} {o : HO} (s : Sub h H) (r : Rd h a o) : Rd H a o := by
  rcases r with r | ⟨n, r⟩
  · exact .inl (s _ _ r).1
  · exact .inr ⟨n, (s _ _ r).1⟩
theorem scr_sub {KK : PySem.W.Frag} {h H : Hp} {a : Addr} {xs : List V} (s : Sub h H) (r : SqL KK h a xs) : SqL KK H a xs := by
  rcases r with r | r
  · exact .inl (rd_sub s r)
  · exact .inr r
theorem Hs.scr {T : List (Addr × Str)} {KK : PySem.W.Frag} {a : Addr} {ns : List Int} {L R : List SA} {H : Hp} (s : Sel L (ScrP KK a ns) R) (h : Hs T L H) : SqL KK H a (ns.map V.int) := h.factP (fun g e sub => scr_sub sub e) s
theorem pcs_scr {KK : PySem.W.Frag} {a : Addr} {ns : List Int} {H : Hp} (h : SqL KK H a (ns.map V.int)) : Pcs [ScrP KK a ns] H := by
  have key : ∀ o : HO, NoTbl o → H a = some o → SqL KK (one a o) a (ns.map V.int) → Pcs [ScrP KK a ns] H := fun o no e q => ⟨[one a o], .cons q .nil, by simp, fun g hg => by
    have hg : g = one a o := by simpa using hg
    subst hg
    intro b u e2
    obtain ⟨rfl, rfl⟩ := one_of e2
    exact ⟨e, no⟩⟩
  rcases h with h | h
  · rcases h with h | ⟨n, h⟩
    · exact key (.lst (ns.map V.int)) (fun _ => nofun) h (.inl (.inl one_same))
    · exact key (.frz n (.lst (ns.map V.int))) (fun _ => nofun) h (.inl (.inr ⟨n, one_same⟩))
  · refine ⟨[fun _ => none], .cons (.inr h) .nil, by simp, fun g hg => ?_⟩
    have hg : g = fun _ => none := by simpa using hg
    subst hg
    intro b u e2
    cases e2
theorem gsl_scr {T : List (Addr × Str)} {X : Cx} {L R' : List SA} {K : GK} {p : Addr} {ns : List Int} {lo hi : Option Int} (s : Sel L (ScrP X.K p ns) R') (k : ∀ q, K (.ref q) (pt q (.lst (cutD (ns.map V.int) lo hi)) :: L)) : GSl T X (.ref p) lo hi L K :=
  GSl.of sl_list fun H hs Q q => ⟨p, ns.map V.int, rfl, hs.scr s, fun r hr => q _ _ _ (k r) (hs.new hr fun _ => nofun)⟩
def spRounds (KK : PySem.W.Frag) : SpL := fun vs L K kx => ∃ (s : Addr) (ns : List Int) (m : Nat) (R : List SA), vs = [.ref s, .int (m : Int)] ∧ L = ScrP KK s ns :: R ∧ ns.length ≤ 1000 ∧ ∀ D as, K (.ref D) (ObL dcP D as :: R)
theorem call_roll {T : List (Addr × Str)} {L R : List SA} {K : GK} {kx : KX} {d : Addr} {m : Int} (e : Ent T L (dcP d :: R)) (h1 : 0 < m) (h2 : m < 1073741824) (k : ∀ r : Int, 0 ≤ r → r < m → K (.int r) (dcP d :: R)) : spE T spRoll [.ref d, .int m] L K kx := CallS.mk ⟨d, m, R, rfl, h1, h2, rfl, k⟩ e
end SW
set_option Elab.async false
set_option linter.all false
set_option maxRecDepth 100000
set_option maxHeartbeats 2000000
/-! Sw12: sums of truth values. -/
namespace SW
open PySem PySem.Spec L2
open PyProof.Rows hiding St
section
variable {prog : Program} {w : World} {A : Around} {E : Value → Shared → Prop} {s : Shared} {l : Addr} {items : Array Value}
theorem sum_boolRaw {Q : Value → Shared → Prop} {val : Nat → Int} (hh : A.handled = none) (hl : s.heap.IsList l items) (hv : ∀ (i : Nat) v, items[i]? = some v → NumOf (val i) v)
    (h : ∀ h' tk t', (∀ b o, s.heap.get? b = some o → h'.get? b = some o) → Q (.int (preSum val items.size) t') { s with heap := h', toks := tk }) : wpAny (model prog w) A (call (.builtin "sum") [.ref l]) Q E s := by
  have hlt : l < s.heap.objs.size := by obtain ⟨_, e, _⟩ := hl; exact Heap.lt_size e
  refine call_sum_walkAnyB (wpAny_pyIter_list hl ?_)
  refine ⟨_, _, _, _, _, _, _, val, rfl, (Walks.list (A := A.in1) hh _ l (Nat.ne_of_lt hlt) items).toS, ⟨⟨_, Heap.get?_push_size _ rfl, rfl, rfl⟩, hl.push _⟩, fun b hb => ?_, fun i v hi => hv i v hi, fun s' t' hm => ?_⟩
  · show b < (s.heap.push _).objs.size
    rw [Heap.size_push]
    rcases List.mem_cons.mp hb with rfl | hb
    · exact Nat.lt_succ_self _
    · rcases List.mem_cons.mp hb with rfl | hb
      · exact Nat.lt_succ_of_lt hlt
      · cases hb
  · have e : s' = { s with heap := s'.heap, toks := s'.toks } := by
      obtain ⟨h1, h2, h3, h4, h5⟩ := hm
      cases s'
      cases h2
      cases h3
      cases h4
      rfl
    rw [e]
    exact h s'.heap s'.toks t' (old_kept hm.heap)
end
theorem vals_bools : ∀ {bs : List Bool} {its : List Value}, Vals (bs.map V.bl) its → its = bs.map Value.bool
  | [], its, h => by
    have := h.length
    cases its with
    | nil => rfl
    | cons _ _ => cases this
  | b :: bs, its, h => by
    cases h with
    | cons r t => rw [vals_bools t]; have r : _ = Value.bool b := r; rw [r]; rfl
def rSumB (K : PySem.W.Frag) : List V → Hp → VK → Prop := fun vs H Q => ∃ (a : Addr) (bs : List Bool), vs = [V.ref a] ∧ SqL K H a (bs.map V.bl) ∧ Q (.int ((bs.map fun b => if b = true then (1 : Int) else 0).sum)) H
theorem cr_sumB {X : Cx} (hc : X.calm = true) : CallR X (.builtin "sum") (rSumB X.K) := by
  intro pins s σ H vs us Q I r h
  obtain ⟨a, bs, rfl, hs, q⟩ := h
  obtain ⟨its, rv, hl, _⟩ := I.list hs
  rw [Vals.ref1 r]
  have e := vals_bools rv
  subst e
  refine sum_boolRaw (val := fun j => (bs.map fun b => if b = true then (1 : Int) else 0).getD j 0) (I.ok.hd hc) hl.isList (fun i v hi => ?_) fun h' tk t' hk => ?_
  · have hi2 : (bs.map Value.bool)[i]? = some v := by simpa using hi
    rw [List.getElem?_map] at hi2
    cases hb : bs[i]? with
    | none => rw [hb] at hi2; cases hi2
    | some b =>
      rw [hb] at hi2
      cases hi2
      exact .inr ⟨b, rfl, by simp [List.getD_eq_getElem?_getD, hb]⟩
  · have e := preSum_getD (bs.map fun b => if b = true then (1 : Int) else 0) (bs.map Value.bool).toArray.size
    rw [List.take_of_length_le (by simp)] at e
    rw [e]
    exact ⟨.int _, H, I.kept hk, ⟨_, rfl⟩, q⟩
theorem gc_sumB {T : List (Addr × Str)} {X : Cx} {L R' : List SA} {K : GK} {p : Addr} {bs : List Bool} (hc : X.calm = true) (s : Sel L (pt p (.lst (bs.map V.bl))) R') (k : K (.int ((bs.map fun b => if b = true then (1 : Int) else 0).sum)) L) : GC T X (.builtin "sum") [.ref p] L K := GC.of (cr_sumB hc) fun H hs Q q => ⟨p, bs, rfl, SqL.of (hs.at s), q _ _ _ k hs⟩
end SW
set_option Elab.async false
set_option linter.all false
set_option maxRecDepth 100000
set_option maxHeartbeats 1600000
set_option pp.deepTerms false
set_option pp.deepTerms.threshold 10
set_option pp.maxSteps 500
namespace K04
open PySem PySem.Spec L2 SW
open PyProof.Rows hiding St
local macro_rules | `(tactic| tm_at "sAt") => `(tactic| with_reducible (first | exact At.here | (apply At.there; tm_at "sAt")))
local macro_rules | `(tactic| tm_at "sSlot") => `(tactic| with_reducible (first | exact Slot.here | (apply Slot.there; tm_at "sSlot")))
local macro_rules | `(tactic| tm_at "sKd") => `(tactic| with_reducible (first | exact Kd.here | (apply Kd.there; tm_at "sKd")))
local macro_rules | `(tactic| tm_at "sSel") => `(tactic| with_reducible (first | exact Sel.here | (apply Sel.there; tm_at "sSel")))
local macro_rules | `(tactic| tm_at "sRpl") => `(tactic| with_reducible (first | exact Rpl.here | (apply Rpl.there; tm_at "sRpl")))
local macro_rules | `(tactic| tm_at "sTk") => `(tactic| (first | exact Tk.nil | (apply Tk.cons; (tm_at "sSel"); (tm_at "sTk"))))
local macro_rules | `(tactic| tm_at "sVk") => `(tactic| first
  | exact Vk.l
  | exact Vk.c
  | exact Vk.f)
local macro_rules | `(tactic| tm_at "sLk") => `(tactic| first
  | exact Lk.l
  | exact Lk.c)
local macro_rules | `(tactic| tm_at "sLf") => `(tactic| first
  | exact Or.inl rfl
  | exact Or.inr rfl)
local macro_rules | `(tactic| tm_at "sRoom") => `(tactic| first
  | assumption
  | exact L2.Room.mono (by assumption) (by decide))
local macro_rules | `(tactic| tm_at "sXok") => `(tactic| first
  | assumption
  | exact xok0)
local macro_rules | `(tactic| tm_at "sCv") => `(tactic| (first | with_reducible exact Cv.id | with_reducible exact Cv.lst0 | ((with_reducible refine Cv.pt ?_); tm_at "sEq") | ((with_reducible refine Cv.lst ?_); tm_at "sEq") | ((with_reducible refine Cv.val ?_); tm_at "sEq")))
local macro_rules | `(tactic| tm_at "sEq") => `(tactic| (first | rfl | assumption | (simp; done)))
local macro_rules | `(tactic| tm_at "sSelC") => `(tactic| (first | ((with_reducible apply SelC.here); tm_at "sCv") | ((with_reducible apply SelC.there); tm_at "sSelC")))
local macro_rules | `(tactic| tm_at "fit") => `(tactic| (first | with_reducible exact Fit.refl | with_reducible exact Fit.nil | ((with_reducible apply Fit.find); (case s => tm_at "sSelC"); (case t => tm_at "fit")) | ((with_reducible apply Fit.drop); tm_at "fit")))
local macro_rules | `(tactic| tm_at "sLkF") => `(tactic| with_reducible (first | exact LkF.here | (apply LkF.there (by with_unfolding_all rfl); tm_at "sLkF")))
local macro_rules | `(tactic| tm_at "sNoF") => `(tactic| with_reducible (first | exact NoF.nil | (apply NoF.cons (by with_unfolding_all rfl); tm_at "sNoF")))
local macro_rules | `(tactic| tm_at "sPutF") => `(tactic| with_reducible (first | exact PutF.here | exact PutF.nil | (apply PutF.there (by with_unfolding_all rfl); tm_at "sPutF")))
local macro_rules | `(tactic| tm_at "sHasL") => `(tactic| (first | exact hasL_pt (by tm_at "sSel") | exact hasL_R (by tm_at "sSel")))
local macro_rules | `(tactic| tm_at "sZ") => `(tactic| (first | assumption | (simp only [List.length_cons, List.length_nil, List.length_append, PySem.sizeLine_eq]; omega) | (rw [PySem.sizeLine_eq]; simp; done)))
local macro_rules | `(tactic| tm_at "sIx") => `(tactic| with_unfolding_all rfl)
local macro_rules | `(tactic| tm_at "sSet") => `(tactic| (first | exact SetR.here | (apply SetR.there; tm_at "sSet")))
local macro_rules | `(tactic| tm_at "sPut") => `(tactic| first
  | exact PutAt.c 0 (by with_unfolding_all rfl) (by tm_at "sSet")
  | exact PutAt.c 1 (by with_unfolding_all rfl) (by tm_at "sSet")
  | exact PutAt.c 2 (by with_unfolding_all rfl) (by tm_at "sSet")
  | exact PutAt.c 3 (by with_unfolding_all rfl) (by tm_at "sSet")
  | exact PutAt.c 4 (by with_unfolding_all rfl) (by tm_at "sSet")
  | exact PutAt.c 5 (by with_unfolding_all rfl) (by tm_at "sSet"))
local macro_rules | `(tactic| tm_at "gECall") => `(tactic| first
  | ((guard_target = GE _ _ (Expr.Call (Expr.Name "len" _) _ _ _) _ _ _); (with_reducible refine gb_len (by assumption) (by tm_at "sKd") ?hm ?he ?hpl ?_); (case hm => assumption); (case he => rfl); (case hpl => rfl))
  | ((guard_target = GE _ _ (Expr.Call (Expr.Name "int" _) _ _ _) _ _ _); (with_reducible refine gb_int (by assumption) (by tm_at "sKd") ?hm ?he ?hpl ?_); (case hm => assumption); (case he => rfl); (case hpl => rfl))
  | ((guard_target = GE _ _ (Expr.Call (Expr.Name "str" _) _ _ _) _ _ _); (with_reducible refine gb_str (by assumption) (by tm_at "sKd") ?hm ?he ?hpl ?_); (case hm => assumption); (case he => rfl); (case hpl => rfl))
  | ((guard_target = GE _ _ (Expr.Call (Expr.Name "list" _) _ _ _) _ _ _); (with_reducible refine gb_list (by assumption) (by tm_at "sKd") ?hm ?he ?hpl ?_); (case hm => assumption); (case he => rfl); (case hpl => rfl))
  | ((guard_target = GE _ _ (Expr.Call (Expr.Name "tuple" _) _ _ _) _ _ _); (with_reducible refine gb_tuple (by assumption) (by tm_at "sKd") ?hm ?he ?hpl ?_); (case hm => assumption); (case he => rfl); (case hpl => rfl))
  | ((guard_target = GE _ _ (Expr.Call (Expr.Name "min" _) _ _ _) _ _ _); (with_reducible refine gb_min (by assumption) (by tm_at "sKd") ?hm ?he ?hpl ?_); (case hm => assumption); (case he => rfl); (case hpl => rfl))
  | ((guard_target = GE _ _ (Expr.Call (Expr.Name "max" _) _ _ _) _ _ _); (with_reducible refine gb_max (by assumption) (by tm_at "sKd") ?hm ?he ?hpl ?_); (case hm => assumption); (case he => rfl); (case hpl => rfl))
  | ((guard_target = GE _ _ (Expr.Call (Expr.Name "sum" _) _ _ _) _ _ _); (with_reducible refine gb_sum (by assumption) (by tm_at "sKd") ?hm ?he ?hpl ?_); (case hm => assumption); (case he => rfl); (case hpl => rfl))
  | ((guard_target = GE _ _ (Expr.Call (Expr.Name "sorted" _) _ _ _) _ _ _); (with_reducible refine gb_sorted (by assumption) (by tm_at "sKd") ?hm ?he ?hpl ?_); (case hm => assumption); (case he => rfl); (case hpl => rfl))
  | ((guard_target = GE _ _ (Expr.Call (Expr.Name "abs" _) _ _ _) _ _ _); (with_reducible refine gb_abs (by assumption) (by tm_at "sKd") ?hm ?he ?hpl ?_); (case hm => assumption); (case he => rfl); (case hpl => rfl))
  | ((guard_target = GE _ _ (Expr.Call (Expr.Name "range" _) _ _ _) _ _ _); (with_reducible refine gb_range (by assumption) (by tm_at "sKd") ?hm ?he ?hpl ?_); (case hm => assumption); (case he => rfl); (case hpl => rfl))
  | ((guard_target = GE _ _ (Expr.Call (Expr.Name "any" _) _ _ _) _ _ _); (with_reducible refine gb_any (by assumption) (by tm_at "sKd") ?hm ?he ?hpl ?_); (case hm => assumption); (case he => rfl); (case hpl => rfl))
  | ((guard_target = GE _ _ (Expr.Call (Expr.Name "all" _) _ _ _) _ _ _); (with_reducible refine gb_all (by assumption) (by tm_at "sKd") ?hm ?he ?hpl ?_); (case hm => assumption); (case he => rfl); (case hpl => rfl))
  | ((guard_target = GE _ _ (Expr.Call (Expr.Name "dict" _) _ _ _) _ _ _); (with_reducible refine gb_dict (by assumption) (by tm_at "sKd") ?hm ?he ?hpl ?_); (case hm => assumption); (case he => rfl); (case hpl => rfl))
  | ((guard_target = GE _ _ (Expr.Call (Expr.Name "set" _) _ _ _) _ _ _); (with_reducible refine gb_set (by assumption) (by tm_at "sKd") ?hm ?he ?hpl ?_); (case hm => assumption); (case he => rfl); (case hpl => rfl)))
local macro_rules | `(tactic| tm_at "gECall") => `(tactic| (guard_target = GE _ _ (Expr.Call (Expr.Name "_law_roll" _) (_ :: _) [] _) _ _ _; (refine ge_call (FnAt.e (x := "_law_roll") (by assumption)) (by tm_at "sRoom") (by tm_at "sXok") (Nm.gl (by assumption) (by tm_at "sKd")) ?hdb ?he ?hpl ?_); (case hdb => rfl); (case he => rfl); (case hpl => rfl)))
local macro_rules | `(tactic| tm_at "gECall") => `(tactic| (guard_target = GE _ _ (Expr.Call (Expr.Name "_law_dice" _) (_ :: _) [] _) _ _ _; (refine ge_call (FnAt.e (x := "_law_dice") (by assumption)) (by tm_at "sRoom") (by tm_at "sXok") (Nm.gl (by assumption) (by tm_at "sKd")) ?hdb ?he ?hpl ?_); (case hdb => rfl); (case he => rfl); (case hpl => rfl)))
local macro_rules | `(tactic| tm_at "gECall") => `(tactic| (guard_target = GE _ _ (Expr.Call (Expr.Name "_law_rounds" _) (_ :: _) [] _) _ _ _; (refine ge_call (FnAt.e (x := "_law_rounds") (by assumption)) (by tm_at "sRoom") (by tm_at "sXok") (Nm.gl (by assumption) (by tm_at "sKd")) ?hdb ?he ?hpl ?_); (case hdb => rfl); (case he => rfl); (case hpl => rfl)))
local macro_rules | `(tactic| tm_at "gECall") => `(tactic| (guard_target = GE _ _ (Expr.Call (Expr.Name "_law_deed" _) (_ :: _) [] _) _ _ _; (refine ge_call (FnAt.e (x := "_law_deed") (by assumption)) (by tm_at "sRoom") (by tm_at "sXok") (Nm.gl (by assumption) (by tm_at "sKd")) ?hdb ?he ?hpl ?_); (case hdb => rfl); (case he => rfl); (case hpl => rfl)))
local macro_rules | `(tactic| tm_at "gE") => `(tactic| first
  | ((guard_target = GE _ _ (Expr.Name _ _) _ _ _); (with_reducible refine ge_name (by assumption) (by tm_at "sAt") (by tm_at "sKd") (by tm_at "sVk") rfl ?_))
  | ((guard_target = GE _ _ (Expr.Constant (Const.int _) _ _) _ _ _); (with_reducible refine ge_int ?_))
  | ((guard_target = GE _ _ (Expr.Attribute _ _ _) _ _ _); (with_reducible refine ge_fld ?hb ?_); (case hb => rfl))
  | ((guard_target = GE _ _ (Expr.Subscript _ (Expr.Slice _ _ none _) _) _ _ _); (with_reducible refine ge_slice ?_))
  | ((guard_target = GE _ _ (Expr.Call (Expr.Attribute _ _ _) _ _ _) _ _ _); tm_at "gEMeth")
  | ((guard_target = GE _ _ (Expr.Subscript _ _ _) _ _ _); (with_reducible refine ge_sub ?hs ?_); (case hs => exact fun _ _ => rfl))
  | ((guard_target = GE _ _ (Expr.BinOp _ _ _ _) _ _ _); (with_reducible refine ge_bin ?_))
  | ((guard_target = GE _ _ (Expr.Constant (Const.str _) _ _) _ _ _); (with_reducible refine ge_str ?_))
  | ((guard_target = GE _ _ (Expr.Call (Expr.Name _ _) _ _ _) _ _ _); tm_at "gECall")
  | ((guard_target = GE _ _ (Expr.List _ _) _ _ _); (with_reducible refine ge_lst ?_))
  | ((guard_target = GE _ _ (Expr.Tuple _ _ _) _ _ _); (with_reducible refine ge_tup ?_))
  | ((guard_target = GE _ _ (Expr.Constant Const.none _ _) _ _ _); (with_reducible refine ge_none ?_))
  | ((guard_target = GE _ _ (Expr.Constant (Const.bool _) _ _) _ _ _); (with_reducible refine ge_bl ?_))
  | ((guard_target = GE _ _ (Expr.Compare _ [_] [_] _) _ _ _); (with_reducible refine ge_cmp ?hm ?_); (case hm => first | exact nomark _ | rfl))
  | ((guard_target = GE _ _ (Expr.UnaryOp UnaryOp.Not _ _) _ _ _); (with_reducible refine ge_not ?_))
  | ((guard_target = GE _ _ (Expr.UnaryOp _ _ _) _ _ _); (with_reducible refine ge_un ?_))
  | ((guard_target = GE _ _ (Expr.IfExp _ _ _ _) _ _ _); (with_reducible refine ge_if ?_))
  | ((guard_target = GE _ _ (Expr.Compare _ [_, _] [_, _] _) _ _ _); (with_reducible refine ge_chain ?hm ?_); (case hm => with_unfolding_all rfl))
  | ((guard_target = GE _ _ (Expr.BoolOp _ [_] _) _ _ _); (with_reducible refine ge_one ?_))
  | ((guard_target = GE _ _ (Expr.BoolOp BoolOp.And _ _) _ _ _); (with_reducible refine ge_and ?_))
  | ((guard_target = GE _ _ (Expr.BoolOp BoolOp.Or _ _) _ _ _); (with_reducible refine ge_or ?_)))
local macro_rules | `(tactic| tm_at "gEMeth") => `(tactic| first
  | ((guard_target = GE _ _ (Expr.Call (Expr.Attribute _ "append" _) [_] [] _) _ _ _); (with_reducible refine ge_append ?h1 ?h2 ?h3 ?h4 ?h5 ?_); (case h1 => rfl); (case h2 => rfl); (case h3 => rfl); (case h4 => rfl); (case h5 => rfl))
  | ((guard_target = GE _ _ (Expr.Call (Expr.Attribute _ "extend" _) [_] [] _) _ _ _); (with_reducible refine ge_extend ?h1 ?h2 ?h3 ?h4 ?h5 ?_); (case h1 => rfl); (case h2 => rfl); (case h3 => rfl); (case h4 => rfl); (case h5 => rfl))
  | ((guard_target = GE _ _ (Expr.Call (Expr.Attribute _ "remove" _) [_] [] _) _ _ _); (with_reducible refine ge_remove ?h1 ?h2 ?h3 ?h4 ?h5 ?_); (case h1 => rfl); (case h2 => rfl); (case h3 => rfl); (case h4 => rfl); (case h5 => rfl))
  | ((guard_target = GE _ _ (Expr.Call (Expr.Attribute _ "pop" _) [_] [] _) _ _ _); (with_reducible refine ge_popAt ?h1 ?h2 ?h3 ?h4 ?h5 ?_); (case h1 => rfl); (case h2 => rfl); (case h3 => rfl); (case h4 => rfl); (case h5 => rfl)))
local macro_rules | `(tactic| tm_at "gT") => `(tactic| first
  | ((guard_target = GT _ _ (Expr.Compare _ [_] [_] _) _ _ _); (with_reducible refine gt_cmp ?hm ?_); (case hm => first | exact nomark _ | rfl))
  | ((guard_target = GT _ _ (Expr.UnaryOp UnaryOp.Not _ _) _ _ _); (with_reducible refine gt_not ?_))
  | ((guard_target = GT _ _ (Expr.BoolOp _ _ _) _ _ _); (with_reducible refine gt_bool ?_))
  | ((guard_target = GT _ _ (Expr.Compare _ [_, _] [_, _] _) _ _ _); (with_reducible refine gt_chain ?hm ?_); (case hm => with_unfolding_all rfl))
  | ((guard_target = GT _ _ (Expr.Call _ _ _ _) _ _ _); (with_reducible refine gt_val ?he ?_); (case he => intro _; rfl))
  | ((guard_target = GT _ _ (Expr.Subscript _ _ _) _ _ _); (with_reducible refine gt_val ?he ?_); (case he => intro _; rfl))
  | ((guard_target = GT _ _ (Expr.Name _ _) _ _ _); (with_reducible refine gt_val ?he ?_); (case he => intro _; rfl))
  | ((guard_target = GT _ _ (Expr.Attribute _ _ _) _ _ _); (with_reducible refine gt_val ?he ?_); (case he => intro _; rfl)))
local macro_rules | `(tactic| tm_at "gB") => `(tactic| first
  | ((guard_target = GB _ _ (Expr.BoolOp BoolOp.And [_] _) _ _ _); (with_reducible refine gb_and1 ?_))
  | ((guard_target = GB _ _ (Expr.BoolOp BoolOp.Or [_] _) _ _ _); (with_reducible refine gb_or1 ?_))
  | ((guard_target = GB _ _ (Expr.BoolOp BoolOp.And _ _) _ _ _); (with_reducible refine gb_and ?_))
  | ((guard_target = GB _ _ (Expr.BoolOp BoolOp.Or _ _) _ _ _); (with_reducible refine gb_or ?_)))
local macro_rules | `(tactic| tm_at "gA") => `(tactic| first
  | ((guard_target = GA _ _ ([]) _ _ _); (with_reducible refine ga_nil ?_))
  | ((guard_target = GA _ _ (_ :: _) _ _ _); (with_reducible refine ga_cons ?hst ?_); (case hst => rfl)))
local macro_rules | `(tactic| tm_at "gOp") => `(tactic| first
  | ((guard_target = GOp _ _ (binaryOp Operator.Add) (V.int _) (V.int _) _ _); (with_reducible refine go_add ?_))
  | ((guard_target = GOp _ _ (binaryOp Operator.Sub) (V.int _) (V.int _) _ _); (with_reducible refine go_sub ?_))
  | ((guard_target = GOp _ _ (compareOp CmpOp.Eq) (V.int _) (V.int _) _ _); (with_reducible refine go_eqI ?_))
  | ((guard_target = GOp _ _ (compareOp CmpOp.Lt) (V.int _) (V.int _) _ _); (with_reducible refine go_lt ?_))
  | ((guard_target = GOp _ _ (compareOp CmpOp.LtE) (V.int _) (V.int _) _ _); (with_reducible refine go_le ?_))
  | ((guard_target = GOp _ _ (compareOp CmpOp.Gt) (V.int _) (V.int _) _ _); (with_reducible refine go_gt ?_))
  | ((guard_target = GOp _ _ (compareOp CmpOp.GtE) (V.int _) (V.int _) _ _); (with_reducible refine go_ge ?_))
  | ((guard_target = GOp _ _ (compareOp CmpOp.NotEq) (V.int _) (V.int _) _ _); (with_reducible refine go_neI ?_))
  | ((guard_target = GOp _ _ (binaryOp Operator.Mult) (V.int _) (V.int _) _ _); (with_reducible refine go_mul ?c ?_); (case c => first | (left; constructor <;> omega) | (right; constructor <;> omega)))
  | ((guard_target = GOp _ _ (binaryOp Operator.FloorDiv) (V.int _) (V.int _) _ _); (with_reducible refine go_div ?c ?_); (case c => constructor <;> omega))
  | ((guard_target = GOp _ _ (binaryOp Operator.Mod) (V.int _) (V.int _) _ _); (with_reducible refine go_mod ?c ?_); (case c => omega))
  | ((guard_target = GOp _ _ (compareOp CmpOp.Eq) (V.str _) (V.str _) _ _); (with_reducible refine go_eqT ?_))
  | ((guard_target = GOp _ _ (compareOp CmpOp.NotEq) (V.str _) (V.str _) _ _); (with_reducible refine go_neT ?_))
  | ((guard_target = GOp _ _ (compareOp CmpOp.Eq) (V.bl _) (V.bl _) _ _); (with_reducible refine go_eqB ?_))
  | ((guard_target = GOp _ _ (compareOp CmpOp.NotEq) (V.bl _) (V.bl _) _ _); (with_reducible refine go_neB ?_))
  | ((guard_target = GOp _ _ (compareOp CmpOp.In) (V.int _) (V.ref _) _ _); (with_reducible refine go_inI (by tm_at "sSel") ?_))
  | ((guard_target = GOp _ _ (compareOp CmpOp.NotIn) (V.int _) (V.ref _) _ _); (with_reducible refine go_ninI (by tm_at "sSel") ?_))
  | ((guard_target = GOp _ _ (compareOp CmpOp.In) (V.str _) (V.ref _) _ _); (with_reducible refine go_inT (by tm_at "sSel") ?_))
  | ((guard_target = GOp _ _ (compareOp CmpOp.NotIn) (V.str _) (V.ref _) _ _); (with_reducible refine go_ninT (by tm_at "sSel") ?_))
  | ((guard_target = GOp _ _ (compareOp CmpOp.Eq) (_) (V.non) _ _); (with_reducible refine go_eqS rfl ?_))
  | ((guard_target = GOp _ _ (compareOp CmpOp.NotEq) (_) (V.non) _ _); (with_reducible refine go_neS rfl ?_))
  | ((guard_target = GOp _ _ (compareOp CmpOp.Is) (_) (V.non) _ _); (with_reducible refine go_isN ?_))
  | ((guard_target = GOp _ _ (compareOp CmpOp.IsNot) (_) (V.non) _ _); (with_reducible refine go_notN ?_)))
local macro_rules | `(tactic| tm_at "gC") => `(tactic| first
  | ((guard_target = GC _ _ (Value.type "int") [V.int _] _ _); (with_reducible refine gc_intI ?_))
  | ((guard_target = GC _ _ (Value.type "int") [V.bl _] _ _); (with_reducible refine gc_intB ?_))
  | ((guard_target = GC _ _ (Value.builtin "abs") [V.int _] _ _); (with_reducible refine gc_abs ?_))
  | ((guard_target = GC _ _ (Value.builtin "max") [V.int _, V.int _] _ _); (with_reducible refine gc_max2 ?hc ?_); (case hc => rfl))
  | ((guard_target = GC _ _ (Value.builtin "min") [V.int _, V.int _] _ _); (with_reducible refine gc_min2 ?hc ?_); (case hc => rfl))
  | ((guard_target = GC _ _ (Value.type "range") [V.int _] _ _); (with_reducible refine gc_rng1 ?_))
  | ((guard_target = GC _ _ (Value.type "range") [V.int _, V.int _] _ _); (with_reducible refine gc_rng2 ?_))
  | ((guard_target = GC _ _ (Value.builtin "len") [V.ref _] _ _); (with_reducible refine gc_lenR (by tm_at "sSel") ?_))
  | ((guard_target = GC _ _ (Value.builtin "len") [V.ref _] _ _); (with_reducible refine gc_len (by tm_at "sSel") ?_))
  | ((guard_target = GC _ _ (Value.builtin "len") [V.ref _] _ _); (with_reducible refine gc_lenT (by tm_at "sSel") ?_)))
local macro_rules | `(tactic| tm_at "gF") => `(tactic| first
  | ((guard_target = GF _ _ _ _ _ _); (with_reducible refine gf (by tm_at "sSel") (by tm_at "sLkF") ?hc ?hn ?_); (case hc => assumption); (case hn => assumption))
  | ((guard_target = GFS _ _ _ _ _ _); (with_reducible refine gfs (by tm_at "sRpl") (by tm_at "sPutF") ?hc ?hn ?hz ?_); (case hc => assumption); (case hn => assumption); (case hz => exact Nat.le_of_ble_eq_true rfl))
  | ((guard_target = GFA _ _ _ _ _ _ _ _ _); (with_reducible refine gfa (by tm_at "sSel") (by tm_at "sLkF") ?hc ?hn ?_); (case hc => assumption); (case hn => assumption))
  | ((guard_target = Exists fun _ => Exists fun _ => Exists fun _ => (Rpl _ _ _ _ ∧ _ ∧ _)); (with_reducible refine gfaE (by tm_at "sRpl") (by tm_at "sPutF") ?hz ?_); (case hz => exact Nat.le_of_ble_eq_true rfl))
  | ((guard_target = GAS _ _ _ _ _ _ _ _ _); (with_reducible refine gas (by tm_at "sSel") (by tm_at "sIx") ?_))
  | ((guard_target = (HasL _ _ _ ∧ _)); (with_reducible refine And.intro ?hh ?_); (case hh => tm_at "sHasL"))
  | ((guard_target = (IsIns _ _ _ _ _ ∧ _)); (with_reducible refine And.intro ?hh ?_); (case hh => exact isIns (by tm_at "sSel") (by tm_at "sNoF") (by rfl)))
  | ((guard_target = GApp _ _ _ _ _); (with_reducible refine gapp_pt (by tm_at "sRpl") ?hz ?_); (case hz => tm_at "sZ"))
  | ((guard_target = (List.length _ ≤ PySem.sizeLine ∧ _)); (with_reducible refine And.intro ?hz ?_); (case hz => tm_at "sZ"); intro _)
  | ((guard_target = GIp _ _ Operator.Add (V.int _) (V.int _) _ _); (with_reducible refine gip_add ?_))
  | ((guard_target = GIp _ _ Operator.Sub (V.int _) (V.int _) _ _); (with_reducible refine gip_sub ?_))
  | ((guard_target = GRem _ _ _ _ _); (with_reducible refine grem (by tm_at "sRpl") ?hm ?_); (case hm => assumption))
  | ((guard_target = GO _ _ none _ _ _); (with_reducible refine goN ?_))
  | ((guard_target = GO _ _ (some _) _ _ _); (with_reducible refine goS ?_)))
local macro_rules | `(tactic| tm_at "gIx") => `(tactic| first
  | (with_reducible refine gi_lst (by tm_at "sSel") (by tm_at "sIx") ?_)
  | (with_reducible refine gi_tup (by tm_at "sSel") (by tm_at "sIx") ?_))
local macro_rules | `(tactic| tm_at "gS") => `(tactic| first
  | ((guard_target = GS _ _ (Stmt.Assign [Expr.Name _ _] _ _) _ _ _); (with_reducible refine gs_name (by assumption) (by tm_at "sSlot") (by tm_at "sKd") (by tm_at "sLk") (by tm_at "sLf") ?hsw ?_); (case hsw => rfl))
  | ((guard_target = GS _ _ (Stmt.If _ _ _ _) _ _ _); (with_reducible refine gs_if ?_))
  | ((guard_target = GS _ _ (Stmt.AugAssign (Expr.Name _ _) _ _ _) _ _ _); (with_reducible refine gs_aug (by assumption) (by tm_at "sAt") (by tm_at "sSlot") (by tm_at "sKd") (by tm_at "sLk") (by tm_at "sLf") ?_))
  | ((guard_target = GS _ _ (Stmt.AugAssign (Expr.Attribute _ _ _) _ _ _) _ _ _); (with_reducible refine gs_fldaug ?_))
  | ((guard_target = GS _ _ (Stmt.AugAssign (Expr.Subscript _ _ _) _ _ _) _ _ _); (with_reducible refine gs_augS ?ha ?_); (case ha => intros; rfl))
  | ((guard_target = GS _ _ (Stmt.Return (some _) _) _ _ _); (with_reducible refine gs_ret ?_))
  | ((guard_target = GS _ _ (Stmt.Expr (Expr.Constant _ _ _) _) _ _ _); (with_reducible refine gs_doc ?_))
  | ((guard_target = GS _ _ (Stmt.Expr _ _) _ _ _); (with_reducible refine gs_expr ?hsw ?_); (case hsw => rfl))
  | ((guard_target = GS _ _ (Stmt.Assign [Expr.Attribute _ _ _] _ _) _ _ _); (with_reducible refine gs_fld ?hsw ?_); (case hsw => rfl))
  | ((guard_target = GS _ _ (Stmt.Assign [Expr.Subscript _ _ _] _ _) _ _ _); (with_reducible refine gs_asg ?hsw ?hw ?h1 ?_); (case hsw => rfl); (case hw => rfl); (case h1 => rfl))
  | ((guard_target = GS _ _ (Stmt.Assign [Expr.Tuple _ _ _] _ _) _ _ _); (with_reducible refine gs_asg ?hsw ?hw ?h1 ?_); (case hsw => rfl); (case hw => rfl); (case h1 => rfl))
  | ((guard_target = GS _ _ (Stmt.Return none _) _ _ _); (with_reducible refine gs_retN ?_))
  | ((guard_target = GS _ _ (Stmt.Pass _) _ _ _); (with_reducible refine gs_pass ?_))
  | ((guard_target = GS _ _ (Stmt.Break _) _ _ _); (with_reducible refine gs_break ?_))
  | ((guard_target = GS _ _ (Stmt.Continue _) _ _ _); (with_reducible refine gs_continue ?_)))
local macro_rules | `(tactic| tm_at "gG") => `(tactic| first
  | ((guard_target = GG _ _ (Expr.Name _ _) _ _ _ _); (with_reducible refine gg_name (by assumption) (by tm_at "sSlot") (by tm_at "sKd") (by tm_at "sLk") (by tm_at "sLf") ?_))
  | ((guard_target = GG _ _ (Expr.Subscript _ _ _) _ _ _ _); (with_reducible refine gg_sub ?ha ?_); (case ha => intro _; rfl))
  | ((guard_target = GG _ _ (Expr.Tuple _ _ _) _ _ _ _); (with_reducible refine gg_tup ?hc (by tm_at "sSel") ?hn ?hst ?_); (case hc => rfl); (case hn => rfl); (case hst => rfl)))
local macro_rules | `(tactic| tm_at "g") => `(tactic| first
  | ((guard_target = GE _ _ _ _ _ _); tm_at "gE")
  | ((guard_target = GOp _ _ _ _ _ _ _); tm_at "gOp")
  | ((guard_target = GIx _ _ _ _ _ _); tm_at "gIx")
  | tm_at "gF"
  | ((guard_target = (wipe _ _ = wipe _ _ ∧ _)); refine And.intro rfl ?_)
  | ((guard_target = GGs _ _ [] _ _ _ _); (with_reducible refine ggs_nil ?_))
  | ((guard_target = GGs _ _ (_ :: _) _ _ _ _); (with_reducible refine ggs_cons ?hst ?_); (case hst => rfl))
  | ((guard_target = GTs _ _ [] _ _ _); (with_reducible refine gts_nil ?_))
  | ((guard_target = GTs _ _ [_] _ _ _); (with_reducible refine gts_one ?_))
  | ((guard_target = KB _ _ _); (with_reducible refine KB.mk ?_))
  | ((guard_target = GA _ _ _ _ _ _); tm_at "gA")
  | ((guard_target = GS _ _ _ _ _ _); tm_at "gS")
  | ((guard_target = GSs _ _ (_ :: _) _ _ _); (with_reducible refine gss_cons ?_))
  | ((guard_target = GSs _ _ ([]) _ _ _); (with_reducible refine gss_nil ?_))
  | ((guard_target = GT _ _ _ _ _ _); tm_at "gT")
  | ((guard_target = GB _ _ _ _ _ _); tm_at "gB")
  | ((guard_target = GC _ _ _ _ _ _); tm_at "gC")
  | ((guard_target = GG _ _ _ _ _ _ _); tm_at "gG")
  | ((guard_target = GPutL _ _ _ _ _); (with_reducible refine gput (by tm_at "sRpl") (by tm_at "sPut") ?_))
  | ((guard_target = if true = true then _ else _); (with_reducible refine iteT ?_))
  | ((guard_target = if (!true) = true then _ else _); (with_reducible refine iteNT ?_))
  | ((guard_target = if (!false) = true then _ else _); (with_reducible refine iteNF ?_))
  | ((guard_target = if false = true then _ else _); (with_reducible refine iteF ?_))
  | ((guard_target = Exists _); (with_reducible refine Exists.intro _ (And.intro rfl ?_)))
  | (first | with_reducible refine ite_nI ?_ | with_reducible refine ite_nN ?_ | with_reducible refine ite_nnI ?_ | with_reducible refine ite_nnN ?_ | with_reducible refine ite_nR ?_ | with_reducible refine ite_nnR ?_))
local macro_rules | `(tactic| tm_at "sSetN") => `(tactic| (first | exact SetN.here | (apply SetN.there; tm_at "sSetN")))
local macro_rules | `(tactic| tm_at "sWp") => `(tactic| (first | exact Wp.nil | (apply Wp.cons; (tm_at "sWp"); (tm_at "sSetN"))))
local macro_rules | `(tactic| tm_at "fits") => `(tactic| (first | apply Fits.mk | apply FitL.mk))
local macro_rules | `(tactic| tm_at "ent") => `(tactic| (apply Fit.ent; tm_at "fit"))
local macro_rules | `(tactic| tm_at "go") => `(tactic| repeat (tm_at "g"))
local macro_rules | `(tactic| tm_at "gs") => `(tactic| repeat ((fail_if_success (guard_target = GSs _ _ (_ :: _) _ _ _)); tm_at "g"))
local macro_rules | `(tactic| tm_at "if") => `(tactic| first
  | (with_reducible refine ite_ndec (fun _ => ?_) (fun _ => ?_))
  | (with_reducible refine ite_dec (fun _ => ?_) (fun _ => ?_))
  | (with_reducible refine ite_nb (fun _ => ?_) (fun _ => ?_))
  | (with_reducible refine ite_b (fun _ => ?_) (fun _ => ?_)))
section
variable {T : List (Addr × Str)} {P : Program} {w : World} {Kf : PySem.W.Frag} {mg : Str → Option Value} {base : Heap} {f : Addr} {fd : FuncData}
theorem ok_dice (f_int : mg "int" = none) (f_abs : mg "abs" = none) (F : FunD Kf "_law_dice" "_law_dice" (defArgs s_law_dice) (defBody s_law_dice) (defScope s_law_dice) [] [] f fd) : FnOk P w Kf mg base (L2.CX P w) 1 f fd ["cell"] (spOf T spDice) := by
  refine def_in F sc_law_dice (fun vs L K kx h => ?_) (fun A outer s H E hr n vs L KK kx h hx σ hσ => ?_)
  · obtain ⟨c, rfl, _⟩ := h; rfl
  · obtain ⟨c, rfl, k⟩ := h
    obtain rfl : σ = [some (.int c)] := hσ
    refine gss_cons ?_
    tm_at "go"
    tm_at "if"
    · tm_at "go"
      tm_at "if"
      · tm_at "go"
        apply Clo.mk (k _)
        apply Fit.ent
        exact Fit.cons .here Cv.dc Fit.refl
      · tm_at "go"
        refine go_pow ⟨by decide, by decide, by decide⟩ ?_
        tm_at "go"
        apply Clo.mk (k _)
        apply Fit.ent
        exact Fit.cons .here Cv.dc Fit.refl
    · tm_at "go"
      refine go_pow ⟨by decide, by decide, by decide⟩ ?_
      tm_at "go"
      apply Clo.mk (k _)
      apply Fit.ent
      exact Fit.cons .here Cv.dc Fit.refl
theorem ok_roll (f_int : mg "int" = none) (F : FunD Kf "_law_roll" "_law_roll" (defArgs s_law_roll) (defBody s_law_roll) (defScope s_law_roll) [] [] f fd) : FnOk P w Kf mg base (L2.CX P w) 1 f fd ["dice", "many"] (spOf T spRoll) := by
  refine def_in F sc_law_roll (fun vs L K kx h => ?_) (fun A outer s H E hr n vs L KK kx h hx σ hσ => ?_)
  · obtain ⟨d, m, R, rfl, _⟩ := h; rfl
  · obtain ⟨d, m, R, rfl, m0, m1, rfl, k⟩ := h
    obtain rfl : σ = [some (.ref d), some (.int m), none] := hσ
    refine dc_in (by tm_at "sSel") fun x y z => ?_
    refine gss_cons ?_
    tm_at "go"
    tm_at "if"
    · tm_at "go"
      apply Clo.mk (k _ (Int.emod_nonneg _ (by omega)) (Int.emod_lt_of_pos _ m0))
      apply Fit.ent
      exact Fit.cons .here Cv.dc Fit.refl
    · tm_at "go"
      tm_at "if"
      · tm_at "go"
        tm_at "if"
        · tm_at "go"
          apply Clo.mk (k _ (Int.emod_nonneg _ (by omega)) (Int.emod_lt_of_pos _ m0))
          apply Fit.ent
          exact Fit.cons .here Cv.dc Fit.refl
        · tm_at "go"
          apply Clo.mk (k _ (Int.emod_nonneg _ (by omega)) (Int.emod_lt_of_pos _ m0))
          apply Fit.ent
          exact Fit.cons .here Cv.dc Fit.refl
      · tm_at "go"
        apply Clo.mk (k _ (Int.emod_nonneg _ (by omega)) (Int.emod_lt_of_pos _ m0))
        apply Fit.ent
        exact Fit.cons .here Cv.dc Fit.refl
theorem ok_rounds (hdi : FnAt T P w Kf mg base 1 "_law_dice" spDice) (F : FunD Kf "_law_rounds" "_law_rounds" (defArgs s_law_rounds) (defBody s_law_rounds) (defScope s_law_rounds) [] [] f fd) : FnOk P w Kf mg base (L2.CX P w) 2 f fd ["script", "most"] (spOf T (spRounds Kf)) := by
  refine def_in F sc_law_rounds (fun vs L K kx h => ?_) (fun A outer s H E hr n vs L KK kx h hx σ hσ => ?_)
  · obtain ⟨s, ns, m, R, rfl, _⟩ := h; rfl
  · obtain ⟨s0, ns, m, R, rfl, rfl, hz, k⟩ := h
    obtain rfl : σ = [some (.ref s0), some (.int (m : Int)), none, none] := hσ
    refine gss_cons ?_
    tm_at "go"
    refine gsl_scr (ns := ns) .here fun q => ?_
    rw [SW.cutD_map]
    have hcl : (SW.cutD ns none (some (m : Int))).length ≤ 1000 := by
      unfold SW.cutD
      rw [List.length_take, List.length_drop]; omega
    generalize SW.cutD ns none (some (m : Int)) = cs at *
    tm_at "gs"
    refine gss_cons ?_
    refine gs_join (fun σ' L' => ∃ (q : Addr) (cs : List Int), cs.length ≤ 1000 ∧ σ' = [some (.ref s0), some (.int (m : Int)), some (.ref q), none] ∧ Ent T L' (pt q (.lst (cs.map V.int)) :: R)) ?_ ?_
    · tm_at "go"
      refine go_eqE hr (sees_pt cInt (by tm_at "sSel") (fun _ _ => True.intro) (by decide)) (sees_nil (by tm_at "sSel")) (eqv_nil cs) ?_
      tm_at "go"
      tm_at "if"
      · tm_at "go"
        refine ⟨_, [0], by simp, rfl, ?_⟩
        tm_at "ent"
      · tm_at "go"
        refine ⟨_, cs, hcl, rfl, ?_⟩
        tm_at "ent"
    · rintro σ' L' ⟨q, cs, hcl, rfl, t1⟩
      refine GSs.ent t1 ?_
      tm_at "go"
      refine ge_lcL ow0_law_rounds rfl n.ndN (blkOk_by (N := n_law_rounds) (sc := defScope s_law_rounds) (by decide +kernel)) (by tm_at "sWp") (fun _ => rfl) ?_
      tm_at "go"
      refine ⟨_, _, rfl, ⟨_, by tm_at "sSel"⟩, lcgo (ObL dcP) (fun i as => as.length = i) [] rfl (fun D h e => obl_nil e) ?_ ?_⟩
      · rintro D i x Lx as hi ⟨hx', rfl⟩ e s' H' C cl fp
        simp only [List.nil_append]
        refine gg_blk (kc := kc0_law_rounds) n rfl (by decide) fun nb => ?_
        obtain ⟨y, hy, rfl⟩ : ∃ y, cs[i]? = some y ∧ x = V.int y := by
          rw [List.getElem?_map] at hx'
          cases hq : cs[i]? with
          | none => rw [hq] at hx'; cases hx'
          | some y => rw [hq] at hx'; cases hx'; exact ⟨y, rfl, rfl⟩
        tm_at "go"
        intro s' H' C cl fp
        refine gts_blk (kc := kc0_law_rounds) n rfl (by decide) fun nb => ?_
        tm_at "go"
        intro s' H' C cl fp
        refine ge_blk (kc := kc0_law_rounds) n rfl (by decide) fun nb => ?_
        refine ge_call hdi (by tm_at "sRoom") (by tm_at "sXok") (nb.gl (by tm_at "sKd")) rfl rfl rfl ?_
        tm_at "go"
        refine ⟨y, rfl, fun d => ?_⟩
        refine lcend_ent (L' := pt D (.lst (as.map V.ref)) :: ObS dcP as :: dcP d :: pt q (.lst (cs.map V.int)) :: R) ?_ (lcend_pt .here ?_ ⟨as ++ [d], by simp [e], ?_⟩)
        · exact Ent.trans (Ent.perm (List.Perm.swap _ _ _)) obl_out
        · rw [List.length_map] at hi ⊢
          rw [e, sizeLine_eq]; omega
        · exact Ent.trans (Ent.perm ((List.Perm.swap _ _ _).cons _)) obl_in
      · intro D as e
        tm_at "go"
        apply Clo.mk (k D as)
        apply Fit.ent
        exact Fit.cons .here Cv.id (Fit.drop Fit.refl)
end
end K04
set_option Elab.async false
set_option linter.all false
set_option maxRecDepth 100000
set_option maxHeartbeats 1600000
set_option pp.deepTerms false
set_option pp.deepTerms.threshold 10
set_option pp.maxSteps 500
namespace K04
open PySem PySem.Spec L2 SW
open PyProof.Rows hiding St
local macro_rules | `(tactic| tm_at "sAt") => `(tactic| with_reducible (first | exact At.here | (apply At.there; tm_at "sAt")))
local macro_rules | `(tactic| tm_at "sSlot") => `(tactic| with_reducible (first | exact Slot.here | (apply Slot.there; tm_at "sSlot")))
local macro_rules | `(tactic| tm_at "sKd") => `(tactic| with_reducible (first | exact Kd.here | (apply Kd.there; tm_at "sKd")))
local macro_rules | `(tactic| tm_at "sSel") => `(tactic| with_reducible (first | exact Sel.here | (apply Sel.there; tm_at "sSel")))
local macro_rules | `(tactic| tm_at "sRpl") => `(tactic| with_reducible (first | exact Rpl.here | (apply Rpl.there; tm_at "sRpl")))
local macro_rules | `(tactic| tm_at "sTk") => `(tactic| (first | exact Tk.nil | (apply Tk.cons; (tm_at "sSel"); (tm_at "sTk"))))
local macro_rules | `(tactic| tm_at "sVk") => `(tactic| first
  | exact Vk.l
  | exact Vk.c
  | exact Vk.f)
local macro_rules | `(tactic| tm_at "sLk") => `(tactic| first
  | exact Lk.l
  | exact Lk.c)
local macro_rules | `(tactic| tm_at "sLf") => `(tactic| first
  | exact Or.inl rfl
  | exact Or.inr rfl)
local macro_rules | `(tactic| tm_at "sRoom") => `(tactic| first
  | assumption
  | exact L2.Room.mono (by assumption) (by decide))
local macro_rules | `(tactic| tm_at "sXok") => `(tactic| first
  | assumption
  | exact xok0)
local macro_rules | `(tactic| tm_at "sCv") => `(tactic| (first | with_reducible exact Cv.id | with_reducible exact Cv.lst0 | ((with_reducible refine Cv.pt ?_); tm_at "sEq") | ((with_reducible refine Cv.lst ?_); tm_at "sEq") | ((with_reducible refine Cv.val ?_); tm_at "sEq")))
local macro_rules | `(tactic| tm_at "sEq") => `(tactic| (first | rfl | assumption | (simp; done)))
local macro_rules | `(tactic| tm_at "sSelC") => `(tactic| (first | ((with_reducible apply SelC.here); tm_at "sCv") | ((with_reducible apply SelC.there); tm_at "sSelC")))
local macro_rules | `(tactic| tm_at "fit") => `(tactic| (first | with_reducible exact Fit.refl | with_reducible exact Fit.nil | ((with_reducible apply Fit.find); (case s => tm_at "sSelC"); (case t => tm_at "fit")) | ((with_reducible apply Fit.drop); tm_at "fit")))
local macro_rules | `(tactic| tm_at "sLkF") => `(tactic| with_reducible (first | exact LkF.here | (apply LkF.there (by with_unfolding_all rfl); tm_at "sLkF")))
local macro_rules | `(tactic| tm_at "sNoF") => `(tactic| with_reducible (first | exact NoF.nil | (apply NoF.cons (by with_unfolding_all rfl); tm_at "sNoF")))
local macro_rules | `(tactic| tm_at "sPutF") => `(tactic| with_reducible (first | exact PutF.here | exact PutF.nil | (apply PutF.there (by with_unfolding_all rfl); tm_at "sPutF")))
local macro_rules | `(tactic| tm_at "sHasL") => `(tactic| (first | exact hasL_pt (by tm_at "sSel") | exact hasL_R (by tm_at "sSel")))
local macro_rules | `(tactic| tm_at "sZ") => `(tactic| (first | assumption | (simp only [List.length_cons, List.length_nil, List.length_append, PySem.sizeLine_eq]; omega) | (rw [PySem.sizeLine_eq]; simp; done)))
local macro_rules | `(tactic| tm_at "sIx") => `(tactic| with_unfolding_all rfl)
local macro_rules | `(tactic| tm_at "sSet") => `(tactic| (first | exact SetR.here | (apply SetR.there; tm_at "sSet")))
local macro_rules | `(tactic| tm_at "sPut") => `(tactic| first
  | exact PutAt.c 0 (by with_unfolding_all rfl) (by tm_at "sSet")
  | exact PutAt.c 1 (by with_unfolding_all rfl) (by tm_at "sSet")
  | exact PutAt.c 2 (by with_unfolding_all rfl) (by tm_at "sSet")
  | exact PutAt.c 3 (by with_unfolding_all rfl) (by tm_at "sSet")
  | exact PutAt.c 4 (by with_unfolding_all rfl) (by tm_at "sSet")
  | exact PutAt.c 5 (by with_unfolding_all rfl) (by tm_at "sSet"))
local macro_rules | `(tactic| tm_at "gECall") => `(tactic| first
  | ((guard_target = GE _ _ (Expr.Call (Expr.Name "len" _) _ _ _) _ _ _); (with_reducible refine gb_len (by assumption) (by tm_at "sKd") ?hm ?he ?hpl ?_); (case hm => assumption); (case he => rfl); (case hpl => rfl))
  | ((guard_target = GE _ _ (Expr.Call (Expr.Name "int" _) _ _ _) _ _ _); (with_reducible refine gb_int (by assumption) (by tm_at "sKd") ?hm ?he ?hpl ?_); (case hm => assumption); (case he => rfl); (case hpl => rfl))
  | ((guard_target = GE _ _ (Expr.Call (Expr.Name "str" _) _ _ _) _ _ _); (with_reducible refine gb_str (by assumption) (by tm_at "sKd") ?hm ?he ?hpl ?_); (case hm => assumption); (case he => rfl); (case hpl => rfl))
  | ((guard_target = GE _ _ (Expr.Call (Expr.Name "list" _) _ _ _) _ _ _); (with_reducible refine gb_list (by assumption) (by tm_at "sKd") ?hm ?he ?hpl ?_); (case hm => assumption); (case he => rfl); (case hpl => rfl))
  | ((guard_target = GE _ _ (Expr.Call (Expr.Name "tuple" _) _ _ _) _ _ _); (with_reducible refine gb_tuple (by assumption) (by tm_at "sKd") ?hm ?he ?hpl ?_); (case hm => assumption); (case he => rfl); (case hpl => rfl))
  | ((guard_target = GE _ _ (Expr.Call (Expr.Name "min" _) _ _ _) _ _ _); (with_reducible refine gb_min (by assumption) (by tm_at "sKd") ?hm ?he ?hpl ?_); (case hm => assumption); (case he => rfl); (case hpl => rfl))
  | ((guard_target = GE _ _ (Expr.Call (Expr.Name "max" _) _ _ _) _ _ _); (with_reducible refine gb_max (by assumption) (by tm_at "sKd") ?hm ?he ?hpl ?_); (case hm => assumption); (case he => rfl); (case hpl => rfl))
  | ((guard_target = GE _ _ (Expr.Call (Expr.Name "sum" _) _ _ _) _ _ _); (with_reducible refine gb_sum (by assumption) (by tm_at "sKd") ?hm ?he ?hpl ?_); (case hm => assumption); (case he => rfl); (case hpl => rfl))
  | ((guard_target = GE _ _ (Expr.Call (Expr.Name "sorted" _) _ _ _) _ _ _); (with_reducible refine gb_sorted (by assumption) (by tm_at "sKd") ?hm ?he ?hpl ?_); (case hm => assumption); (case he => rfl); (case hpl => rfl))
  | ((guard_target = GE _ _ (Expr.Call (Expr.Name "abs" _) _ _ _) _ _ _); (with_reducible refine gb_abs (by assumption) (by tm_at "sKd") ?hm ?he ?hpl ?_); (case hm => assumption); (case he => rfl); (case hpl => rfl))
  | ((guard_target = GE _ _ (Expr.Call (Expr.Name "range" _) _ _ _) _ _ _); (with_reducible refine gb_range (by assumption) (by tm_at "sKd") ?hm ?he ?hpl ?_); (case hm => assumption); (case he => rfl); (case hpl => rfl))
  | ((guard_target = GE _ _ (Expr.Call (Expr.Name "any" _) _ _ _) _ _ _); (with_reducible refine gb_any (by assumption) (by tm_at "sKd") ?hm ?he ?hpl ?_); (case hm => assumption); (case he => rfl); (case hpl => rfl))
  | ((guard_target = GE _ _ (Expr.Call (Expr.Name "all" _) _ _ _) _ _ _); (with_reducible refine gb_all (by assumption) (by tm_at "sKd") ?hm ?he ?hpl ?_); (case hm => assumption); (case he => rfl); (case hpl => rfl))
  | ((guard_target = GE _ _ (Expr.Call (Expr.Name "dict" _) _ _ _) _ _ _); (with_reducible refine gb_dict (by assumption) (by tm_at "sKd") ?hm ?he ?hpl ?_); (case hm => assumption); (case he => rfl); (case hpl => rfl))
  | ((guard_target = GE _ _ (Expr.Call (Expr.Name "set" _) _ _ _) _ _ _); (with_reducible refine gb_set (by assumption) (by tm_at "sKd") ?hm ?he ?hpl ?_); (case hm => assumption); (case he => rfl); (case hpl => rfl)))
local macro_rules | `(tactic| tm_at "gECall") => `(tactic| (guard_target = GE _ _ (Expr.Call (Expr.Name "_law_roll" _) (_ :: _) [] _) _ _ _; (refine ge_call (FnAt.e (x := "_law_roll") (by assumption)) (by tm_at "sRoom") (by tm_at "sXok") (Nm.gl (by assumption) (by tm_at "sKd")) ?hdb ?he ?hpl ?_); (case hdb => rfl); (case he => rfl); (case hpl => rfl)))
local macro_rules | `(tactic| tm_at "gECall") => `(tactic| (guard_target = GE _ _ (Expr.Call (Expr.Name "_law_dice" _) (_ :: _) [] _) _ _ _; (refine ge_call (FnAt.e (x := "_law_dice") (by assumption)) (by tm_at "sRoom") (by tm_at "sXok") (Nm.gl (by assumption) (by tm_at "sKd")) ?hdb ?he ?hpl ?_); (case hdb => rfl); (case he => rfl); (case hpl => rfl)))
local macro_rules | `(tactic| tm_at "gECall") => `(tactic| (guard_target = GE _ _ (Expr.Call (Expr.Name "_law_rounds" _) (_ :: _) [] _) _ _ _; (refine ge_call (FnAt.e (x := "_law_rounds") (by assumption)) (by tm_at "sRoom") (by tm_at "sXok") (Nm.gl (by assumption) (by tm_at "sKd")) ?hdb ?he ?hpl ?_); (case hdb => rfl); (case he => rfl); (case hpl => rfl)))
local macro_rules | `(tactic| tm_at "gECall") => `(tactic| (guard_target = GE _ _ (Expr.Call (Expr.Name "_law_deed" _) (_ :: _) [] _) _ _ _; (refine ge_call (FnAt.e (x := "_law_deed") (by assumption)) (by tm_at "sRoom") (by tm_at "sXok") (Nm.gl (by assumption) (by tm_at "sKd")) ?hdb ?he ?hpl ?_); (case hdb => rfl); (case he => rfl); (case hpl => rfl)))
local macro_rules | `(tactic| tm_at "gE") => `(tactic| first
  | ((guard_target = GE _ _ (Expr.Name _ _) _ _ _); (with_reducible refine ge_name (by assumption) (by tm_at "sAt") (by tm_at "sKd") (by tm_at "sVk") rfl ?_))
  | ((guard_target = GE _ _ (Expr.Constant (Const.int _) _ _) _ _ _); (with_reducible refine ge_int ?_))
  | ((guard_target = GE _ _ (Expr.Attribute _ _ _) _ _ _); (with_reducible refine ge_fld ?hb ?_); (case hb => rfl))
  | ((guard_target = GE _ _ (Expr.Subscript _ (Expr.Slice _ _ none _) _) _ _ _); (with_reducible refine ge_slice ?_))
  | ((guard_target = GE _ _ (Expr.Call (Expr.Attribute _ _ _) _ _ _) _ _ _); tm_at "gEMeth")
  | ((guard_target = GE _ _ (Expr.Subscript _ _ _) _ _ _); (with_reducible refine ge_sub ?hs ?_); (case hs => exact fun _ _ => rfl))
  | ((guard_target = GE _ _ (Expr.BinOp _ _ _ _) _ _ _); (with_reducible refine ge_bin ?_))
  | ((guard_target = GE _ _ (Expr.Constant (Const.str _) _ _) _ _ _); (with_reducible refine ge_str ?_))
  | ((guard_target = GE _ _ (Expr.Call (Expr.Name _ _) _ _ _) _ _ _); tm_at "gECall")
  | ((guard_target = GE _ _ (Expr.List _ _) _ _ _); (with_reducible refine ge_lst ?_))
  | ((guard_target = GE _ _ (Expr.Tuple _ _ _) _ _ _); (with_reducible refine ge_tup ?_))
  | ((guard_target = GE _ _ (Expr.Constant Const.none _ _) _ _ _); (with_reducible refine ge_none ?_))
  | ((guard_target = GE _ _ (Expr.Constant (Const.bool _) _ _) _ _ _); (with_reducible refine ge_bl ?_))
  | ((guard_target = GE _ _ (Expr.Compare _ [_] [_] _) _ _ _); (with_reducible refine ge_cmp ?hm ?_); (case hm => first | exact nomark _ | rfl))
  | ((guard_target = GE _ _ (Expr.UnaryOp UnaryOp.Not _ _) _ _ _); (with_reducible refine ge_not ?_))
  | ((guard_target = GE _ _ (Expr.UnaryOp _ _ _) _ _ _); (with_reducible refine ge_un ?_))
  | ((guard_target = GE _ _ (Expr.IfExp _ _ _ _) _ _ _); (with_reducible refine ge_if ?_))
  | ((guard_target = GE _ _ (Expr.Compare _ [_, _] [_, _] _) _ _ _); (with_reducible refine ge_chain ?hm ?_); (case hm => with_unfolding_all rfl))
  | ((guard_target = GE _ _ (Expr.BoolOp _ [_] _) _ _ _); (with_reducible refine ge_one ?_))
  | ((guard_target = GE _ _ (Expr.BoolOp BoolOp.And _ _) _ _ _); (with_reducible refine ge_and ?_))
  | ((guard_target = GE _ _ (Expr.BoolOp BoolOp.Or _ _) _ _ _); (with_reducible refine ge_or ?_)))
local macro_rules | `(tactic| tm_at "gEMeth") => `(tactic| first
  | ((guard_target = GE _ _ (Expr.Call (Expr.Attribute _ "append" _) [_] [] _) _ _ _); (with_reducible refine ge_append ?h1 ?h2 ?h3 ?h4 ?h5 ?_); (case h1 => rfl); (case h2 => rfl); (case h3 => rfl); (case h4 => rfl); (case h5 => rfl))
  | ((guard_target = GE _ _ (Expr.Call (Expr.Attribute _ "extend" _) [_] [] _) _ _ _); (with_reducible refine ge_extend ?h1 ?h2 ?h3 ?h4 ?h5 ?_); (case h1 => rfl); (case h2 => rfl); (case h3 => rfl); (case h4 => rfl); (case h5 => rfl))
  | ((guard_target = GE _ _ (Expr.Call (Expr.Attribute _ "remove" _) [_] [] _) _ _ _); (with_reducible refine ge_remove ?h1 ?h2 ?h3 ?h4 ?h5 ?_); (case h1 => rfl); (case h2 => rfl); (case h3 => rfl); (case h4 => rfl); (case h5 => rfl))
  | ((guard_target = GE _ _ (Expr.Call (Expr.Attribute _ "pop" _) [_] [] _) _ _ _); (with_reducible refine ge_popAt ?h1 ?h2 ?h3 ?h4 ?h5 ?_); (case h1 => rfl); (case h2 => rfl); (case h3 => rfl); (case h4 => rfl); (case h5 => rfl)))
local macro_rules | `(tactic| tm_at "gT") => `(tactic| first
  | ((guard_target = GT _ _ (Expr.Compare _ [_] [_] _) _ _ _); (with_reducible refine gt_cmp ?hm ?_); (case hm => first | exact nomark _ | rfl))
  | ((guard_target = GT _ _ (Expr.UnaryOp UnaryOp.Not _ _) _ _ _); (with_reducible refine gt_not ?_))
  | ((guard_target = GT _ _ (Expr.BoolOp _ _ _) _ _ _); (with_reducible refine gt_bool ?_))
  | ((guard_target = GT _ _ (Expr.Compare _ [_, _] [_, _] _) _ _ _); (with_reducible refine gt_chain ?hm ?_); (case hm => with_unfolding_all rfl))
  | ((guard_target = GT _ _ (Expr.Call _ _ _ _) _ _ _); (with_reducible refine gt_val ?he ?_); (case he => intro _; rfl))
  | ((guard_target = GT _ _ (Expr.Subscript _ _ _) _ _ _); (with_reducible refine gt_val ?he ?_); (case he => intro _; rfl))
  | ((guard_target = GT _ _ (Expr.Name _ _) _ _ _); (with_reducible refine gt_val ?he ?_); (case he => intro _; rfl))
  | ((guard_target = GT _ _ (Expr.Attribute _ _ _) _ _ _); (with_reducible refine gt_val ?he ?_); (case he => intro _; rfl)))
local macro_rules | `(tactic| tm_at "gB") => `(tactic| first
  | ((guard_target = GB _ _ (Expr.BoolOp BoolOp.And [_] _) _ _ _); (with_reducible refine gb_and1 ?_))
  | ((guard_target = GB _ _ (Expr.BoolOp BoolOp.Or [_] _) _ _ _); (with_reducible refine gb_or1 ?_))
  | ((guard_target = GB _ _ (Expr.BoolOp BoolOp.And _ _) _ _ _); (with_reducible refine gb_and ?_))
  | ((guard_target = GB _ _ (Expr.BoolOp BoolOp.Or _ _) _ _ _); (with_reducible refine gb_or ?_)))
local macro_rules | `(tactic| tm_at "gA") => `(tactic| first
  | ((guard_target = GA _ _ ([]) _ _ _); (with_reducible refine ga_nil ?_))
  | ((guard_target = GA _ _ (_ :: _) _ _ _); (with_reducible refine ga_cons ?hst ?_); (case hst => rfl)))
local macro_rules | `(tactic| tm_at "gOp") => `(tactic| first
  | ((guard_target = GOp _ _ (binaryOp Operator.Add) (V.int _) (V.int _) _ _); (with_reducible refine go_add ?_))
  | ((guard_target = GOp _ _ (binaryOp Operator.Sub) (V.int _) (V.int _) _ _); (with_reducible refine go_sub ?_))
  | ((guard_target = GOp _ _ (compareOp CmpOp.Eq) (V.int _) (V.int _) _ _); (with_reducible refine go_eqI ?_))
  | ((guard_target = GOp _ _ (compareOp CmpOp.Lt) (V.int _) (V.int _) _ _); (with_reducible refine go_lt ?_))
  | ((guard_target = GOp _ _ (compareOp CmpOp.LtE) (V.int _) (V.int _) _ _); (with_reducible refine go_le ?_))
  | ((guard_target = GOp _ _ (compareOp CmpOp.Gt) (V.int _) (V.int _) _ _); (with_reducible refine go_gt ?_))
  | ((guard_target = GOp _ _ (compareOp CmpOp.GtE) (V.int _) (V.int _) _ _); (with_reducible refine go_ge ?_))
  | ((guard_target = GOp _ _ (compareOp CmpOp.NotEq) (V.int _) (V.int _) _ _); (with_reducible refine go_neI ?_))
  | ((guard_target = GOp _ _ (binaryOp Operator.Mult) (V.int _) (V.int _) _ _); (with_reducible refine go_mul ?c ?_); (case c => first | (left; constructor <;> omega) | (right; constructor <;> omega)))
  | ((guard_target = GOp _ _ (binaryOp Operator.FloorDiv) (V.int _) (V.int _) _ _); (with_reducible refine go_div ?c ?_); (case c => constructor <;> omega))
  | ((guard_target = GOp _ _ (binaryOp Operator.Mod) (V.int _) (V.int _) _ _); (with_reducible refine go_mod ?c ?_); (case c => omega))
  | ((guard_target = GOp _ _ (compareOp CmpOp.Eq) (V.str _) (V.str _) _ _); (with_reducible refine go_eqT ?_))
  | ((guard_target = GOp _ _ (compareOp CmpOp.NotEq) (V.str _) (V.str _) _ _); (with_reducible refine go_neT ?_))
  | ((guard_target = GOp _ _ (compareOp CmpOp.Eq) (V.bl _) (V.bl _) _ _); (with_reducible refine go_eqB ?_))
  | ((guard_target = GOp _ _ (compareOp CmpOp.NotEq) (V.bl _) (V.bl _) _ _); (with_reducible refine go_neB ?_))
  | ((guard_target = GOp _ _ (compareOp CmpOp.In) (V.int _) (V.ref _) _ _); (with_reducible refine go_inI (by tm_at "sSel") ?_))
  | ((guard_target = GOp _ _ (compareOp CmpOp.NotIn) (V.int _) (V.ref _) _ _); (with_reducible refine go_ninI (by tm_at "sSel") ?_))
  | ((guard_target = GOp _ _ (compareOp CmpOp.In) (V.str _) (V.ref _) _ _); (with_reducible refine go_inT (by tm_at "sSel") ?_))
  | ((guard_target = GOp _ _ (compareOp CmpOp.NotIn) (V.str _) (V.ref _) _ _); (with_reducible refine go_ninT (by tm_at "sSel") ?_))
  | ((guard_target = GOp _ _ (compareOp CmpOp.Eq) (_) (V.non) _ _); (with_reducible refine go_eqS rfl ?_))
  | ((guard_target = GOp _ _ (compareOp CmpOp.NotEq) (_) (V.non) _ _); (with_reducible refine go_neS rfl ?_))
  | ((guard_target = GOp _ _ (compareOp CmpOp.Is) (_) (V.non) _ _); (with_reducible refine go_isN ?_))
  | ((guard_target = GOp _ _ (compareOp CmpOp.IsNot) (_) (V.non) _ _); (with_reducible refine go_notN ?_)))
local macro_rules | `(tactic| tm_at "gC") => `(tactic| first
  | ((guard_target = GC _ _ (Value.type "int") [V.int _] _ _); (with_reducible refine gc_intI ?_))
  | ((guard_target = GC _ _ (Value.type "int") [V.bl _] _ _); (with_reducible refine gc_intB ?_))
  | ((guard_target = GC _ _ (Value.builtin "abs") [V.int _] _ _); (with_reducible refine gc_abs ?_))
  | ((guard_target = GC _ _ (Value.builtin "max") [V.int _, V.int _] _ _); (with_reducible refine gc_max2 ?hc ?_); (case hc => rfl))
  | ((guard_target = GC _ _ (Value.builtin "min") [V.int _, V.int _] _ _); (with_reducible refine gc_min2 ?hc ?_); (case hc => rfl))
  | ((guard_target = GC _ _ (Value.type "range") [V.int _] _ _); (with_reducible refine gc_rng1 ?_))
  | ((guard_target = GC _ _ (Value.type "range") [V.int _, V.int _] _ _); (with_reducible refine gc_rng2 ?_))
  | ((guard_target = GC _ _ (Value.builtin "len") [V.ref _] _ _); (with_reducible refine gc_lenR (by tm_at "sSel") ?_))
  | ((guard_target = GC _ _ (Value.builtin "len") [V.ref _] _ _); (with_reducible refine gc_len (by tm_at "sSel") ?_))
  | ((guard_target = GC _ _ (Value.builtin "len") [V.ref _] _ _); (with_reducible refine gc_lenT (by tm_at "sSel") ?_)))
local macro_rules | `(tactic| tm_at "gF") => `(tactic| first
  | ((guard_target = GF _ _ _ _ _ _); (with_reducible refine gf (by tm_at "sSel") (by tm_at "sLkF") ?hc ?hn ?_); (case hc => assumption); (case hn => assumption))
  | ((guard_target = GFS _ _ _ _ _ _); (with_reducible refine gfs (by tm_at "sRpl") (by tm_at "sPutF") ?hc ?hn ?hz ?_); (case hc => assumption); (case hn => assumption); (case hz => exact Nat.le_of_ble_eq_true rfl))
  | ((guard_target = GFA _ _ _ _ _ _ _ _ _); (with_reducible refine gfa (by tm_at "sSel") (by tm_at "sLkF") ?hc ?hn ?_); (case hc => assumption); (case hn => assumption))
  | ((guard_target = Exists fun _ => Exists fun _ => Exists fun _ => (Rpl _ _ _ _ ∧ _ ∧ _)); (with_reducible refine gfaE (by tm_at "sRpl") (by tm_at "sPutF") ?hz ?_); (case hz => exact Nat.le_of_ble_eq_true rfl))
  | ((guard_target = GAS _ _ _ _ _ _ _ _ _); (with_reducible refine gas (by tm_at "sSel") (by tm_at "sIx") ?_))
  | ((guard_target = (HasL _ _ _ ∧ _)); (with_reducible refine And.intro ?hh ?_); (case hh => tm_at "sHasL"))
  | ((guard_target = (IsIns _ _ _ _ _ ∧ _)); (with_reducible refine And.intro ?hh ?_); (case hh => exact isIns (by tm_at "sSel") (by tm_at "sNoF") (by rfl)))
  | ((guard_target = GApp _ _ _ _ _); (with_reducible refine gapp_pt (by tm_at "sRpl") ?hz ?_); (case hz => tm_at "sZ"))
  | ((guard_target = (List.length _ ≤ PySem.sizeLine ∧ _)); (with_reducible refine And.intro ?hz ?_); (case hz => tm_at "sZ"); intro _)
  | ((guard_target = GIp _ _ Operator.Add (V.int _) (V.int _) _ _); (with_reducible refine gip_add ?_))
  | ((guard_target = GIp _ _ Operator.Sub (V.int _) (V.int _) _ _); (with_reducible refine gip_sub ?_))
  | ((guard_target = GRem _ _ _ _ _); (with_reducible refine grem (by tm_at "sRpl") ?hm ?_); (case hm => assumption))
  | ((guard_target = GO _ _ none _ _ _); (with_reducible refine goN ?_))
  | ((guard_target = GO _ _ (some _) _ _ _); (with_reducible refine goS ?_)))
local macro_rules | `(tactic| tm_at "gIx") => `(tactic| first
  | (with_reducible refine gi_lst (by tm_at "sSel") (by tm_at "sIx") ?_)
  | (with_reducible refine gi_tup (by tm_at "sSel") (by tm_at "sIx") ?_))
local macro_rules | `(tactic| tm_at "gS") => `(tactic| first
  | ((guard_target = GS _ _ (Stmt.Assign [Expr.Name _ _] _ _) _ _ _); (with_reducible refine gs_name (by assumption) (by tm_at "sSlot") (by tm_at "sKd") (by tm_at "sLk") (by tm_at "sLf") ?hsw ?_); (case hsw => rfl))
  | ((guard_target = GS _ _ (Stmt.If _ _ _ _) _ _ _); (with_reducible refine gs_if ?_))
  | ((guard_target = GS _ _ (Stmt.AugAssign (Expr.Name _ _) _ _ _) _ _ _); (with_reducible refine gs_aug (by assumption) (by tm_at "sAt") (by tm_at "sSlot") (by tm_at "sKd") (by tm_at "sLk") (by tm_at "sLf") ?_))
  | ((guard_target = GS _ _ (Stmt.AugAssign (Expr.Attribute _ _ _) _ _ _) _ _ _); (with_reducible refine gs_fldaug ?_))
  | ((guard_target = GS _ _ (Stmt.AugAssign (Expr.Subscript _ _ _) _ _ _) _ _ _); (with_reducible refine gs_augS ?ha ?_); (case ha => intros; rfl))
  | ((guard_target = GS _ _ (Stmt.Return (some _) _) _ _ _); (with_reducible refine gs_ret ?_))
  | ((guard_target = GS _ _ (Stmt.Expr (Expr.Constant _ _ _) _) _ _ _); (with_reducible refine gs_doc ?_))
  | ((guard_target = GS _ _ (Stmt.Expr _ _) _ _ _); (with_reducible refine gs_expr ?hsw ?_); (case hsw => rfl))
  | ((guard_target = GS _ _ (Stmt.Assign [Expr.Attribute _ _ _] _ _) _ _ _); (with_reducible refine gs_fld ?hsw ?_); (case hsw => rfl))
  | ((guard_target = GS _ _ (Stmt.Assign [Expr.Subscript _ _ _] _ _) _ _ _); (with_reducible refine gs_asg ?hsw ?hw ?h1 ?_); (case hsw => rfl); (case hw => rfl); (case h1 => rfl))
  | ((guard_target = GS _ _ (Stmt.Assign [Expr.Tuple _ _ _] _ _) _ _ _); (with_reducible refine gs_asg ?hsw ?hw ?h1 ?_); (case hsw => rfl); (case hw => rfl); (case h1 => rfl))
  | ((guard_target = GS _ _ (Stmt.Return none _) _ _ _); (with_reducible refine gs_retN ?_))
  | ((guard_target = GS _ _ (Stmt.Pass _) _ _ _); (with_reducible refine gs_pass ?_))
  | ((guard_target = GS _ _ (Stmt.Break _) _ _ _); (with_reducible refine gs_break ?_))
  | ((guard_target = GS _ _ (Stmt.Continue _) _ _ _); (with_reducible refine gs_continue ?_)))
local macro_rules | `(tactic| tm_at "gG") => `(tactic| first
  | ((guard_target = GG _ _ (Expr.Name _ _) _ _ _ _); (with_reducible refine gg_name (by assumption) (by tm_at "sSlot") (by tm_at "sKd") (by tm_at "sLk") (by tm_at "sLf") ?_))
  | ((guard_target = GG _ _ (Expr.Subscript _ _ _) _ _ _ _); (with_reducible refine gg_sub ?ha ?_); (case ha => intro _; rfl))
  | ((guard_target = GG _ _ (Expr.Tuple _ _ _) _ _ _ _); (with_reducible refine gg_tup ?hc (by tm_at "sSel") ?hn ?hst ?_); (case hc => rfl); (case hn => rfl); (case hst => rfl)))
local macro_rules | `(tactic| tm_at "g") => `(tactic| first
  | ((guard_target = GE _ _ _ _ _ _); tm_at "gE")
  | ((guard_target = GOp _ _ _ _ _ _ _); tm_at "gOp")
  | ((guard_target = GIx _ _ _ _ _ _); tm_at "gIx")
  | tm_at "gF"
  | ((guard_target = (wipe _ _ = wipe _ _ ∧ _)); refine And.intro rfl ?_)
  | ((guard_target = GGs _ _ [] _ _ _ _); (with_reducible refine ggs_nil ?_))
  | ((guard_target = GGs _ _ (_ :: _) _ _ _ _); (with_reducible refine ggs_cons ?hst ?_); (case hst => rfl))
  | ((guard_target = GTs _ _ [] _ _ _); (with_reducible refine gts_nil ?_))
  | ((guard_target = GTs _ _ [_] _ _ _); (with_reducible refine gts_one ?_))
  | ((guard_target = KB _ _ _); (with_reducible refine KB.mk ?_))
  | ((guard_target = GA _ _ _ _ _ _); tm_at "gA")
  | ((guard_target = GS _ _ _ _ _ _); tm_at "gS")
  | ((guard_target = GSs _ _ (_ :: _) _ _ _); (with_reducible refine gss_cons ?_))
  | ((guard_target = GSs _ _ ([]) _ _ _); (with_reducible refine gss_nil ?_))
  | ((guard_target = GT _ _ _ _ _ _); tm_at "gT")
  | ((guard_target = GB _ _ _ _ _ _); tm_at "gB")
  | ((guard_target = GC _ _ _ _ _ _); tm_at "gC")
  | ((guard_target = GG _ _ _ _ _ _ _); tm_at "gG")
  | ((guard_target = GPutL _ _ _ _ _); (with_reducible refine gput (by tm_at "sRpl") (by tm_at "sPut") ?_))
  | ((guard_target = if true = true then _ else _); (with_reducible refine iteT ?_))
  | ((guard_target = if (!true) = true then _ else _); (with_reducible refine iteNT ?_))
  | ((guard_target = if (!false) = true then _ else _); (with_reducible refine iteNF ?_))
  | ((guard_target = if false = true then _ else _); (with_reducible refine iteF ?_))
  | ((guard_target = Exists _); (with_reducible refine Exists.intro _ (And.intro rfl ?_)))
  | (first | with_reducible refine ite_nI ?_ | with_reducible refine ite_nN ?_ | with_reducible refine ite_nnI ?_ | with_reducible refine ite_nnN ?_ | with_reducible refine ite_nR ?_ | with_reducible refine ite_nnR ?_))
local macro_rules | `(tactic| tm_at "sSetN") => `(tactic| (first | exact SetN.here | (apply SetN.there; tm_at "sSetN")))
local macro_rules | `(tactic| tm_at "sWp") => `(tactic| (first | exact Wp.nil | (apply Wp.cons; (tm_at "sWp"); (tm_at "sSetN"))))
local macro_rules | `(tactic| tm_at "fits") => `(tactic| (first | apply Fits.mk | apply FitL.mk))
local macro_rules | `(tactic| tm_at "ent") => `(tactic| (apply Fit.ent; tm_at "fit"))
local macro_rules | `(tactic| tm_at "go") => `(tactic| repeat (tm_at "g"))
local macro_rules | `(tactic| tm_at "gs") => `(tactic| repeat ((fail_if_success (guard_target = GSs _ _ (_ :: _) _ _ _)); tm_at "g"))
local macro_rules | `(tactic| tm_at "if") => `(tactic| first
  | (with_reducible refine ite_ndec (fun _ => ?_) (fun _ => ?_))
  | (with_reducible refine ite_dec (fun _ => ?_) (fun _ => ?_))
  | (with_reducible refine ite_nb (fun _ => ?_) (fun _ => ?_))
  | (with_reducible refine ite_b (fun _ => ?_) (fun _ => ?_)))
theorem ins_cps' {T : List (Addr × Str)} {K : PySem.W.Frag} {o C : Addr} {a : Nat → Addr} {S : CS} {L R : List SA} {m : Str} (s : Sel L (CpsR K o a S) R) (hm : ∀ v1 v2 v3 v4 v5 v6 v7 v8 : V, NoF [("copies", v1), ("least", v2), ("up", v3), ("leader", v4), ("turn", v5), ("with_leader", v6), ("known", v7), ("joined", v8)] m) (e : He.ga K "Copies" = C) : IsIns T C (.ref o) m L := e ▸ ins_cps s hm
local macro_rules | `(tactic| tm_at "fit") => `(tactic| (guard_target = Fit _ (CpsR _ _ _ _ :: _); (first | ((with_reducible apply Fit.find); (case s => tm_at "sSelC"); (case t => tm_at "fit")) | ((with_reducible apply cps_want); (case f => tm_at "fit"); (case e => first | rfl | (simp only [vLd]; done) | (simp [raise_ld, vLd, *]; done))))))
local macro_rules | `(tactic| tm_at "fit") => `(tactic| (guard_target = Fit _ (RestP _ _ _ [] :: _); (first | ((with_reducible apply Fit.find); (case s => tm_at "sSelC"); (case t => tm_at "fit")) | ((with_reducible apply rest_want); (case hk => assumption); (case f => tm_at "fit")) | ((with_reducible apply rest_back); (case s => tm_at "sSel"); (case hk => assumption); (case f => tm_at "fit")))))
local macro_rules | `(tactic| tm_at "gEMeth") => `(tactic| (guard_target = GE _ _ (Expr.Call (Expr.Attribute _ "last_mark" _) [] _ _) _ _ _; (refine ge_meth0 (MeAt.e (C := "Copy") (m := "last_mark") (by assumption)) (by tm_at "sRoom") (by tm_at "sXok") ?ht ?_); (case ht => exact ⟨_, rfl⟩)))
local macro_rules | `(tactic| tm_at "gEMeth") => `(tactic| (guard_target = GE _ _ (Expr.Call (Expr.Attribute _ "raise_high" _) [] _ _) _ _ _; (refine ge_meth0 (MeAt.e (C := "Copies") (m := "raise_high") (by assumption)) (by tm_at "sRoom") (by tm_at "sXok") ?ht ?_); (case ht => exact ⟨_, rfl⟩)))
local macro_rules | `(tactic| tm_at "gEMeth") => `(tactic| (guard_target = GE _ _ (Expr.Call (Expr.Attribute _ "sure" _) [] _ _) _ _ _; (refine ge_meth0 (MeAt.e (C := "Copies") (m := "sure") (by assumption)) (by tm_at "sRoom") (by tm_at "sXok") ?ht ?_); (case ht => exact ⟨_, rfl⟩)))
local macro_rules | `(tactic| tm_at "gEMeth") => `(tactic| (guard_target = GE _ _ (Expr.Call (Expr.Attribute _ "alike" _) [] _ _) _ _ _; (refine ge_meth0 (MeAt.e (C := "Copies") (m := "alike") (by assumption)) (by tm_at "sRoom") (by tm_at "sXok") ?ht ?_); (case ht => exact ⟨_, rfl⟩)))
local macro_rules | `(tactic| tm_at "gEMeth") => `(tactic| (guard_target = GE _ _ (Expr.Call (Expr.Attribute _ "turn_end" _) (_ :: _) _ _) _ _ _; (refine ge_meth (MeAt.e (C := "Copy") (m := "turn_end") (by assumption)) (by tm_at "sRoom") (by tm_at "sXok") ?hst ?hpl ?ht ?_); (case hst => rfl); (case hpl => rfl); (case ht => exact ⟨_, rfl⟩)))
local macro_rules | `(tactic| tm_at "gEMeth") => `(tactic| (guard_target = GE _ _ (Expr.Call (Expr.Attribute _ "agree" _) (_ :: _) _ _) _ _ _; (refine ge_meth (MeAt.e (C := "Copies") (m := "agree") (by assumption)) (by tm_at "sRoom") (by tm_at "sXok") ?hst ?hpl ?ht ?_); (case hst => rfl); (case hpl => rfl); (case ht => exact ⟨_, rfl⟩)))
local macro_rules | `(tactic| tm_at "gEMeth") => `(tactic| (guard_target = GE _ _ (Expr.Call (Expr.Attribute _ "give" _) (_ :: _) _ _) _ _ _; (refine ge_meth (MeAt.e (C := "Copies") (m := "give") (by assumption)) (by tm_at "sRoom") (by tm_at "sXok") ?hst ?hpl ?ht ?_); (case hst => rfl); (case hpl => rfl); (case ht => exact ⟨_, rfl⟩)))
local macro_rules | `(tactic| tm_at "gEMeth") => `(tactic| (guard_target = GE _ _ (Expr.Call (Expr.Attribute _ "ask" _) (_ :: _) _ _) _ _ _; (refine ge_meth (MeAt.e (C := "Copies") (m := "ask") (by assumption)) (by tm_at "sRoom") (by tm_at "sXok") ?hst ?hpl ?ht ?_); (case hst => rfl); (case hpl => rfl); (case ht => exact ⟨_, rfl⟩)))
local macro_rules | `(tactic| tm_at "gEMeth") => `(tactic| (guard_target = GE _ _ (Expr.Call (Expr.Attribute _ "down" _) (_ :: _) _ _) _ _ _; (refine ge_meth (MeAt.e (C := "Copies") (m := "down") (by assumption)) (by tm_at "sRoom") (by tm_at "sXok") ?hst ?hpl ?ht ?_); (case hst => rfl); (case hpl => rfl); (case ht => exact ⟨_, rfl⟩)))
local macro_rules | `(tactic| tm_at "gEMeth") => `(tactic| (guard_target = GE _ _ (Expr.Call (Expr.Attribute _ "up_again" _) (_ :: _) _ _) _ _ _; (refine ge_meth (MeAt.e (C := "Copies") (m := "up_again") (by assumption)) (by tm_at "sRoom") (by tm_at "sXok") ?hst ?hpl ?ht ?_); (case hst => rfl); (case hpl => rfl); (case ht => exact ⟨_, rfl⟩)))
local macro_rules | `(tactic| tm_at "gEMeth") => `(tactic| (guard_target = GE _ _ (Expr.Call (Expr.Attribute _ "lead" _) (_ :: _) _ _) _ _ _; (refine ge_meth (MeAt.e (C := "Copies") (m := "lead") (by assumption)) (by tm_at "sRoom") (by tm_at "sXok") ?hst ?hpl ?ht ?_); (case hst => rfl); (case hpl => rfl); (case ht => exact ⟨_, rfl⟩)))
local macro_rules | `(tactic| tm_at "gEMeth") => `(tactic| (guard_target = GE _ _ (Expr.Call (Expr.Attribute _ "give_as" _) (_ :: _) _ _) _ _ _; (refine ge_meth (MeAt.e (C := "Copies") (m := "give_as") (by assumption)) (by tm_at "sRoom") (by tm_at "sXok") ?hst ?hpl ?ht ?_); (case hst => rfl); (case hpl => rfl); (case ht => exact ⟨_, rfl⟩)))
local macro_rules | `(tactic| tm_at "gEMeth") => `(tactic| (guard_target = GE _ _ (Expr.Call (Expr.Attribute _ "lag" _) (_ :: _) _ _) _ _ _; (refine ge_meth (MeAt.e (C := "Copies") (m := "lag") (by assumption)) (by tm_at "sRoom") (by tm_at "sXok") ?hst ?hpl ?ht ?_); (case hst => rfl); (case hpl => rfl); (case ht => exact ⟨_, rfl⟩)))
local macro_rules | `(tactic| tm_at "sIx") => `(tactic| exact at3 (by assumption))
local macro_rules | `(tactic| tm_at "sPut") => `(tactic| (first | exact put3 (g := V.int) (by assumption) | exact put3 (g := V.bl) (by assumption)))
local macro_rules | `(tactic| tm_at "gF") => `(tactic| ((guard_target = (IsIns _ _ _ _ _ ∧ _)); (with_reducible refine And.intro ?hh ?_); (case hh => exact ins_cps (by tm_at "sSel") (fun _ _ _ _ _ _ _ _ => by tm_at "sNoF"))))
local macro_rules | `(tactic| tm_at "gF") => `(tactic| ((guard_target = (IsIns _ _ _ _ _ ∧ _)); (with_reducible refine And.intro ?hh ?_); (case hh => exact ins_cps' (by tm_at "sSel") (fun _ _ _ _ _ _ _ _ => by tm_at "sNoF") (by rfl))))
abbrev cs8 : List (Str × Str) := [("BadRecord", "record"), ("OutOfLog", "out"), ("Fenced", "fenced"), ("OutOfOrder", "order"), ("NotDue", "due"), ("BadPlan", "plan"), ("BadText", "text"), ("TooLarge", "large")]
theorem told_at {Kf : PySem.W.Frag} {mg : Str → Option Value} {fd : FuncData} (F : FunD Kf "_law_told" "_law_told" (defArgs s_law_told) (defBody s_law_told) (defScope s_law_told) [] [] (He.ga Kf "_law_told") fd) (gl : mg "_law_told" = some (.ref (He.ga Kf "_law_told"))) (cl : ∀ q ∈ cs8, mg q.1 = some (.ref (He.ga Kf q.1))) : ToldAt Kf mg "_law_told" cs8 := by
  refine ⟨⟨fd, _, _, _, n_law_told, "what", _, _, _, _, _, _, F, F.bindsN fun kV doc pm an cdv ct us hl => match us, hl with | [u], _ => rfl, sc_law_told.fs, rfl, .inl rfl, rfl, ?_, fun _ => rfl, rfl, rfl⟩, gl, cl⟩
  repeat (first | exact THds.nil | (refine THds.cons rfl rfl ?_))
/-- what catching finds -/
structure Cat (Kf : PySem.W.Frag) : Prop where
  nd : ∀ P : Str → Prop, P "due" → Catch Kf cs8 (ND Kf) P
  fe : ∀ P : Str → Prop, P "fenced" → Catch Kf cs8 (FE Kf) P
section
variable {T : List (Addr × Str)} {P : Program} {w : World} {Kf : PySem.W.Frag} {mg : Str → Option Value} {base : Heap} {f : Addr} {fd : FuncData}
theorem call_give {o : Addr} {a : Nat → Addr} {S : CS} {what : Str} {L R : List SA} {K : GK} {kx : KX} (e : Ent T L (CpsR Kf o a S :: R)) (wf : Wf S) (hz : ∀ i, i < 3 → (S.c i).rs.length < 1000) (hw : strGood what)
    (k1 : ∀ l, S.leader = some l → ¬ ((S.wl.length : Nat) : Int) < S.least → K (.int ((S.c l).rs.length : Nat)) (CpsR Kf o a (giveP S l what) :: R)) (k2 : S.leader = none ∨ ((S.wl.length : Nat) : Int) < S.least → kx (ND Kf) none (CpsR Kf o a S :: R)) : spE T (spGive Kf) [.ref o, .str what] L K kx := CallS.mk ⟨o, a, S, what, R, rfl, rfl, wf, hz, hw, k1, k2⟩ e
theorem call_ask {o : Addr} {a : Nat → Addr} {S : CS} {k most : Nat} {L R : List SA} {K : GK} {kx : KX} (e : Ent T L (CpsR Kf o a S :: R)) (hk : k < 3) (hm : most < 1000) (wf : Wf S) (hz : S.wl.length < 100) (hp : ∀ r ∈ (S.c k).rs, 0 ≤ r.1)
    (k1 : ∀ l, S.leader = some l → l ≠ k → S.up k = true → K .non (CpsR Kf o a (askP S l k most) :: R)) (k2 : S.leader = none ∨ S.leader = some k ∨ S.up k = false → kx (ND Kf) none (CpsR Kf o a S :: R)) : spE T (spAsk Kf) [.ref o, .int (k : Int), .int (most : Int)] L K kx := CallS.mk ⟨o, a, S, k, most, R, rfl, rfl, hk, hm, wf, hz, hp, k1, k2⟩ e
theorem call_down {o : Addr} {a : Nat → Addr} {S : CS} {k : Nat} {L R : List SA} {K : GK} {kx : KX} (e : Ent T L (CpsR Kf o a S :: R)) (hk : k < 3) (wf : Wf S) (k1 : S.up k = true → K .non (CpsR Kf o a (downP S k) :: R)) (k2 : S.up k = false → kx (ND Kf) none (CpsR Kf o a S :: R)) : spE T (spDown Kf) [.ref o, .int (k : Int)] L K kx := CallS.mk ⟨o, a, S, k, R, rfl, rfl, hk, wf, k1, k2⟩ e
theorem call_up {o : Addr} {a : Nat → Addr} {S : CS} {k : Nat} {L R : List SA} {K : GK} {kx : KX} (e : Ent T L (CpsR Kf o a S :: R)) (hk : k < 3) (k1 : S.up k = false → K .non (CpsR Kf o a { S with up := fset S.up k true } :: R)) (k2 : S.up k = true → kx (ND Kf) none (CpsR Kf o a S :: R)) : spE T (spUp Kf) [.ref o, .int (k : Int)] L K kx := CallS.mk ⟨o, a, S, k, R, rfl, rfl, hk, k1, k2⟩ e
theorem call_lead {o : Addr} {a : Nat → Addr} {S : CS} {k : Nat} {L R : List SA} {K : GK} {kx : KX} (e : Ent T L (CpsR Kf o a S :: R)) (hk : k < 3) (wf : Wf S) (k1 : S.leader = none → S.up k = true → (k : Int) ∈ S.wl → K .non (CpsR Kf o a (leadP S k) :: R)) (k2 : S.leader ≠ none ∨ S.up k = false ∨ (k : Int) ∉ S.wl → kx (ND Kf) none (CpsR Kf o a S :: R)) : spE T (spLead Kf) [.ref o, .int (k : Int)] L K kx := CallS.mk ⟨o, a, S, k, R, rfl, rfl, hk, wf, k1, k2⟩ e
theorem call_lag {o : Addr} {a : Nat → Addr} {S : CS} {k : Nat} {L R : List SA} {K : GK} {kx : KX} (e : Ent T L (CpsR Kf o a S :: R)) (hk : k < 3) (wf : Wf S) (k1 : ∀ l, S.leader = some l → k ≠ l → (k : Int) ∈ S.wl → K .non (CpsR Kf o a (lagP S l k) :: R)) (k2 : S.leader = none ∨ S.leader = some k ∨ (k : Int) ∉ S.wl → kx (ND Kf) none (CpsR Kf o a S :: R)) : spE T (spLag Kf) [.ref o, .int (k : Int)] L K kx := CallS.mk ⟨o, a, S, k, R, rfl, rfl, hk, wf, k1, k2⟩ e
/-! ### _law_deed -/
structure Ok (S : CS) : Prop where
  wf : Wf S
  len : ∀ i, i < 3 → (S.c i).rs.length < 900
  wz : S.wl.length < 90
  pos : ∀ i, i < 3 → ∀ r ∈ (S.c i).rs, 0 ≤ r.1
def whatS (n : Nat) : Str := ("r" : Str) ++ toString (n : Int)
theorem what_ok {n : Nat} (h : n < 17) : strGood (whatS n) ∧ ("r" : Str).length + (toString (n : Int) : Str).length ≤ 100 ∧ (n : Int).natAbs.log2 < 1920 := by
  have q : ∀ n : Nat, n < 17 → (PyData.canLay0 (.str (whatS n)) = true ∧ ("r" : Str).length + (toString (n : Int) : Str).length ≤ 100 ∧ (n : Int).natAbs.log2 < 1920) := by decide +kernel
  exact q n h
def spDeed (Kf : PySem.W.Frag) : SpL := fun vs L K kx => ∃ (d o : Addr) (a : Nat → Addr) (S : CS) (n : Nat) (R : List SA), vs = [.ref d, .ref o, .int (n : Int)] ∧ L = dcP d :: CpsR Kf o a S :: R ∧ Ok S ∧ n < 17 ∧
  ∀ S' b, Step S (whatS n) S' b → K (.bl b) (dcP d :: CpsR Kf o a S' :: R)
/-- all that is at hand -/
structure Me (T : List (Addr × Str)) (P : Program) (w : World) (Kf : PySem.W.Frag) (mg : Str → Option Value) (base : Heap) : Prop where
  give : MeAt T P w Kf mg base 3 "Copies" "give" (spGive Kf)
  ask : MeAt T P w Kf mg base 3 "Copies" "ask" (spAsk Kf)
  down : MeAt T P w Kf mg base 3 "Copies" "down" (spDown Kf)
  up_again : MeAt T P w Kf mg base 1 "Copies" "up_again" (spUp Kf)
  lead : MeAt T P w Kf mg base 3 "Copies" "lead" (spLead Kf)
  lag : MeAt T P w Kf mg base 3 "Copies" "lag" (spLag Kf)
  give_as : MeAt T P w Kf mg base 1 "Copies" "give_as" (spGA Kf)
  sure : MeAt T P w Kf mg base 1 "Copies" "sure" (spSure Kf)
  alike : MeAt T P w Kf mg base 2 "Copies" "alike" (spAl Kf)
theorem ok_deed (fx : Fx Kf mg) (ca : Cat Kf) (me : Me T P w Kf mg base) (hro : FnAt T P w Kf mg base 1 "_law_roll" spRoll) (D : ToldAt Kf mg "_law_told" cs8)
    (LA : ∀ A outer s H E, LamAt T (bx P w Kf mg base n_law_deed "_law_deed" (defScope s_law_deed) f fd.code A outer s H E))
    (F : FunD Kf "_law_deed" "_law_deed" (defArgs s_law_deed) (defBody s_law_deed) (defScope s_law_deed) [] [] f fd) : FnOk P w Kf mg base (L2.CX P w) 6 f fd ["dice", "copies", "count"] (spOf T (spDeed Kf)) := by
  refine def_in F sc_law_deed (fun vs L K kx h => ?_) (fun A outer s H E hr n vs L KK kx h hx σ hσ => ?_)
  · obtain ⟨d, o, a, S, m, R, rfl, _⟩ := h; rfl
  · obtain ⟨d, o, a, S, m, R, rfl, rfl, ok, hm, k⟩ := h
    obtain rfl : σ = [some (.ref d), some (.ref o), some (.int (m : Int)), none, none, none] := hσ
    have LA1 := LA A outer s H E
    cases fx
    cases me
    refine gss_cons ?_
    tm_at "go"
    refine call_roll (by tm_at "ent") (by decide) (by decide) fun kind hk0 hk9 => ?_
    obtain ⟨kind, rfl⟩ : ∃ z : Nat, kind = (z : Int) := ⟨kind.toNat, by omega⟩
    tm_at "go"
    refine call_roll (by tm_at "ent") (by decide) (by decide) fun k0 hk0 hk3 => ?_
    obtain ⟨k0, rfl⟩ : ∃ z : Nat, k0 = (z : Int) := ⟨k0.toNat, by omega⟩
    have hk3 : k0 < 3 := by omega
    tm_at "go"
    tm_at "if"
    · tm_at "go"
      refine ge_told n (by tm_at "sKd") D LA1 (k := 3) hr (LamX.lamS_by (by show LamX.lamSB (defScope s_law_deed) _ = true; decide +kernel)) rfl (fun _ _ _ _ _ => rfl) rfl (by decide +kernel) fun A1 outer1 s1 H1 E1 f1 c1 hr1 n1 hx1 => ?_
      tm_at "go"
      refine gc_strI (by obtain ⟨_, _, h⟩ := what_ok hm; exact h) ?_
      tm_at "go"
      refine go_addS (by obtain ⟨_, h, _⟩ := what_ok hm; rw [sizeLine_eq]; exact Nat.le_trans h (by decide)) ?_
      tm_at "go"
      refine call_give (S := S) (what := whatS m) (R := dcP d :: R) (by tm_at "ent") ok.wf (fun i hi => by have := ok.len i hi; omega) (what_ok hm).1 (fun l hl hw => ?_) (fun hc => ?_)
      · tm_at "go"
        refine go_neS rfl ?_
        rw [decide_eq_false (by nofun)]
        apply Clo.mk (k _ true (.give hl))
        tm_at "ent"
      · refine ca.nd _ ?_
        tm_at "go"
        rw [decide_eq_true rfl]
        apply Clo.mk (k _ false .idle)
        tm_at "ent"
    · rename_i hlt3
      tm_at "go"
      tm_at "if"
      · tm_at "go"
        refine ge_told n (by tm_at "sKd") D LA1 (k := 3) hr (LamX.lamS_by (by show LamX.lamSB (defScope s_law_deed) _ = true; decide +kernel)) rfl (fun _ _ _ _ _ => rfl) rfl (by decide +kernel) fun A1 outer1 s1 H1 E1 f1 c1 hr1 n1 hx1 => ?_
        tm_at "go"
        rw [show (1 + (kind : Int) % 2) = ((1 + kind % 2 : Nat) : Int) by push_cast; rfl]
        refine call_ask (S := S) (R := dcP d :: R) (by tm_at "ent") hk3 (by omega) ok.wf (by have := ok.wz; omega) (ok.pos k0 hk3) (fun l hl hn hu => ?_) (fun hc => ?_)
        · tm_at "go"
          apply Clo.mk (k _ false (.ask (most := 1 + kind % 2) hk3 hl hn (by omega)))
          tm_at "ent"
        · refine ca.nd _ ?_
          tm_at "go"
          apply Clo.mk (k _ false .idle)
          tm_at "ent"
      · tm_at "go"
        tm_at "if"
        · refine cps_in (v := vLd S.leader) (by tm_at "sSel") rfl fun dc lc lu lw lk lj => ?_
          tm_at "go"
          refine gc_sumB (bs := [S.up 0, S.up 1, S.up 2]) rfl (.there (.there .here)) ?_
          tm_at "go"
          tm_at "if"
          · rename_i hsum
            have hup : S.up k0 = true := by
              revert hsum
              rcases k0 with _ | _ | _ | k0
              · cases S.up 0 <;> cases S.up 1 <;> cases S.up 2 <;> simp
              · cases S.up 0 <;> cases S.up 1 <;> cases S.up 2 <;> simp
              · cases S.up 0 <;> cases S.up 1 <;> cases S.up 2 <;> simp
              · omega
            tm_at "go"
            refine call_down (S := S) (R := dcP d :: R) (by tm_at "ent") hk3 ok.wf (fun _ => ?_) (fun hu => ?_)
            · tm_at "go"
              apply Clo.mk (k _ false .down)
              tm_at "ent"
            · rw [hup] at hu; cases hu
          · tm_at "go"
            apply Clo.mk (k _ false .idle)
            tm_at "ent"
        · tm_at "go"
          tm_at "if"
          · tm_at "gs"
            refine gss_cons ?_
            refine GS.ent (L' := CpsR Kf o a S :: dcP d :: R) (by tm_at "ent") ?_
            refine gs_forN (fun i σ' L' => ∃ u w, σ' = [some (.ref d), some (.ref o), some (.int (m : Int)), some (.int (k0 : Int)), some (.int (kind : Int)), w] ∧ L' = CpsR Kf o a { S with up := u } :: dcP d :: R) 3 (passes_of rfl) rfl (n.gl (by tm_at "sKd")) (by assumption) rfl (fun _ => rfl) ?_ ?_ ?_
            · tm_at "go"
              exact ⟨rfl, by decide, by decide, S.up, _, rfl, rfl⟩
            · rintro i σ' L' hi3 ⟨u, w, rfl, rfl⟩
              have hi3 : i < 3 := by omega
              tm_at "go"
              refine ge_told n (by tm_at "sKd") D LA1 (k := 3) hr (LamX.lamS_by (by show LamX.lamSB (defScope s_law_deed) _ = true; decide +kernel)) rfl (fun _ _ _ _ _ => rfl) rfl (by decide +kernel) fun A1 outer1 s1 H1 E1 f1 c1 hr1 n1 hx1 => ?_
              tm_at "go"
              refine call_up (S := { S with up := u }) (k := i) (R := dcP d :: R) (by tm_at "ent") hi3 (fun hu => ?_) (fun hu => ?_)
              · tm_at "go"
                tm_at "fits"
                · exact ⟨fset u i true, _, rfl, rfl⟩
                · tm_at "ent"
              · refine ca.nd _ ?_
                tm_at "go"
                tm_at "fits"
                · exact ⟨u, _, rfl, rfl⟩
                · tm_at "ent"
            · rintro σ' L' ⟨u, w, rfl, rfl⟩
              tm_at "go"
              refine ge_told n (by tm_at "sKd") D LA1 (k := 3) hr (LamX.lamS_by (by show LamX.lamSB (defScope s_law_deed) _ = true; decide +kernel)) rfl (fun _ _ _ _ _ => rfl) rfl (by decide +kernel) fun A1 outer1 s1 H1 E1 f1 c1 hr1 n1 hx1 => ?_
              tm_at "go"
              refine call_lead (S := { S with up := u }) (R := dcP d :: R) (by tm_at "ent") hk3 ⟨ok.wf.wl, ok.wf.ld, ok.wf.len, ok.wf.wlz, ok.wf.nd⟩ (fun hl hu hw => ?_) (fun hc => ?_)
              · tm_at "go"
                apply Clo.mk (k _ false (.lead (u := u) hk3 hl hw))
                tm_at "ent"
              · refine ca.nd _ ?_
                tm_at "go"
                apply Clo.mk (k _ false (.upd (u := u)))
                tm_at "ent"
          · tm_at "go"
            refine ge_told n (by tm_at "sKd") D LA1 (k := 3) hr (LamX.lamS_by (by show LamX.lamSB (defScope s_law_deed) _ = true; decide +kernel)) rfl (fun _ _ _ _ _ => rfl) rfl (by decide +kernel) fun A1 outer1 s1 H1 E1 f1 c1 hr1 n1 hx1 => ?_
            tm_at "go"
            refine call_lag (S := S) (R := dcP d :: R) (by tm_at "ent") hk3 ok.wf (fun l hl hn hw => ?_) (fun hc => ?_)
            · tm_at "go"
              apply Clo.mk (k _ false (.lag hl hn))
              tm_at "ent"
            · refine ca.nd _ ?_
              tm_at "go"
              apply Clo.mk (k _ false .idle)
              tm_at "ent"
end
end K04
set_option Elab.async false
set_option linter.all false
set_option maxRecDepth 100000
set_option maxHeartbeats 3200000
set_option pp.deepTerms false
set_option pp.deepTerms.threshold 10
set_option pp.maxSteps 500
namespace K04
open PySem PySem.Spec L2 SW
open PyProof.Rows hiding St
local macro_rules | `(tactic| tm_at "sAt") => `(tactic| with_reducible (first | exact At.here | (apply At.there; tm_at "sAt")))
local macro_rules | `(tactic| tm_at "sSlot") => `(tactic| with_reducible (first | exact Slot.here | (apply Slot.there; tm_at "sSlot")))
local macro_rules | `(tactic| tm_at "sKd") => `(tactic| with_reducible (first | exact Kd.here | (apply Kd.there; tm_at "sKd")))
local macro_rules | `(tactic| tm_at "sSel") => `(tactic| with_reducible (first | exact Sel.here | (apply Sel.there; tm_at "sSel")))
local macro_rules | `(tactic| tm_at "sRpl") => `(tactic| with_reducible (first | exact Rpl.here | (apply Rpl.there; tm_at "sRpl")))
local macro_rules | `(tactic| tm_at "sTk") => `(tactic| (first | exact Tk.nil | (apply Tk.cons; (tm_at "sSel"); (tm_at "sTk"))))
local macro_rules | `(tactic| tm_at "sVk") => `(tactic| first
  | exact Vk.l
  | exact Vk.c
  | exact Vk.f)
local macro_rules | `(tactic| tm_at "sLk") => `(tactic| first
  | exact Lk.l
  | exact Lk.c)
local macro_rules | `(tactic| tm_at "sLf") => `(tactic| first
  | exact Or.inl rfl
  | exact Or.inr rfl)
local macro_rules | `(tactic| tm_at "sRoom") => `(tactic| first
  | assumption
  | exact L2.Room.mono (by assumption) (by decide))
local macro_rules | `(tactic| tm_at "sXok") => `(tactic| first
  | assumption
  | exact xok0)
local macro_rules | `(tactic| tm_at "sCv") => `(tactic| (first | with_reducible exact Cv.id | with_reducible exact Cv.lst0 | ((with_reducible refine Cv.pt ?_); tm_at "sEq") | ((with_reducible refine Cv.lst ?_); tm_at "sEq") | ((with_reducible refine Cv.val ?_); tm_at "sEq")))
local macro_rules | `(tactic| tm_at "sEq") => `(tactic| (first | rfl | assumption | (simp; done)))
local macro_rules | `(tactic| tm_at "sSelC") => `(tactic| (first | ((with_reducible apply SelC.here); tm_at "sCv") | ((with_reducible apply SelC.there); tm_at "sSelC")))
local macro_rules | `(tactic| tm_at "fit") => `(tactic| (first | with_reducible exact Fit.refl | with_reducible exact Fit.nil | ((with_reducible apply Fit.find); (case s => tm_at "sSelC"); (case t => tm_at "fit")) | ((with_reducible apply Fit.drop); tm_at "fit")))
local macro_rules | `(tactic| tm_at "sLkF") => `(tactic| with_reducible (first | exact LkF.here | (apply LkF.there (by with_unfolding_all rfl); tm_at "sLkF")))
local macro_rules | `(tactic| tm_at "sNoF") => `(tactic| with_reducible (first | exact NoF.nil | (apply NoF.cons (by with_unfolding_all rfl); tm_at "sNoF")))
local macro_rules | `(tactic| tm_at "sPutF") => `(tactic| with_reducible (first | exact PutF.here | exact PutF.nil | (apply PutF.there (by with_unfolding_all rfl); tm_at "sPutF")))
local macro_rules | `(tactic| tm_at "sHasL") => `(tactic| (first | exact hasL_pt (by tm_at "sSel") | exact hasL_R (by tm_at "sSel")))
local macro_rules | `(tactic| tm_at "sZ") => `(tactic| (first | assumption | (simp only [List.length_cons, List.length_nil, List.length_append, PySem.sizeLine_eq]; omega) | (rw [PySem.sizeLine_eq]; simp; done)))
local macro_rules | `(tactic| tm_at "sIx") => `(tactic| with_unfolding_all rfl)
local macro_rules | `(tactic| tm_at "sSet") => `(tactic| (first | exact SetR.here | (apply SetR.there; tm_at "sSet")))
local macro_rules | `(tactic| tm_at "sPut") => `(tactic| first
  | exact PutAt.c 0 (by with_unfolding_all rfl) (by tm_at "sSet")
  | exact PutAt.c 1 (by with_unfolding_all rfl) (by tm_at "sSet")
  | exact PutAt.c 2 (by with_unfolding_all rfl) (by tm_at "sSet")
  | exact PutAt.c 3 (by with_unfolding_all rfl) (by tm_at "sSet")
  | exact PutAt.c 4 (by with_unfolding_all rfl) (by tm_at "sSet")
  | exact PutAt.c 5 (by with_unfolding_all rfl) (by tm_at "sSet"))
local macro_rules | `(tactic| tm_at "gECall") => `(tactic| first
  | ((guard_target = GE _ _ (Expr.Call (Expr.Name "len" _) _ _ _) _ _ _); (with_reducible refine gb_len (by assumption) (by tm_at "sKd") ?hm ?he ?hpl ?_); (case hm => assumption); (case he => rfl); (case hpl => rfl))
  | ((guard_target = GE _ _ (Expr.Call (Expr.Name "int" _) _ _ _) _ _ _); (with_reducible refine gb_int (by assumption) (by tm_at "sKd") ?hm ?he ?hpl ?_); (case hm => assumption); (case he => rfl); (case hpl => rfl))
  | ((guard_target = GE _ _ (Expr.Call (Expr.Name "str" _) _ _ _) _ _ _); (with_reducible refine gb_str (by assumption) (by tm_at "sKd") ?hm ?he ?hpl ?_); (case hm => assumption); (case he => rfl); (case hpl => rfl))
  | ((guard_target = GE _ _ (Expr.Call (Expr.Name "list" _) _ _ _) _ _ _); (with_reducible refine gb_list (by assumption) (by tm_at "sKd") ?hm ?he ?hpl ?_); (case hm => assumption); (case he => rfl); (case hpl => rfl))
  | ((guard_target = GE _ _ (Expr.Call (Expr.Name "tuple" _) _ _ _) _ _ _); (with_reducible refine gb_tuple (by assumption) (by tm_at "sKd") ?hm ?he ?hpl ?_); (case hm => assumption); (case he => rfl); (case hpl => rfl))
  | ((guard_target = GE _ _ (Expr.Call (Expr.Name "min" _) _ _ _) _ _ _); (with_reducible refine gb_min (by assumption) (by tm_at "sKd") ?hm ?he ?hpl ?_); (case hm => assumption); (case he => rfl); (case hpl => rfl))
  | ((guard_target = GE _ _ (Expr.Call (Expr.Name "max" _) _ _ _) _ _ _); (with_reducible refine gb_max (by assumption) (by tm_at "sKd") ?hm ?he ?hpl ?_); (case hm => assumption); (case he => rfl); (case hpl => rfl))
  | ((guard_target = GE _ _ (Expr.Call (Expr.Name "sum" _) _ _ _) _ _ _); (with_reducible refine gb_sum (by assumption) (by tm_at "sKd") ?hm ?he ?hpl ?_); (case hm => assumption); (case he => rfl); (case hpl => rfl))
  | ((guard_target = GE _ _ (Expr.Call (Expr.Name "sorted" _) _ _ _) _ _ _); (with_reducible refine gb_sorted (by assumption) (by tm_at "sKd") ?hm ?he ?hpl ?_); (case hm => assumption); (case he => rfl); (case hpl => rfl))
  | ((guard_target = GE _ _ (Expr.Call (Expr.Name "abs" _) _ _ _) _ _ _); (with_reducible refine gb_abs (by assumption) (by tm_at "sKd") ?hm ?he ?hpl ?_); (case hm => assumption); (case he => rfl); (case hpl => rfl))
  | ((guard_target = GE _ _ (Expr.Call (Expr.Name "range" _) _ _ _) _ _ _); (with_reducible refine gb_range (by assumption) (by tm_at "sKd") ?hm ?he ?hpl ?_); (case hm => assumption); (case he => rfl); (case hpl => rfl))
  | ((guard_target = GE _ _ (Expr.Call (Expr.Name "any" _) _ _ _) _ _ _); (with_reducible refine gb_any (by assumption) (by tm_at "sKd") ?hm ?he ?hpl ?_); (case hm => assumption); (case he => rfl); (case hpl => rfl))
  | ((guard_target = GE _ _ (Expr.Call (Expr.Name "all" _) _ _ _) _ _ _); (with_reducible refine gb_all (by assumption) (by tm_at "sKd") ?hm ?he ?hpl ?_); (case hm => assumption); (case he => rfl); (case hpl => rfl))
  | ((guard_target = GE _ _ (Expr.Call (Expr.Name "dict" _) _ _ _) _ _ _); (with_reducible refine gb_dict (by assumption) (by tm_at "sKd") ?hm ?he ?hpl ?_); (case hm => assumption); (case he => rfl); (case hpl => rfl))
  | ((guard_target = GE _ _ (Expr.Call (Expr.Name "set" _) _ _ _) _ _ _); (with_reducible refine gb_set (by assumption) (by tm_at "sKd") ?hm ?he ?hpl ?_); (case hm => assumption); (case he => rfl); (case hpl => rfl)))
local macro_rules | `(tactic| tm_at "gECall") => `(tactic| (guard_target = GE _ _ (Expr.Call (Expr.Name "_law_roll" _) (_ :: _) [] _) _ _ _; (refine ge_call (FnAt.e (x := "_law_roll") (by assumption)) (by tm_at "sRoom") (by tm_at "sXok") (Nm.gl (by assumption) (by tm_at "sKd")) ?hdb ?he ?hpl ?_); (case hdb => rfl); (case he => rfl); (case hpl => rfl)))
local macro_rules | `(tactic| tm_at "gECall") => `(tactic| (guard_target = GE _ _ (Expr.Call (Expr.Name "_law_dice" _) (_ :: _) [] _) _ _ _; (refine ge_call (FnAt.e (x := "_law_dice") (by assumption)) (by tm_at "sRoom") (by tm_at "sXok") (Nm.gl (by assumption) (by tm_at "sKd")) ?hdb ?he ?hpl ?_); (case hdb => rfl); (case he => rfl); (case hpl => rfl)))
local macro_rules | `(tactic| tm_at "gECall") => `(tactic| (guard_target = GE _ _ (Expr.Call (Expr.Name "_law_rounds" _) (_ :: _) [] _) _ _ _; (refine ge_call (FnAt.e (x := "_law_rounds") (by assumption)) (by tm_at "sRoom") (by tm_at "sXok") (Nm.gl (by assumption) (by tm_at "sKd")) ?hdb ?he ?hpl ?_); (case hdb => rfl); (case he => rfl); (case hpl => rfl)))
local macro_rules | `(tactic| tm_at "gECall") => `(tactic| (guard_target = GE _ _ (Expr.Call (Expr.Name "_law_deed" _) (_ :: _) [] _) _ _ _; (refine ge_call (FnAt.e (x := "_law_deed") (by assumption)) (by tm_at "sRoom") (by tm_at "sXok") (Nm.gl (by assumption) (by tm_at "sKd")) ?hdb ?he ?hpl ?_); (case hdb => rfl); (case he => rfl); (case hpl => rfl)))
local macro_rules | `(tactic| tm_at "gE") => `(tactic| first
  | ((guard_target = GE _ _ (Expr.Name _ _) _ _ _); (with_reducible refine ge_name (by assumption) (by tm_at "sAt") (by tm_at "sKd") (by tm_at "sVk") rfl ?_))
  | ((guard_target = GE _ _ (Expr.Constant (Const.int _) _ _) _ _ _); (with_reducible refine ge_int ?_))
  | ((guard_target = GE _ _ (Expr.Attribute _ _ _) _ _ _); (with_reducible refine ge_fld ?hb ?_); (case hb => rfl))
  | ((guard_target = GE _ _ (Expr.Subscript _ (Expr.Slice _ _ none _) _) _ _ _); (with_reducible refine ge_slice ?_))
  | ((guard_target = GE _ _ (Expr.Call (Expr.Attribute _ _ _) _ _ _) _ _ _); tm_at "gEMeth")
  | ((guard_target = GE _ _ (Expr.Subscript _ _ _) _ _ _); (with_reducible refine ge_sub ?hs ?_); (case hs => exact fun _ _ => rfl))
  | ((guard_target = GE _ _ (Expr.BinOp _ _ _ _) _ _ _); (with_reducible refine ge_bin ?_))
  | ((guard_target = GE _ _ (Expr.Constant (Const.str _) _ _) _ _ _); (with_reducible refine ge_str ?_))
  | ((guard_target = GE _ _ (Expr.Call (Expr.Name _ _) _ _ _) _ _ _); tm_at "gECall")
  | ((guard_target = GE _ _ (Expr.List _ _) _ _ _); (with_reducible refine ge_lst ?_))
  | ((guard_target = GE _ _ (Expr.Tuple _ _ _) _ _ _); (with_reducible refine ge_tup ?_))
  | ((guard_target = GE _ _ (Expr.Constant Const.none _ _) _ _ _); (with_reducible refine ge_none ?_))
  | ((guard_target = GE _ _ (Expr.Constant (Const.bool _) _ _) _ _ _); (with_reducible refine ge_bl ?_))
  | ((guard_target = GE _ _ (Expr.Compare _ [_] [_] _) _ _ _); (with_reducible refine ge_cmp ?hm ?_); (case hm => first | exact nomark _ | rfl))
  | ((guard_target = GE _ _ (Expr.UnaryOp UnaryOp.Not _ _) _ _ _); (with_reducible refine ge_not ?_))
  | ((guard_target = GE _ _ (Expr.UnaryOp _ _ _) _ _ _); (with_reducible refine ge_un ?_))
  | ((guard_target = GE _ _ (Expr.IfExp _ _ _ _) _ _ _); (with_reducible refine ge_if ?_))
  | ((guard_target = GE _ _ (Expr.Compare _ [_, _] [_, _] _) _ _ _); (with_reducible refine ge_chain ?hm ?_); (case hm => with_unfolding_all rfl))
  | ((guard_target = GE _ _ (Expr.BoolOp _ [_] _) _ _ _); (with_reducible refine ge_one ?_))
  | ((guard_target = GE _ _ (Expr.BoolOp BoolOp.And _ _) _ _ _); (with_reducible refine ge_and ?_))
  | ((guard_target = GE _ _ (Expr.BoolOp BoolOp.Or _ _) _ _ _); (with_reducible refine ge_or ?_)))
local macro_rules | `(tactic| tm_at "gEMeth") => `(tactic| first
  | ((guard_target = GE _ _ (Expr.Call (Expr.Attribute _ "append" _) [_] [] _) _ _ _); (with_reducible refine ge_append ?h1 ?h2 ?h3 ?h4 ?h5 ?_); (case h1 => rfl); (case h2 => rfl); (case h3 => rfl); (case h4 => rfl); (case h5 => rfl))
  | ((guard_target = GE _ _ (Expr.Call (Expr.Attribute _ "extend" _) [_] [] _) _ _ _); (with_reducible refine ge_extend ?h1 ?h2 ?h3 ?h4 ?h5 ?_); (case h1 => rfl); (case h2 => rfl); (case h3 => rfl); (case h4 => rfl); (case h5 => rfl))
  | ((guard_target = GE _ _ (Expr.Call (Expr.Attribute _ "remove" _) [_] [] _) _ _ _); (with_reducible refine ge_remove ?h1 ?h2 ?h3 ?h4 ?h5 ?_); (case h1 => rfl); (case h2 => rfl); (case h3 => rfl); (case h4 => rfl); (case h5 => rfl))
  | ((guard_target = GE _ _ (Expr.Call (Expr.Attribute _ "pop" _) [_] [] _) _ _ _); (with_reducible refine ge_popAt ?h1 ?h2 ?h3 ?h4 ?h5 ?_); (case h1 => rfl); (case h2 => rfl); (case h3 => rfl); (case h4 => rfl); (case h5 => rfl)))
local macro_rules | `(tactic| tm_at "gT") => `(tactic| first
  | ((guard_target = GT _ _ (Expr.Compare _ [_] [_] _) _ _ _); (with_reducible refine gt_cmp ?hm ?_); (case hm => first | exact nomark _ | rfl))
  | ((guard_target = GT _ _ (Expr.UnaryOp UnaryOp.Not _ _) _ _ _); (with_reducible refine gt_not ?_))
  | ((guard_target = GT _ _ (Expr.BoolOp _ _ _) _ _ _); (with_reducible refine gt_bool ?_))
  | ((guard_target = GT _ _ (Expr.Compare _ [_, _] [_, _] _) _ _ _); (with_reducible refine gt_chain ?hm ?_); (case hm => with_unfolding_all rfl))
  | ((guard_target = GT _ _ (Expr.Call _ _ _ _) _ _ _); (with_reducible refine gt_val ?he ?_); (case he => intro _; rfl))
  | ((guard_target = GT _ _ (Expr.Subscript _ _ _) _ _ _); (with_reducible refine gt_val ?he ?_); (case he => intro _; rfl))
  | ((guard_target = GT _ _ (Expr.Name _ _) _ _ _); (with_reducible refine gt_val ?he ?_); (case he => intro _; rfl))
  | ((guard_target = GT _ _ (Expr.Attribute _ _ _) _ _ _); (with_reducible refine gt_val ?he ?_); (case he => intro _; rfl)))
local macro_rules | `(tactic| tm_at "gB") => `(tactic| first
  | ((guard_target = GB _ _ (Expr.BoolOp BoolOp.And [_] _) _ _ _); (with_reducible refine gb_and1 ?_))
  | ((guard_target = GB _ _ (Expr.BoolOp BoolOp.Or [_] _) _ _ _); (with_reducible refine gb_or1 ?_))
  | ((guard_target = GB _ _ (Expr.BoolOp BoolOp.And _ _) _ _ _); (with_reducible refine gb_and ?_))
  | ((guard_target = GB _ _ (Expr.BoolOp BoolOp.Or _ _) _ _ _); (with_reducible refine gb_or ?_)))
local macro_rules | `(tactic| tm_at "gA") => `(tactic| first
  | ((guard_target = GA _ _ ([]) _ _ _); (with_reducible refine ga_nil ?_))
  | ((guard_target = GA _ _ (_ :: _) _ _ _); (with_reducible refine ga_cons ?hst ?_); (case hst => rfl)))
local macro_rules | `(tactic| tm_at "gOp") => `(tactic| first
  | ((guard_target = GOp _ _ (binaryOp Operator.Add) (V.int _) (V.int _) _ _); (with_reducible refine go_add ?_))
  | ((guard_target = GOp _ _ (binaryOp Operator.Sub) (V.int _) (V.int _) _ _); (with_reducible refine go_sub ?_))
  | ((guard_target = GOp _ _ (compareOp CmpOp.Eq) (V.int _) (V.int _) _ _); (with_reducible refine go_eqI ?_))
  | ((guard_target = GOp _ _ (compareOp CmpOp.Lt) (V.int _) (V.int _) _ _); (with_reducible refine go_lt ?_))
  | ((guard_target = GOp _ _ (compareOp CmpOp.LtE) (V.int _) (V.int _) _ _); (with_reducible refine go_le ?_))
  | ((guard_target = GOp _ _ (compareOp CmpOp.Gt) (V.int _) (V.int _) _ _); (with_reducible refine go_gt ?_))
  | ((guard_target = GOp _ _ (compareOp CmpOp.GtE) (V.int _) (V.int _) _ _); (with_reducible refine go_ge ?_))
  | ((guard_target = GOp _ _ (compareOp CmpOp.NotEq) (V.int _) (V.int _) _ _); (with_reducible refine go_neI ?_))
  | ((guard_target = GOp _ _ (binaryOp Operator.Mult) (V.int _) (V.int _) _ _); (with_reducible refine go_mul ?c ?_); (case c => first | (left; constructor <;> omega) | (right; constructor <;> omega)))
  | ((guard_target = GOp _ _ (binaryOp Operator.FloorDiv) (V.int _) (V.int _) _ _); (with_reducible refine go_div ?c ?_); (case c => constructor <;> omega))
  | ((guard_target = GOp _ _ (binaryOp Operator.Mod) (V.int _) (V.int _) _ _); (with_reducible refine go_mod ?c ?_); (case c => omega))
  | ((guard_target = GOp _ _ (compareOp CmpOp.Eq) (V.str _) (V.str _) _ _); (with_reducible refine go_eqT ?_))
  | ((guard_target = GOp _ _ (compareOp CmpOp.NotEq) (V.str _) (V.str _) _ _); (with_reducible refine go_neT ?_))
  | ((guard_target = GOp _ _ (compareOp CmpOp.Eq) (V.bl _) (V.bl _) _ _); (with_reducible refine go_eqB ?_))
  | ((guard_target = GOp _ _ (compareOp CmpOp.NotEq) (V.bl _) (V.bl _) _ _); (with_reducible refine go_neB ?_))
  | ((guard_target = GOp _ _ (compareOp CmpOp.In) (V.int _) (V.ref _) _ _); (with_reducible refine go_inI (by tm_at "sSel") ?_))
  | ((guard_target = GOp _ _ (compareOp CmpOp.NotIn) (V.int _) (V.ref _) _ _); (with_reducible refine go_ninI (by tm_at "sSel") ?_))
  | ((guard_target = GOp _ _ (compareOp CmpOp.In) (V.str _) (V.ref _) _ _); (with_reducible refine go_inT (by tm_at "sSel") ?_))
  | ((guard_target = GOp _ _ (compareOp CmpOp.NotIn) (V.str _) (V.ref _) _ _); (with_reducible refine go_ninT (by tm_at "sSel") ?_))
  | ((guard_target = GOp _ _ (compareOp CmpOp.Eq) (_) (V.non) _ _); (with_reducible refine go_eqS rfl ?_))
  | ((guard_target = GOp _ _ (compareOp CmpOp.NotEq) (_) (V.non) _ _); (with_reducible refine go_neS rfl ?_))
  | ((guard_target = GOp _ _ (compareOp CmpOp.Is) (_) (V.non) _ _); (with_reducible refine go_isN ?_))
  | ((guard_target = GOp _ _ (compareOp CmpOp.IsNot) (_) (V.non) _ _); (with_reducible refine go_notN ?_)))
local macro_rules | `(tactic| tm_at "gC") => `(tactic| first
  | ((guard_target = GC _ _ (Value.type "int") [V.int _] _ _); (with_reducible refine gc_intI ?_))
  | ((guard_target = GC _ _ (Value.type "int") [V.bl _] _ _); (with_reducible refine gc_intB ?_))
  | ((guard_target = GC _ _ (Value.builtin "abs") [V.int _] _ _); (with_reducible refine gc_abs ?_))
  | ((guard_target = GC _ _ (Value.builtin "max") [V.int _, V.int _] _ _); (with_reducible refine gc_max2 ?hc ?_); (case hc => rfl))
  | ((guard_target = GC _ _ (Value.builtin "min") [V.int _, V.int _] _ _); (with_reducible refine gc_min2 ?hc ?_); (case hc => rfl))
  | ((guard_target = GC _ _ (Value.type "range") [V.int _] _ _); (with_reducible refine gc_rng1 ?_))
  | ((guard_target = GC _ _ (Value.type "range") [V.int _, V.int _] _ _); (with_reducible refine gc_rng2 ?_))
  | ((guard_target = GC _ _ (Value.builtin "len") [V.ref _] _ _); (with_reducible refine gc_lenR (by tm_at "sSel") ?_))
  | ((guard_target = GC _ _ (Value.builtin "len") [V.ref _] _ _); (with_reducible refine gc_len (by tm_at "sSel") ?_))
  | ((guard_target = GC _ _ (Value.builtin "len") [V.ref _] _ _); (with_reducible refine gc_lenT (by tm_at "sSel") ?_)))
local macro_rules | `(tactic| tm_at "gF") => `(tactic| first
  | ((guard_target = GF _ _ _ _ _ _); (with_reducible refine gf (by tm_at "sSel") (by tm_at "sLkF") ?hc ?hn ?_); (case hc => assumption); (case hn => assumption))
  | ((guard_target = GFS _ _ _ _ _ _); (with_reducible refine gfs (by tm_at "sRpl") (by tm_at "sPutF") ?hc ?hn ?hz ?_); (case hc => assumption); (case hn => assumption); (case hz => exact Nat.le_of_ble_eq_true rfl))
  | ((guard_target = GFA _ _ _ _ _ _ _ _ _); (with_reducible refine gfa (by tm_at "sSel") (by tm_at "sLkF") ?hc ?hn ?_); (case hc => assumption); (case hn => assumption))
  | ((guard_target = Exists fun _ => Exists fun _ => Exists fun _ => (Rpl _ _ _ _ ∧ _ ∧ _)); (with_reducible refine gfaE (by tm_at "sRpl") (by tm_at "sPutF") ?hz ?_); (case hz => exact Nat.le_of_ble_eq_true rfl))
  | ((guard_target = GAS _ _ _ _ _ _ _ _ _); (with_reducible refine gas (by tm_at "sSel") (by tm_at "sIx") ?_))
  | ((guard_target = (HasL _ _ _ ∧ _)); (with_reducible refine And.intro ?hh ?_); (case hh => tm_at "sHasL"))
  | ((guard_target = (IsIns _ _ _ _ _ ∧ _)); (with_reducible refine And.intro ?hh ?_); (case hh => exact isIns (by tm_at "sSel") (by tm_at "sNoF") (by rfl)))
  | ((guard_target = GApp _ _ _ _ _); (with_reducible refine gapp_pt (by tm_at "sRpl") ?hz ?_); (case hz => tm_at "sZ"))
  | ((guard_target = (List.length _ ≤ PySem.sizeLine ∧ _)); (with_reducible refine And.intro ?hz ?_); (case hz => tm_at "sZ"); intro _)
  | ((guard_target = GIp _ _ Operator.Add (V.int _) (V.int _) _ _); (with_reducible refine gip_add ?_))
  | ((guard_target = GIp _ _ Operator.Sub (V.int _) (V.int _) _ _); (with_reducible refine gip_sub ?_))
  | ((guard_target = GRem _ _ _ _ _); (with_reducible refine grem (by tm_at "sRpl") ?hm ?_); (case hm => assumption))
  | ((guard_target = GO _ _ none _ _ _); (with_reducible refine goN ?_))
  | ((guard_target = GO _ _ (some _) _ _ _); (with_reducible refine goS ?_)))
local macro_rules | `(tactic| tm_at "gIx") => `(tactic| first
  | (with_reducible refine gi_lst (by tm_at "sSel") (by tm_at "sIx") ?_)
  | (with_reducible refine gi_tup (by tm_at "sSel") (by tm_at "sIx") ?_))
local macro_rules | `(tactic| tm_at "gS") => `(tactic| first
  | ((guard_target = GS _ _ (Stmt.Assign [Expr.Name _ _] _ _) _ _ _); (with_reducible refine gs_name (by assumption) (by tm_at "sSlot") (by tm_at "sKd") (by tm_at "sLk") (by tm_at "sLf") ?hsw ?_); (case hsw => rfl))
  | ((guard_target = GS _ _ (Stmt.If _ _ _ _) _ _ _); (with_reducible refine gs_if ?_))
  | ((guard_target = GS _ _ (Stmt.AugAssign (Expr.Name _ _) _ _ _) _ _ _); (with_reducible refine gs_aug (by assumption) (by tm_at "sAt") (by tm_at "sSlot") (by tm_at "sKd") (by tm_at "sLk") (by tm_at "sLf") ?_))
  | ((guard_target = GS _ _ (Stmt.AugAssign (Expr.Attribute _ _ _) _ _ _) _ _ _); (with_reducible refine gs_fldaug ?_))
  | ((guard_target = GS _ _ (Stmt.AugAssign (Expr.Subscript _ _ _) _ _ _) _ _ _); (with_reducible refine gs_augS ?ha ?_); (case ha => intros; rfl))
  | ((guard_target = GS _ _ (Stmt.Return (some _) _) _ _ _); (with_reducible refine gs_ret ?_))
  | ((guard_target = GS _ _ (Stmt.Expr (Expr.Constant _ _ _) _) _ _ _); (with_reducible refine gs_doc ?_))
  | ((guard_target = GS _ _ (Stmt.Expr _ _) _ _ _); (with_reducible refine gs_expr ?hsw ?_); (case hsw => rfl))
  | ((guard_target = GS _ _ (Stmt.Assign [Expr.Attribute _ _ _] _ _) _ _ _); (with_reducible refine gs_fld ?hsw ?_); (case hsw => rfl))
  | ((guard_target = GS _ _ (Stmt.Assign [Expr.Subscript _ _ _] _ _) _ _ _); (with_reducible refine gs_asg ?hsw ?hw ?h1 ?_); (case hsw => rfl); (case hw => rfl); (case h1 => rfl))
  | ((guard_target = GS _ _ (Stmt.Assign [Expr.Tuple _ _ _] _ _) _ _ _); (with_reducible refine gs_asg ?hsw ?hw ?h1 ?_); (case hsw => rfl); (case hw => rfl); (case h1 => rfl))
  | ((guard_target = GS _ _ (Stmt.Return none _) _ _ _); (with_reducible refine gs_retN ?_))
  | ((guard_target = GS _ _ (Stmt.Pass _) _ _ _); (with_reducible refine gs_pass ?_))
  | ((guard_target = GS _ _ (Stmt.Break _) _ _ _); (with_reducible refine gs_break ?_))
  | ((guard_target = GS _ _ (Stmt.Continue _) _ _ _); (with_reducible refine gs_continue ?_)))
local macro_rules | `(tactic| tm_at "gG") => `(tactic| first
  | ((guard_target = GG _ _ (Expr.Name _ _) _ _ _ _); (with_reducible refine gg_name (by assumption) (by tm_at "sSlot") (by tm_at "sKd") (by tm_at "sLk") (by tm_at "sLf") ?_))
  | ((guard_target = GG _ _ (Expr.Subscript _ _ _) _ _ _ _); (with_reducible refine gg_sub ?ha ?_); (case ha => intro _; rfl))
  | ((guard_target = GG _ _ (Expr.Tuple _ _ _) _ _ _ _); (with_reducible refine gg_tup ?hc (by tm_at "sSel") ?hn ?hst ?_); (case hc => rfl); (case hn => rfl); (case hst => rfl)))
local macro_rules | `(tactic| tm_at "g") => `(tactic| first
  | ((guard_target = GE _ _ _ _ _ _); tm_at "gE")
  | ((guard_target = GOp _ _ _ _ _ _ _); tm_at "gOp")
  | ((guard_target = GIx _ _ _ _ _ _); tm_at "gIx")
  | tm_at "gF"
  | ((guard_target = (wipe _ _ = wipe _ _ ∧ _)); refine And.intro rfl ?_)
  | ((guard_target = GGs _ _ [] _ _ _ _); (with_reducible refine ggs_nil ?_))
  | ((guard_target = GGs _ _ (_ :: _) _ _ _ _); (with_reducible refine ggs_cons ?hst ?_); (case hst => rfl))
  | ((guard_target = GTs _ _ [] _ _ _); (with_reducible refine gts_nil ?_))
  | ((guard_target = GTs _ _ [_] _ _ _); (with_reducible refine gts_one ?_))
  | ((guard_target = KB _ _ _); (with_reducible refine KB.mk ?_))
  | ((guard_target = GA _ _ _ _ _ _); tm_at "gA")
  | ((guard_target = GS _ _ _ _ _ _); tm_at "gS")
  | ((guard_target = GSs _ _ (_ :: _) _ _ _); (with_reducible refine gss_cons ?_))
  | ((guard_target = GSs _ _ ([]) _ _ _); (with_reducible refine gss_nil ?_))
  | ((guard_target = GT _ _ _ _ _ _); tm_at "gT")
  | ((guard_target = GB _ _ _ _ _ _); tm_at "gB")
  | ((guard_target = GC _ _ _ _ _ _); tm_at "gC")
  | ((guard_target = GG _ _ _ _ _ _ _); tm_at "gG")
  | ((guard_target = GPutL _ _ _ _ _); (with_reducible refine gput (by tm_at "sRpl") (by tm_at "sPut") ?_))
  | ((guard_target = if true = true then _ else _); (with_reducible refine iteT ?_))
  | ((guard_target = if (!true) = true then _ else _); (with_reducible refine iteNT ?_))
  | ((guard_target = if (!false) = true then _ else _); (with_reducible refine iteNF ?_))
  | ((guard_target = if false = true then _ else _); (with_reducible refine iteF ?_))
  | ((guard_target = Exists _); (with_reducible refine Exists.intro _ (And.intro rfl ?_)))
  | (first | with_reducible refine ite_nI ?_ | with_reducible refine ite_nN ?_ | with_reducible refine ite_nnI ?_ | with_reducible refine ite_nnN ?_ | with_reducible refine ite_nR ?_ | with_reducible refine ite_nnR ?_))
local macro_rules | `(tactic| tm_at "sSetN") => `(tactic| (first | exact SetN.here | (apply SetN.there; tm_at "sSetN")))
local macro_rules | `(tactic| tm_at "sWp") => `(tactic| (first | exact Wp.nil | (apply Wp.cons; (tm_at "sWp"); (tm_at "sSetN"))))
local macro_rules | `(tactic| tm_at "fits") => `(tactic| (first | apply Fits.mk | apply FitL.mk))
local macro_rules | `(tactic| tm_at "ent") => `(tactic| (apply Fit.ent; tm_at "fit"))
local macro_rules | `(tactic| tm_at "go") => `(tactic| repeat (tm_at "g"))
local macro_rules | `(tactic| tm_at "gs") => `(tactic| repeat ((fail_if_success (guard_target = GSs _ _ (_ :: _) _ _ _)); tm_at "g"))
local macro_rules | `(tactic| tm_at "if") => `(tactic| first
  | (with_reducible refine ite_ndec (fun _ => ?_) (fun _ => ?_))
  | (with_reducible refine ite_dec (fun _ => ?_) (fun _ => ?_))
  | (with_reducible refine ite_nb (fun _ => ?_) (fun _ => ?_))
  | (with_reducible refine ite_b (fun _ => ?_) (fun _ => ?_)))
local macro_rules | `(tactic| tm_at "fit") => `(tactic| (guard_target = Fit _ (CpsR _ _ _ _ :: _); (first | ((with_reducible apply Fit.find); (case s => tm_at "sSelC"); (case t => tm_at "fit")) | ((with_reducible apply cps_want); (case f => tm_at "fit"); (case e => first | rfl | (simp only [vLd]; done) | (simp [raise_ld, vLd, *]; done))))))
local macro_rules | `(tactic| tm_at "fit") => `(tactic| (guard_target = Fit _ (RestP _ _ _ [] :: _); (first | ((with_reducible apply Fit.find); (case s => tm_at "sSelC"); (case t => tm_at "fit")) | ((with_reducible apply rest_want); (case hk => assumption); (case f => tm_at "fit")) | ((with_reducible apply rest_back); (case s => tm_at "sSel"); (case hk => assumption); (case f => tm_at "fit")))))
local macro_rules | `(tactic| tm_at "gEMeth") => `(tactic| (guard_target = GE _ _ (Expr.Call (Expr.Attribute _ "last_mark" _) [] _ _) _ _ _; (refine ge_meth0 (MeAt.e (C := "Copy") (m := "last_mark") (by assumption)) (by tm_at "sRoom") (by tm_at "sXok") ?ht ?_); (case ht => exact ⟨_, rfl⟩)))
local macro_rules | `(tactic| tm_at "gEMeth") => `(tactic| (guard_target = GE _ _ (Expr.Call (Expr.Attribute _ "raise_high" _) [] _ _) _ _ _; (refine ge_meth0 (MeAt.e (C := "Copies") (m := "raise_high") (by assumption)) (by tm_at "sRoom") (by tm_at "sXok") ?ht ?_); (case ht => exact ⟨_, rfl⟩)))
local macro_rules | `(tactic| tm_at "gEMeth") => `(tactic| (guard_target = GE _ _ (Expr.Call (Expr.Attribute _ "sure" _) [] _ _) _ _ _; (refine ge_meth0 (MeAt.e (C := "Copies") (m := "sure") (by assumption)) (by tm_at "sRoom") (by tm_at "sXok") ?ht ?_); (case ht => exact ⟨_, rfl⟩)))
local macro_rules | `(tactic| tm_at "gEMeth") => `(tactic| (guard_target = GE _ _ (Expr.Call (Expr.Attribute _ "alike" _) [] _ _) _ _ _; (refine ge_meth0 (MeAt.e (C := "Copies") (m := "alike") (by assumption)) (by tm_at "sRoom") (by tm_at "sXok") ?ht ?_); (case ht => exact ⟨_, rfl⟩)))
local macro_rules | `(tactic| tm_at "gEMeth") => `(tactic| (guard_target = GE _ _ (Expr.Call (Expr.Attribute _ "turn_end" _) (_ :: _) _ _) _ _ _; (refine ge_meth (MeAt.e (C := "Copy") (m := "turn_end") (by assumption)) (by tm_at "sRoom") (by tm_at "sXok") ?hst ?hpl ?ht ?_); (case hst => rfl); (case hpl => rfl); (case ht => exact ⟨_, rfl⟩)))
local macro_rules | `(tactic| tm_at "gEMeth") => `(tactic| (guard_target = GE _ _ (Expr.Call (Expr.Attribute _ "agree" _) (_ :: _) _ _) _ _ _; (refine ge_meth (MeAt.e (C := "Copies") (m := "agree") (by assumption)) (by tm_at "sRoom") (by tm_at "sXok") ?hst ?hpl ?ht ?_); (case hst => rfl); (case hpl => rfl); (case ht => exact ⟨_, rfl⟩)))
local macro_rules | `(tactic| tm_at "gEMeth") => `(tactic| (guard_target = GE _ _ (Expr.Call (Expr.Attribute _ "give" _) (_ :: _) _ _) _ _ _; (refine ge_meth (MeAt.e (C := "Copies") (m := "give") (by assumption)) (by tm_at "sRoom") (by tm_at "sXok") ?hst ?hpl ?ht ?_); (case hst => rfl); (case hpl => rfl); (case ht => exact ⟨_, rfl⟩)))
local macro_rules | `(tactic| tm_at "gEMeth") => `(tactic| (guard_target = GE _ _ (Expr.Call (Expr.Attribute _ "ask" _) (_ :: _) _ _) _ _ _; (refine ge_meth (MeAt.e (C := "Copies") (m := "ask") (by assumption)) (by tm_at "sRoom") (by tm_at "sXok") ?hst ?hpl ?ht ?_); (case hst => rfl); (case hpl => rfl); (case ht => exact ⟨_, rfl⟩)))
local macro_rules | `(tactic| tm_at "gEMeth") => `(tactic| (guard_target = GE _ _ (Expr.Call (Expr.Attribute _ "down" _) (_ :: _) _ _) _ _ _; (refine ge_meth (MeAt.e (C := "Copies") (m := "down") (by assumption)) (by tm_at "sRoom") (by tm_at "sXok") ?hst ?hpl ?ht ?_); (case hst => rfl); (case hpl => rfl); (case ht => exact ⟨_, rfl⟩)))
local macro_rules | `(tactic| tm_at "gEMeth") => `(tactic| (guard_target = GE _ _ (Expr.Call (Expr.Attribute _ "up_again" _) (_ :: _) _ _) _ _ _; (refine ge_meth (MeAt.e (C := "Copies") (m := "up_again") (by assumption)) (by tm_at "sRoom") (by tm_at "sXok") ?hst ?hpl ?ht ?_); (case hst => rfl); (case hpl => rfl); (case ht => exact ⟨_, rfl⟩)))
local macro_rules | `(tactic| tm_at "gEMeth") => `(tactic| (guard_target = GE _ _ (Expr.Call (Expr.Attribute _ "lead" _) (_ :: _) _ _) _ _ _; (refine ge_meth (MeAt.e (C := "Copies") (m := "lead") (by assumption)) (by tm_at "sRoom") (by tm_at "sXok") ?hst ?hpl ?ht ?_); (case hst => rfl); (case hpl => rfl); (case ht => exact ⟨_, rfl⟩)))
local macro_rules | `(tactic| tm_at "gEMeth") => `(tactic| (guard_target = GE _ _ (Expr.Call (Expr.Attribute _ "give_as" _) (_ :: _) _ _) _ _ _; (refine ge_meth (MeAt.e (C := "Copies") (m := "give_as") (by assumption)) (by tm_at "sRoom") (by tm_at "sXok") ?hst ?hpl ?ht ?_); (case hst => rfl); (case hpl => rfl); (case ht => exact ⟨_, rfl⟩)))
local macro_rules | `(tactic| tm_at "gEMeth") => `(tactic| (guard_target = GE _ _ (Expr.Call (Expr.Attribute _ "lag" _) (_ :: _) _ _) _ _ _; (refine ge_meth (MeAt.e (C := "Copies") (m := "lag") (by assumption)) (by tm_at "sRoom") (by tm_at "sXok") ?hst ?hpl ?ht ?_); (case hst => rfl); (case hpl => rfl); (case ht => exact ⟨_, rfl⟩)))
local macro_rules | `(tactic| tm_at "sIx") => `(tactic| exact at3 (by assumption))
local macro_rules | `(tactic| tm_at "sPut") => `(tactic| (first | exact put3 (g := V.int) (by assumption) | exact put3 (g := V.bl) (by assumption)))
local macro_rules | `(tactic| tm_at "gF") => `(tactic| ((guard_target = (IsIns _ _ _ _ _ ∧ _)); (with_reducible refine And.intro ?hh ?_); (case hh => exact ins_cps (by tm_at "sSel") (fun _ _ _ _ _ _ _ _ => by tm_at "sNoF"))))
local macro_rules | `(tactic| tm_at "gF") => `(tactic| ((guard_target = (IsIns _ _ _ _ _ ∧ _)); (with_reducible refine And.intro ?hh ?_); (case hh => exact ins_cps' (by tm_at "sSel") (fun _ _ _ _ _ _ _ _ => by tm_at "sNoF") (by rfl))))
theorem Inv.ok {S : CS} {n : Nat} {G : Int → List Rec} {C : List Rec} {gv : List Str} (I : Inv S n G C gv) (h : n ≤ 17) : Ok S :=
  ⟨⟨I.wl, I.ldw, fun i hi => by have := I.len i hi; omega, by have := I.wlz; omega, I.nd⟩, fun i hi => by have := I.len i hi; omega, by have := I.wlz; omega, fun i hi r hr => by have := (I.tn i hi r hr).1; omega⟩
theorem Inv.al {S : CS} {n : Nat} {G : Int → List Rec} {C : List Rec} {gv : List Str} (I : Inv S n G C gv) : AlikeP S := fun i j hi hj p r q h1 h2 e => (I.mt i hi).alike (I.mt j hj) h1 h2 e
theorem Inv.sure {S : CS} {n l : Nat} {G : Int → List Rec} {C : List Rec} {gv : List Str} (I : Inv S n G C gv) (hl : S.leader = some l) : sureL S l = C.map (·.2) := by
  obtain ⟨hl3, _⟩ := I.ldw l hl
  obtain ⟨h0, h1, h2⟩ := I.hi l hl3
  unfold sureL
  rw [I.cl l hl]
  obtain ⟨m, hm⟩ : ∃ m : Nat, (S.c l).high = (m : Int) := ⟨_, (Int.toNat_of_nonneg h0).symm⟩
  rw [hm, cut_n]; rfl
theorem Inv.given {S : CS} {n l : Nat} {G : Int → List Rec} {C : List Rec} {gv : List Str} (I : Inv S n G C gv) (hl : S.leader = some l) : ∀ x ∈ sureL S l, x ∈ gv := by
  obtain ⟨hl3, _⟩ := I.ldw l hl
  intro x hx
  unfold sureL at hx
  obtain ⟨r, hr, rfl⟩ := List.mem_map.mp hx
  refine I.gv l hl3 r ?_
  unfold SW.cutD at hr
  exact List.mem_of_mem_drop (List.mem_of_mem_take hr)
theorem cut_s {α : Type} {rs : List α} {n : Nat} : SW.cutD rs none (some (n : Int)) = rs.take n := by
  unfold SW.cutD
  rw [HT.sIx_nat]
  show (rs.drop 0).take (min n rs.length - 0) = _
  rw [List.drop_zero, Nat.sub_zero, List.take_eq_take_iff]; omega
section
variable {T : List (Addr × Str)} {X : Cx} {σ : St} {L L' R' : List SA} {K : GK} {α : Type} {R : PRep α}
theorem gg_val {f : α → V} {g : α → Prop} (c : Scal R f g) {e : Expr} {v : V} {d : α} {K : St → List SA → Prop} (r : Rv T L v R d) (h : g d → GG T X e (f d) σ L K) : GG T X e v σ L K := fun H hs Q q => by
  obtain ⟨rfl, k⟩ := c.to (r H hs)
  exact h k H hs Q q
theorem cps_inE {KK : PySem.W.Frag} {o : Addr} {a : Nat → Addr} {S : CS} {R : List SA} {v : V} {e : Expr} (s : Sel L (CpsR KK o a S) R) (ev : vLd S.leader = v) (h : ∀ dc lc lu lw lk lj, GE T X e σ (cpsF KK o a dc lc lu lw lk lj S v R) K) : GE T X e σ L K := GE.via fun H hs => by
  subst ev
  obtain ⟨dc, lc, lu, lw, lk, lj, h'⟩ := cps_unf (hs.sel s)
  exact ⟨_, h', h dc lc lu lw lk lj⟩
theorem ge_fldV {e : Expr} {f : Str} {pos : Pos} (hb : attributeBase e f X.env (eval e X.env) = eval e X.env) (h : GE T X e σ L fun x L1 => ∀ H, Hs T L1 H → ∃ L2, Hs T L2 H ∧ GF T X.K x f L2 K) : GE T X (.Attribute e f pos) σ L K :=
  ge_fld hb fun H hs Q q => h H hs Q fun x L1 H1 k1 h1 => by
    obtain ⟨L2, h2, k2⟩ := k1 H1 h1
    exact q x L2 H1 k2 h2
theorem gf_cps {KK K2 : PySem.W.Frag} {o : Addr} {a : Nat → Addr} {S : CS} {R : List SA} {v : V} {f : Str} (s : Sel L (CpsR KK o a S) R) (ev : vLd S.leader = v) (h : ∀ dc lc lu lw lk lj, GF T K2 (.ref o) f (cpsF KK o a dc lc lu lw lk lj S v R) K) : ∀ H, Hs T L H → ∃ L2, Hs T L2 H ∧ GF T K2 (.ref o) f L2 K := fun H hs => by
  subst ev
  obtain ⟨dc, lc, lu, lw, lk, lj, h'⟩ := cps_unf (hs.sel s)
  exact ⟨_, h', h dc lc lu lw lk lj⟩
theorem ent_val {v : V} {d : α} (r : Rv T L v R d) : Ent T L (Val R v d :: L) := fun H h => h.addP Val.pers (r H h)
theorem gss_fact {D : EndsL} {sts : List Stmt} {φ : Prop} (f : ∀ H, Hs T L H → φ) (h : φ → GSs T X sts D σ L) : GSs T X sts D σ L := fun H hs Q q => h (f H hs) H hs Q q
theorem v_tl {v : V} {ds : List α} (r : Rv T L v (rTl R) ds) : ∀ H, Hs T L H → ∃ a, v = .ref a := fun H h => by
  obtain ⟨a, xs, e, _⟩ := r H h
  exact ⟨a, e⟩
theorem rv_tl1 {a : Addr} {x : V} {d : α} (s : Sel L (pt a (.tup [x])) R') (h : Rv T L x R d) : Rv T L (.ref a) (rTl R) [d] := fun H hs => ⟨a, [x], rfl, hs.at s, .cons (h H hs) .nil⟩
end
section
variable {T : List (Addr × Str)} {P : Program} {w : World} {Kf : PySem.W.Frag} {mg : Str → Option Value} {base : Heap} {f : Addr} {fd : FuncData}
theorem call_csi {o d : Addr} {least : Int} {L R : List SA} {K : GK} {kx : KX} (h : L = pt o (.ins (He.ga Kf "Copies") d []) :: R) (k : ∀ a, K .non (CpsR Kf o a (S0 least) :: R)) : spCsI Kf [.ref o, .int 3, .int least] L K kx := ⟨o, d, least, R, rfl, h, k⟩
theorem call_deed {d o : Addr} {a : Nat → Addr} {S : CS} {n : Nat} {L R : List SA} {K : GK} {kx : KX} (e : Ent T L (dcP d :: CpsR Kf o a S :: R)) (ok : Ok S) (hn : n < 17) (k : ∀ S' b, Step S (whatS n) S' b → K (.bl b) (dcP d :: CpsR Kf o a S' :: R)) : spE T (spDeed Kf) [.ref d, .ref o, .int (n : Int)] L K kx := CallS.mk ⟨d, o, a, S, n, R, rfl, rfl, ok, hn, k⟩ e
theorem call_sure {o : Addr} {a : Nat → Addr} {S : CS} {L R : List SA} {K : GK} {kx : KX} (e : Ent T L (CpsR Kf o a S :: R)) (wf : Wf S) (k1 : S.leader = none → K .non (CpsR Kf o a S :: R)) (k2 : ∀ l, S.leader = some l → ∀ v, K v (Val (rTl rStr) v (sureL S l) :: CpsR Kf o a S :: R)) : spE T (spSure Kf) [.ref o] L K kx := CallS.mk ⟨o, a, S, R, rfl, rfl, wf, k1, k2⟩ e
theorem call_al {o : Addr} {a : Nat → Addr} {S : CS} {L R : List SA} {K : GK} {kx : KX} (e : Ent T L (CpsR Kf o a S :: R)) (wf : Wf S) (al : AlikeP S) (k : K (.bl true) (CpsR Kf o a S :: R)) : spE T (spAl Kf) [.ref o] L K kx := CallS.mk ⟨o, a, S, R, rfl, rfl, wf, al, k⟩ e
theorem call_ga {o : Addr} {a : Nat → Addr} {S : CS} {k : Nat} {t : Int} {what : Str} {L R : List SA} {K : GK} {kx : KX} (e : Ent T L (CpsR Kf o a S :: R)) (h : S.leader ≠ some k ∨ t ≠ S.turn) (q : kx (FE Kf) none (CpsR Kf o a S :: R)) : spE T (spGA Kf) [.ref o, .int (k : Int), .int t, .str what] L K kx := CallS.mk ⟨o, a, S, k, t, what, R, rfl, rfl, h, q⟩ e
def fr : Nat → CS
  | 0 => giveP (S0 2) 0 "one"
  | i + 1 => askP (fr i) 0 (if i % 2 = 0 then 1 else 2) 5
def frD : CS := downP (fr 4) 0
def frL : CS := leadP frD 1
theorem fr_ok : ∀ i, i ≤ 4 → (fr i).wl = [0, 1, 2] ∧ (fr i).leader = some 0 ∧ (∀ j, j < 3 → (fr i).up j = true) ∧ ∀ j, j < 3 → ((fr i).c j).rs.length ≤ 1 ∧ ∀ r ∈ ((fr i).c j).rs, 0 ≤ r.1 := by decide +kernel
theorem frD_ok : frD.wl = [0, 1, 2] ∧ frD.leader = none ∧ frD.up 0 = false ∧ frD.up 1 = true ∧ ∀ j, j < 3 → (frD.c j).rs.length ≤ 1 := by decide +kernel
theorem frL_ok : frL.wl = [1] ∧ frL.leader = some 1 ∧ (∀ j, j < 3 → (frL.c j).rs.length ≤ 1) ∧ SW.cutD (sureL frL 1) none (some 1) = [("one" : Str)] ∧ frL.turn = 2 := by decide +kernel
theorem wl3 {S : CS} (h : S.wl = [0, 1, 2]) (hl : ∀ l, S.leader = some l → l < 3) (hz : ∀ j, j < 3 → (S.c j).rs.length ≤ 1) : Wf S := by
  refine ⟨fun x hx => ?_, fun l hh => ⟨hl l hh, ?_⟩, fun i hi => Nat.le_trans (hz i hi) (by decide), by rw [h]; decide, by rw [h]; decide⟩
  · rw [h] at hx
    simp at hx
    rcases hx with rfl | rfl | rfl
    · exact ⟨0, by decide, rfl⟩
    · exact ⟨1, by decide, rfl⟩
    · exact ⟨2, by decide, rfl⟩
  · rw [h]
    have := hl l hh
    rcases l with _ | _ | _ | l
    · decide
    · decide
    · decide
    · omega
theorem fr_wf (i : Nat) (h : i ≤ 4) : Wf (fr i) := by
  obtain ⟨h1, h2, _, h4⟩ := fr_ok i h
  exact wl3 h1 (fun l hl => by rw [h2] at hl; cases hl; decide) fun j hj => (h4 j hj).1
theorem frD_wf : Wf frD := by
  obtain ⟨h1, h2, _, _, h4⟩ := frD_ok
  exact wl3 h1 (fun l hl => by rw [h2] at hl; cases hl) h4
theorem frL_wf : Wf frL := by
  obtain ⟨h1, h2, h4, _⟩ := frL_ok
  refine ⟨fun x hx => ?_, fun l hl => ?_, fun i hi => Nat.le_trans (h4 i hi) (by decide), by rw [h1]; decide, by rw [h1]; decide⟩
  · rw [h1] at hx
    simp at hx
    exact ⟨1, by decide, hx⟩
  · rw [h2] at hl; cases hl
    rw [h1]; exact ⟨by decide, by decide⟩
def spLaw (Kf : PySem.W.Frag) : SpL := fun vs L K kx => ∃ (s0 : Addr) (ns : List Int) (R : List SA), vs = [.ref s0] ∧ L = ScrP Kf s0 ns :: R ∧ ns.length ≤ 1000 ∧ ∀ L', K (.bl true) L'
theorem ok_law (fx : Fx Kf mg) (ca : Cat Kf) (me : Me T P w Kf mg base) (hcs : MkAt T P w Kf mg base 3 "Copies" (spCsI Kf)) (hro : FnAt T P w Kf mg base 1 "_law_roll" spRoll) (hrs : FnAt T P w Kf mg base 2 "_law_rounds" (spRounds Kf)) (hde : FnAt T P w Kf mg base 6 "_law_deed" (spDeed Kf)) (D : ToldAt Kf mg "_law_told" cs8)
    (LA : ∀ A outer s H E, LamAt T (bx P w Kf mg base n_law "law" (defScope s_law) f fd.code A outer s H E))
    (F : FunD Kf "law" "law" (defArgs s_law) (defBody s_law) (defScope s_law) [] [] f fd) : FnOk P w Kf mg base (L2.CX P w) 7 f fd ["script"] (spOf T (spLaw Kf)) := by
  refine def_in F sc_law (fun vs L K kx h => ?_) (fun A outer s H E hr n vs L KK kx h hx σ hσ => ?_)
  · obtain ⟨s0, ns, R, rfl, _⟩ := h; rfl
  · obtain ⟨s0, ns, R, rfl, rfl, hz, k⟩ := h
    obtain rfl : σ = [some (.ref s0), none, none, none, none, none, none, none, none, none] := hσ
    have LA1 := LA A outer s H E
    cases fx
    cases me
    refine gss_cons ?_
    refine gs_forLx (passes_of rfl) rfl (fun _ => rfl) ?_
    tm_at "go"
    refine CallS.mk ⟨s0, ns, 2, R, rfl, rfl, hz, fun Dl as => ?_⟩ (by tm_at "ent")
    refine ⟨Dl, as.map V.ref, fun i σ' L' => ∃ u1 u2 u3 u4 u5 u6 u7 u8, σ' = [some (.ref s0), u1, u2, u3, u4, u5, u6, u7, u8, none] ∧ L' = pt Dl (.lst (as.map V.ref)) :: ObS dcP (as.drop i) :: R, rfl, ?_, ?_, ?_, ?_⟩
    · exact Fits.mk ⟨_, _, _, _, _, _, _, _, rfl, rfl⟩ obl_out
    · rintro i σ' L' ⟨u1, u2, u3, u4, u5, u6, u7, u8, rfl, rfl⟩
      exact ⟨_, .here⟩
    · rintro i x σ' L' hi ⟨u1, u2, u3, u4, u5, u6, u7, u8, rfl, rfl⟩
      obtain ⟨d, hd, rfl⟩ : ∃ d, as[i]? = some d ∧ x = V.ref d := by
        rw [List.getElem?_map] at hi
        cases hq : as[i]? with
        | none => rw [hq] at hi; cases hi
        | some y => rw [hq] at hi; cases hi; exact ⟨y, rfl, rfl⟩
      refine GG.ent (L' := dcP d :: pt Dl (.lst (as.map V.ref)) :: ObS dcP (as.drop (i + 1)) :: R) ?_ ?_
      · exact Ent.trans (Ent.perm (List.Perm.swap _ _ _)) (Ent.trans (obs_drop hd) (Fit.ent (Fit.tl (Fit.of (List.Perm.swap _ _ _)))))
      generalize hObs : ObS dcP (as.drop (i + 1)) = Obs
      tm_at "go"
      refine ge_make hcs (by tm_at "sRoom") (by tm_at "sXok") (n.gl (by tm_at "sKd")) rfl rfl rfl ?_
      tm_at "go"
      refine call_roll (by tm_at "ent") (by decide) (by decide) fun r0 hr0 hr2 => ?_
      tm_at "go"
      intro o dx
      refine call_csi rfl fun a => ⟨rfl, ?_⟩
      tm_at "go"
      rename_i ps pg pz
      refine gs_forNx (passes_of rfl) rfl (n.gl (by tm_at "sKd")) (by assumption) rfl (fun _ => rfl) ?_
      tm_at "go"
      refine call_roll (by tm_at "ent") (by decide) (by decide) fun m hm0 hm17 => ?_
      tm_at "go"
      refine ⟨m, fun i σ' L' => ∃ S G C gv sl vs u4 u5, σ' = [some (.ref s0), some (.ref d), some vs, some (.ref pg), u4, u5, u6, some (.ref o), u8, none] ∧ L' = pt pg (.lst (gv.map V.str)) :: Val (rTl rStr) vs sl :: dcP d :: CpsR Kf o a S :: pt Dl (.lst (as.map V.ref)) :: Obs :: R ∧ Inv S i G C gv ∧ sl <+: C.map (·.2) ∧ gv.length ≤ i, rfl, by omega, by omega, ?_, ?_, ?_⟩
      · refine Fits.mk ⟨_, _, _, [], [], .ref ps, _, _, rfl, rfl, inv_S0 (least := 1 + r0), List.prefix_refl _, Nat.le_refl _⟩ ?_
        refine Ent.trans (ent_val (rv_tl0 (R := rStr) (by tm_at "sSel"))) ?_
        tm_at "ent"
      · rintro j σ' L' hj ⟨S, G, C, gv, sl, vs, u4, u5, rfl, rfl, I, hpre, hgv⟩
        have hj17 : j < 17 := by omega
        have ok := I.ok (by omega)
        tm_at "gs"
        refine gss_cons ?_
        refine gs_join (fun σ' L' => ∃ S G C' gv, σ' = [some (.ref s0), some (.ref d), some vs, some (.ref pg), some (.int (j : Int)), u5, u6, some (.ref o), u8, none] ∧ Ent T L' (pt pg (.lst (gv.map V.str)) :: Val (rTl rStr) vs sl :: dcP d :: CpsR Kf o a S :: pt Dl (.lst (as.map V.ref)) :: Obs :: R) ∧ Inv S (j + 1) G C' gv ∧ sl <+: C'.map (·.2) ∧ gv.length ≤ j + 1) ?_ ?_
        · tm_at "go"
          refine call_deed (by tm_at "ent") ok hj17 fun S' b st => ?_
          obtain ⟨G', C', I', hp⟩ := step_inv I st
          have hpre' : sl <+: C'.map (·.2) := hpre.trans (hp.map _)
          tm_at "go"
          cases b
          · tm_at "go"
            exact ⟨S', G', C', gv, rfl, by tm_at "ent", by simpa using I', hpre', by omega⟩
          · tm_at "go"
            refine gc_strI (by obtain ⟨_, _, h⟩ := what_ok hj17; exact h) ?_
            tm_at "go"
            refine go_addS (by obtain ⟨_, h, _⟩ := what_ok hj17; rw [sizeLine_eq]; exact Nat.le_trans h (by decide)) ?_
            refine gapp_pt (by tm_at "sRpl") (by rw [List.length_map, sizeLine_eq]; omega) ?_
            tm_at "go"
            exact ⟨S', G', C', gv ++ [whatS j], rfl, by rw [List.map_append]; tm_at "ent", by simpa using I', hpre', by simp; omega⟩
        · rintro σ' L' ⟨S, G, C, gv, rfl, t1, I, hpre, hgv⟩
          refine GSs.ent t1 ?_
          have ok := I.ok (by omega)
          tm_at "go"
          refine call_sure (S := S) (by tm_at "ent") ok.wf (fun hl => ?_) (fun l hl v => ?_)
          · tm_at "go"
            refine call_al (S := S) (by tm_at "ent") ok.wf I.al ?_
            tm_at "go"
            tm_at "fits"
            · exact ⟨S, G, C, gv, sl, vs, _, _, rfl, rfl, I, hpre, hgv⟩
            · tm_at "ent"
          · refine gss_fact (v_tl (rv_val .here)) ?_
            rintro ⟨a', rfl⟩
            tm_at "go"
            refine gc_lenTl (rv_val (by tm_at "sSel")) ?_
            tm_at "go"
            refine gsl_tl (rv_val (by tm_at "sSel")) fun v2 => ?_
            tm_at "go"
            refine go_neE hr (sees_rv (rv_val .here) (by decide)) (sees_rv (rv_val (by tm_at "sSel")) (by decide)) (eqv_enc _ _) ?_
            rw [show SW.cutD (sureL S l) none (some (sl.length : Int)) = sl from by rw [cut_s, I.sure hl]; exact (List.prefix_iff_eq_take.mp hpre).symm, decide_eq_true rfl]
            tm_at "go"
            refine ge_lcT ow0_law rfl n.ndN (blkOk_by (N := n_law) (sc := defScope s_law) (by decide +kernel)) (by tm_at "sWp") (fun _ => rfl) ?_
            tm_at "go"
            refine ⟨_, rStr, sureL S l, rv_val (by tm_at "sSel"), lcgo (fun D (xs : List V) => pt D (.lst xs)) (fun i xs => xs = []) [] rfl (fun _ _ h => h) ?_ ?_⟩
            · rintro D i x Lx xs hi ⟨dd, hd, rfl⟩ e s' H' C cl fp
              simp only [List.singleton_append]
              refine gg_blk (kc := kc0_law) n rfl (by decide) fun nb => ?_
              refine gg_val cStr (rv_val .here) fun hg => ?_
              tm_at "go"
              intro s' H' C cl fp
              refine gts_blk (kc := kc0_law) n rfl (by decide) fun nb => ?_
              tm_at "go"
              rw [decide_eq_true (I.given hl _ (List.mem_of_getElem? hd))]
              tm_at "go"
              exact ⟨xs, e, by tm_at "ent"⟩
            · intro D xs e
              subst e
              tm_at "go"
              refine go_neE (b := true) hr (sees_nil (by tm_at "sSel")) (sees_nil .here) (rfl : PyData.eqv (.list []) (.list []) = true) ?_
              tm_at "go"
              refine call_al (S := S) (by tm_at "ent") ok.wf I.al ?_
              tm_at "go"
              tm_at "fits"
              · exact ⟨S, G, C, gv, sureL S l, .ref a', _, _, rfl, rfl, I, by rw [I.sure hl]; exact List.prefix_refl _, hgv⟩
              · tm_at "ent"
      · rintro σ' L' ⟨S, G, C, gv, sl, vs, u4, u5, rfl, rfl, I, hpre, hgv⟩
        have hi17 : (m.toNat : Int) < 17 := by omega
        have ok := I.ok (by omega)
        tm_at "go"
        refine ge_told n (by tm_at "sKd") D LA1 (k := 4) hr (LamX.lamS_by (by show LamX.lamSB (defScope s_law) _ = true; decide +kernel)) rfl (fun _ _ _ _ _ => rfl) rfl (by decide +kernel) fun A1 outer1 s1 H1 E1 f1 c1 hr1 n1 hx1 => ?_
        refine cps_inE (v := vLd S.leader) (by tm_at "sSel") rfl fun dc lc lu lw lk lj => ?_
        tm_at "go"
        refine call_ga (S := S) (k := 0) (R := pt Dl (.lst (as.map V.ref)) :: Obs :: R) (by tm_at "ent") (.inr (by omega)) ?_
        refine ca.fe _ ?_
        tm_at "go"
        rw [decide_eq_true rfl]
        tm_at "gs"
        refine gss_cons ?_
        refine gs_join (fun σ' L' => σ' = [some (.ref s0), some (.ref d), some vs, some (.ref pg), u4, u5, u6, some (.ref o), u8, none] ∧ Ent T L' (pt Dl (.lst (as.map V.ref)) :: Obs :: R)) ?_ ?_
        · cases hld : S.leader with
          | none =>
            tm_at "go"
            refine ge_told n (by tm_at "sKd") D LA1 (k := 4) hr (LamX.lamS_by (by show LamX.lamSB (defScope s_law) _ = true; decide +kernel)) rfl (fun _ _ _ _ _ => rfl) rfl (by decide +kernel) fun A1 outer1 s1 H1 E1 f1 c1 hr1 n1 hx1 => ?_
            refine cps_inE (v := .non) (by tm_at "sSel") (by rw [hld]; rfl) fun dc lc lu lw lk lj => ?_
            tm_at "go"
            refine call_ask (S := S) (k := 0) (most := 1) (R := pt Dl (.lst (as.map V.ref)) :: Obs :: R) (by tm_at "ent") (by decide) (by decide) ok.wf (by have := ok.wz; omega) (ok.pos 0 (by decide)) (fun l hl hn hu => ?_) (fun hc => ?_)
            · rw [hld] at hl; cases hl
            · refine ca.nd _ ?_
              tm_at "go"
              rw [decide_eq_true rfl]
              tm_at "go"
              exact ⟨rfl, by tm_at "ent"⟩
          | some l =>
            obtain ⟨hl3, _⟩ := ok.wf.ld l hld
            tm_at "go"
            refine ge_told n (by tm_at "sKd") D LA1 (k := 4) hr (LamX.lamS_by (by show LamX.lamSB (defScope s_law) _ = true; decide +kernel)) rfl (fun _ _ _ _ _ => rfl) rfl (by decide +kernel) fun A1 outer1 s1 H1 E1 f1 c1 hr1 n1 hx1 => ?_
            refine cps_inE (v := .int (l : Int)) (by tm_at "sSel") (by rw [hld]; rfl) fun dc lc lu lw lk lj => ?_
            tm_at "go"
            refine call_ask (S := S) (k := l) (most := 1) (R := pt Dl (.lst (as.map V.ref)) :: Obs :: R) (by tm_at "ent") hl3 (by decide) ok.wf (by have := ok.wz; omega) (ok.pos l hl3) (fun l' hl hn hu => ?_) (fun hc => ?_)
            · rw [hld] at hl; cases hl; exact absurd rfl hn
            · refine ca.nd _ ?_
              tm_at "go"
              rw [decide_eq_true rfl]
              tm_at "go"
              exact ⟨rfl, by tm_at "ent"⟩
        · rintro σ' L' ⟨rfl, t1⟩
          refine GSs.ent t1 ?_
          clear I ok hpre
          tm_at "go"
          refine ge_make hcs (by tm_at "sRoom") (by tm_at "sXok") (n.gl (by tm_at "sKd")) rfl rfl rfl ?_
          tm_at "go"
          intro o2 dx2
          refine call_csi rfl fun a2 => ⟨rfl, ?_⟩
          tm_at "go"
          refine call_give (S := S0 2) (what := "one") (R := pt Dl (.lst (as.map V.ref)) :: Obs :: R) (by tm_at "ent") (inv_S0.ok (by decide)).wf (fun i hi => by show 0 < 1000; decide) (by show PyData.canLay0 _ = true; decide +kernel) (fun l hl hw => ?_) (fun hc => ?_)
          rotate_left
          · rcases hc with hc | hc
            · cases hc
            · exact absurd hc (by decide)
          have hl : some 0 = some l := hl
          cases hl
          show GSs T _ _ _ _ (CpsR Kf o2 a2 (fr 0) :: pt Dl (.lst (as.map V.ref)) :: Obs :: R)
          tm_at "go"
          refine call_sure (S := fr 0) (by tm_at "ent") (fr_wf 0 (by decide)) (fun hl => ?_) (fun l hl v => ?_)
          · have := (fr_ok 0 (by decide)).2.1; rw [hl] at this; cases this
          have := (fr_ok 0 (by decide)).2.1
          rw [hl] at this
          cases this
          rw [show sureL (fr 0) 0 = [] from by decide +kernel]
          tm_at "go"
          refine go_neE (b := true) hr (sees_rv (rv_val (by tm_at "sSel")) (by decide)) (sees_nilT .here) (rfl : PyData.eqv (.tuple []) (.tuple []) = true) ?_
          tm_at "gs"
          refine gss_cons ?_
          refine gs_forLx (passes_of rfl) rfl (fun _ => rfl) ?_
          tm_at "go"
          rename_i pl
          refine ⟨pl, [.int 1, .int 2, .int 1, .int 2], fun i σ' L' => ∃ u6, σ' = [some (.ref s0), some (.ref d), some vs, some (.ref pg), u4, u5, u6, some (.ref o), some (.ref o2), none] ∧ L' = pt pl (.lst [.int 1, .int 2, .int 1, .int 2]) :: CpsR Kf o2 a2 (fr i) :: pt Dl (.lst (as.map V.ref)) :: Obs :: R, rfl, ?_, ?_, ?_, ?_⟩
          · exact Fits.mk ⟨_, rfl, rfl⟩ (by tm_at "ent")
          · rintro i σ' L' ⟨u6, rfl, rfl⟩
            exact ⟨_, .here⟩
          · rintro i x σ' L' hx' ⟨u6, rfl, rfl⟩
            obtain ⟨hi4, kk, hkk, rfl⟩ : i < 4 ∧ ∃ kk : Nat, kk = (if i % 2 = 0 then 1 else 2) ∧ x = V.int (kk : Int) := by
              rcases i with _ | _ | _ | _ | i
              · cases hx'; exact ⟨by omega, 1, rfl, rfl⟩
              · cases hx'; exact ⟨by omega, 2, rfl, rfl⟩
              · cases hx'; exact ⟨by omega, 1, rfl, rfl⟩
              · cases hx'; exact ⟨by omega, 2, rfl, rfl⟩
              · cases hx'
            have hkk3 : kk < 3 ∧ kk ≠ 0 := by rw [hkk]; split <;> omega
            obtain ⟨f1, f2, f3, f4⟩ := fr_ok i (by omega)
            tm_at "go"
            refine call_ask (S := fr i) (k := kk) (most := 5) (by tm_at "ent") hkk3.1 (by decide) (fr_wf i (by omega)) (by rw [f1]; decide) (f4 kk hkk3.1).2 (fun l hl hn hu => ?_) (fun hc => ?_)
            · rw [f2] at hl
              cases hl
              tm_at "go"
              tm_at "fits"
              · exact ⟨_, rfl, rfl⟩
              · show Ent T _ (_ :: CpsR Kf o2 a2 (askP (fr i) 0 (if i % 2 = 0 then 1 else 2) 5) :: _)
                rw [← hkk]
                tm_at "ent"
            · exfalso
              rcases hc with hc | hc | hc
              · rw [f2] at hc; cases hc
              · rw [f2] at hc; cases hc; exact hkk3.2 rfl
              · rw [f3 kk hkk3.1] at hc; cases hc
          · rintro σ' L' ⟨u6, rfl, hL⟩
            have hL : L' = pt pl (.lst [.int 1, .int 2, .int 1, .int 2]) :: CpsR Kf o2 a2 (fr 4) :: pt Dl (.lst (as.map V.ref)) :: Obs :: R := hL
            subst hL
            obtain ⟨f1, f2, f3, f4⟩ := fr_ok 4 (by decide)
            obtain ⟨g1, g2, g3, g4, g5⟩ := frD_ok
            obtain ⟨l1, l2, l3, l4, l5⟩ := frL_ok
            tm_at "go"
            refine call_down (S := fr 4) (k := 0) (R := pt Dl (.lst (as.map V.ref)) :: Obs :: R) (by tm_at "ent") (by decide) (fr_wf 4 (by decide)) (fun _ => ?_) (fun hu => ?_)
            rotate_left
            · rw [f3 0 (by decide)] at hu; cases hu
            show GSs T _ _ _ _ (CpsR Kf o2 a2 frD :: pt Dl (.lst (as.map V.ref)) :: Obs :: R)
            tm_at "go"
            refine call_sure (S := frD) (by tm_at "ent") frD_wf (fun hl => ?_) (fun l hl v => ?_)
            rotate_left
            · rw [g2] at hl; cases hl
            tm_at "go"
            refine ge_told n (by tm_at "sKd") D LA1 (k := 4) hr (LamX.lamS_by (by show LamX.lamSB (defScope s_law) _ = true; decide +kernel)) rfl (fun _ _ _ _ _ => rfl) rfl (by decide +kernel) fun A1 outer1 s1 H1 E1 f1 c1 hr1 n1 hx1 => ?_
            tm_at "go"
            refine call_give (S := frD) (what := "two") (R := pt Dl (.lst (as.map V.ref)) :: Obs :: R) (by tm_at "ent") frD_wf (fun i hi => by have := g5 i hi; omega) (by show PyData.canLay0 _ = true; decide +kernel) (fun l hl hw => ?_) (fun hc => ?_)
            · rw [g2] at hl; cases hl
            refine ca.nd _ ?_
            tm_at "go"
            rw [decide_eq_true rfl]
            tm_at "go"
            refine ge_told n (by tm_at "sKd") D LA1 (k := 4) hr (LamX.lamS_by (by show LamX.lamSB (defScope s_law) _ = true; decide +kernel)) rfl (fun _ _ _ _ _ => rfl) rfl (by decide +kernel) fun A1 outer1 s1 H1 E1 f1 c1 hr1 n1 hx1 => ?_
            tm_at "go"
            refine call_lead (S := frD) (k := 0) (R := pt Dl (.lst (as.map V.ref)) :: Obs :: R) (by tm_at "ent") (by decide) frD_wf (fun hl hu hw => ?_) (fun hc => ?_)
            · rw [g3] at hu; cases hu
            refine ca.nd _ ?_
            tm_at "go"
            rw [decide_eq_true rfl]
            tm_at "go"
            refine call_lead (S := frD) (k := 1) (R := pt Dl (.lst (as.map V.ref)) :: Obs :: R) (by tm_at "ent") (by decide) frD_wf (fun hl hu hw => ?_) (fun hc => ?_)
            rotate_left
            · exfalso
              rcases hc with hc | hc | hc
              · exact hc g2
              · rw [g4] at hc; cases hc
              · rw [g1] at hc; exact hc (by decide)
            show GSs T _ _ _ _ (CpsR Kf o2 a2 frL :: pt Dl (.lst (as.map V.ref)) :: Obs :: R)
            tm_at "go"
            refine call_sure (S := frL) (by tm_at "ent") frL_wf (fun hl => ?_) (fun l hl v => ?_)
            · rw [l2] at hl; cases hl
            rw [l2] at hl
            cases hl
            tm_at "go"
            refine gsl_tl (rv_val .here) fun v2 => ?_
            tm_at "go"
            refine go_neE hr (sees_rv (rv_val (by tm_at "sSel")) (by decide)) (sees_rv (rv_tl1 (R := rStr) (d := "one") .here (rv_str (by show PyData.canLay0 _ = true; decide +kernel))) (by decide)) (eqv_enc _ _) ?_
            rw [l4, decide_eq_true rfl]
            repeat ((fail_if_success (guard_target = GE _ _ (Expr.Attribute _ _ _) _ _ _)); tm_at "g")
            refine ge_fldV rfl ?_
            tm_at "g"
            refine gf_cps (v := vLd frL.leader) (by tm_at "sSel") rfl fun dc lc lu lw lk lj => ?_
            tm_at "go"
            rw [l5, decide_eq_true rfl]
            tm_at "go"
            tm_at "fits"
            · exact ⟨_, _, _, _, _, _, _, _, rfl, rfl⟩
            · rw [hObs]
              tm_at "ent"
    · rintro σ' L' ⟨u1, u2, u3, u4, u5, u6, u7, u8, rfl, rfl⟩
      tm_at "go"
      apply Clo.mk (k _)
      exact Ent.refl
end
end K04
set_option Elab.async false
set_option linter.all false
set_option maxRecDepth 100000
set_option maxHeartbeats 0
namespace K04
open PySem PySem.Spec L2 SW
open PyProof.Rows hiding St
/-! ### the head: facts by names, the run -/
def d0 : He.DefD := ⟨("Copy", some "__init__"), "__init__", "Copy.__init__", defArgs s_Copy__init, defBody s_Copy__init, defScope s_Copy__init, [], []⟩
def d1 : He.DefD := ⟨("Copy", some "last_mark"), "last_mark", "Copy.last_mark", defArgs s_Copy_last_mark, defBody s_Copy_last_mark, defScope s_Copy_last_mark, [], []⟩
def d2 : He.DefD := ⟨("Copy", some "turn_end"), "turn_end", "Copy.turn_end", defArgs s_Copy_turn_end, defBody s_Copy_turn_end, defScope s_Copy_turn_end, [], []⟩
def d3 : He.DefD := ⟨("Copies", some "__init__"), "__init__", "Copies.__init__", defArgs s_Copies__init, defBody s_Copies__init, defScope s_Copies__init, [], []⟩
def d4 : He.DefD := ⟨("Copies", some "give"), "give", "Copies.give", defArgs s_Copies_give, defBody s_Copies_give, defScope s_Copies_give, [], []⟩
def d5 : He.DefD := ⟨("Copies", some "raise_high"), "raise_high", "Copies.raise_high", defArgs s_Copies_raise_high, defBody s_Copies_raise_high, defScope s_Copies_raise_high, [], []⟩
def d6 : He.DefD := ⟨("Copies", some "ask"), "ask", "Copies.ask", defArgs s_Copies_ask, defBody s_Copies_ask, defScope s_Copies_ask, [], []⟩
def d7 : He.DefD := ⟨("Copies", some "agree"), "agree", "Copies.agree", defArgs s_Copies_agree, defBody s_Copies_agree, defScope s_Copies_agree, [], []⟩
def d8 : He.DefD := ⟨("Copies", some "down"), "down", "Copies.down", defArgs s_Copies_down, defBody s_Copies_down, defScope s_Copies_down, [], []⟩
def d9 : He.DefD := ⟨("Copies", some "up_again"), "up_again", "Copies.up_again", defArgs s_Copies_up_again, defBody s_Copies_up_again, defScope s_Copies_up_again, [], []⟩
def d10 : He.DefD := ⟨("Copies", some "lead"), "lead", "Copies.lead", defArgs s_Copies_lead, defBody s_Copies_lead, defScope s_Copies_lead, [], []⟩
def d11 : He.DefD := ⟨("Copies", some "give_as"), "give_as", "Copies.give_as", defArgs s_Copies_give_as, defBody s_Copies_give_as, defScope s_Copies_give_as, [], []⟩
def d12 : He.DefD := ⟨("Copies", some "lag"), "lag", "Copies.lag", defArgs s_Copies_lag, defBody s_Copies_lag, defScope s_Copies_lag, [], []⟩
def d13 : He.DefD := ⟨("Copies", some "sure"), "sure", "Copies.sure", defArgs s_Copies_sure, defBody s_Copies_sure, defScope s_Copies_sure, [], []⟩
def d14 : He.DefD := ⟨("Copies", some "alike"), "alike", "Copies.alike", defArgs s_Copies_alike, defBody s_Copies_alike, defScope s_Copies_alike, [], []⟩
def d15 : He.DefD := ⟨("_law_dice", none), "_law_dice", "_law_dice", defArgs s_law_dice, defBody s_law_dice, defScope s_law_dice, [], []⟩
def d16 : He.DefD := ⟨("_law_roll", none), "_law_roll", "_law_roll", defArgs s_law_roll, defBody s_law_roll, defScope s_law_roll, [], []⟩
def d17 : He.DefD := ⟨("_law_rounds", none), "_law_rounds", "_law_rounds", defArgs s_law_rounds, defBody s_law_rounds, defScope s_law_rounds, [], []⟩
def d18 : He.DefD := ⟨("_law_told", none), "_law_told", "_law_told", defArgs s_law_told, defBody s_law_told, defScope s_law_told, [], []⟩
def d19 : He.DefD := ⟨("_law_deed", none), "_law_deed", "_law_deed", defArgs s_law_deed, defBody s_law_deed, defScope s_law_deed, [], []⟩
def d20 : He.DefD := ⟨("law", none), "law", "law", defArgs s_law, defBody s_law, defScope s_law, [], []⟩
def fnl : List He.DefD := [d0, d1, d2, d3, d4, d5, d6, d7, d8, d9, d10, d11, d12, d13, d14, d15, d16, d17, d18, d19, d20]
def fal : List He.Fa := [.free "int", .free "len", .free "max", .free "min", .free "sum", .free "range", .free "list", .free "tuple", .free "str", .free "abs", .glo "BadRecord", .glo "OutOfLog", .glo "Fenced", .glo "OutOfOrder", .glo "NotDue", .glo "BadPlan", .glo "BadText", .glo "TooLarge", .glo "Copy", .glo "Copies", .glo "_law_dice", .glo "_law_roll", .glo "_law_rounds", .glo "_law_told", .glo "_law_deed", .glo "law", .cls "Copy", .noat "Copy" "records", .noat "Copy" "high", .noat "Copy" "turn", .cls "Copies", .noat "Copies" "copies", .noat "Copies" "least", .noat "Copies" "up", .noat "Copies" "leader", .noat "Copies" "turn", .noat "Copies" "with_leader", .noat "Copies" "known", .noat "Copies" "joined", .exc "NotDue", .exc "Fenced", .exm "NotDue" "BadRecord" false, .exm "NotDue" "OutOfLog" false, .exm "NotDue" "Fenced" false, .exm "NotDue" "OutOfOrder" false, .exm "NotDue" "NotDue" true, .exm "Fenced" "BadRecord" false, .exm "Fenced" "OutOfLog" false, .exm "Fenced" "Fenced" true, .mkr "Copy", .meth "Copy" "last_mark", .meth "Copy" "turn_end", .mkr "Copies", .meth "Copies" "give", .meth "Copies" "raise_high", .meth "Copies" "ask", .meth "Copies" "agree", .meth "Copies" "down", .meth "Copies" "up_again", .meth "Copies" "lead", .meth "Copies" "give_as", .meth "Copies" "lag", .meth "Copies" "sure", .meth "Copies" "alike", .keep "_law_dice", .keep "_law_roll", .keep "_law_rounds", .keep "_law_told", .keep "_law_deed", .keep "law"]
def tfl : List He.Defn := [("law", none), ("_law_deed", none)]
def exl : PySem.W.Frag → Bool := fun K => decide ((He.cT K ("law", none)).2 ≠ (He.cT K ("_law_deed", none)).2)
abbrev Rw : PySem.W.OpenRow := PySem.W.OpenLaw.row PySem.Challenge.rw_brookhall_k04_copies_of_a_log
abbrev hk : PySem.W.Hook := He.hookX 6 fal fnl [] tfl exl
def ob (s : PySem.W.SharedT) : He.AlX := He.obsX 6 fal fnl [] tfl exl (HandSHeadRun.getT s)
theorem ob_eq (s : PySem.W.SharedT) : ob s = hk.obs s.abs := He.obsX_eq (HandSHeadRun.getT_eq s)
theorem run (w : World) : HandSHeadRun.RunEq Rw (PySem.W.view Rw.prog [19]) hk ob 4000 ["BrookFault", "BadRecord", "OutOfLog", "Fenced", "OutOfOrder", "NotDue", "BadPlan", "BadText", "TooLarge", "Copy", "Copies", "_law_dice", "_law_roll", "_law_rounds", "_law_told", "_law_deed"] w := by
  intro os
  kernel_rfl
/-- the tables of lambdas -/
def TT (K : PySem.W.Frag) : List (Addr × Str) := [((He.cT K ("law", none)).2, (("law" : Str) ++ ".<locals>.") ++ "<lambda>"), ((He.cT K ("_law_deed", none)).2, (("_law_deed" : Str) ++ ".<locals>.") ++ "<lambda>")]
theorem code_at {K : PySem.W.Frag} {p : He.Defn} {x qual : Str} {pa : Arguments} {bd : List Stmt} {sc : Scope} {fd : FuncData} (F : FunD K x qual pa bd sc [] [] (He.fAd K p) fd) : fd.code = .ref (He.cT K p).1 := by
  obtain ⟨oc, od, dV, kV, doc, pm, an, cdv, ct, osl, rfl, lk, hcd, hD, hK⟩ := F.ex
  obtain ⟨c, e⟩ := He.codeIn_ref hcd
  have e2 := He.codeOf_eq lk e
  rw [e]
  show Value.ref c = .ref (He.codeOf K p)
  rw [e2]
section
variable {P : Program} {w : World} {K : PySem.W.Frag} {h : Heap} {mg : Str → Option Value}
abbrev SX (K : PySem.W.Frag) (h : Heap) (w : World) : Prop := He.SaysX fal fnl [] tfl exl w h K
theorem fun0 (c : SX K h w) : ∃ fd, FunD K "__init__" "Copy.__init__" (defArgs s_Copy__init) (defBody s_Copy__init) (defScope s_Copy__init) [] [] (He.ma K (He.ga K "Copy") "__init__") fd := c.t.d.def_ 0 (d := d0) rfl
theorem bind0 {fd : FuncData} (F : FunD K "__init__" "Copy.__init__" (defArgs s_Copy__init) (defBody s_Copy__init) (defScope s_Copy__init) [] [] (He.ma K (He.ga K "Copy") "__init__") fd) : Binds K fd ["self"] [] := F.bindsN fun kV doc pm an cdv ct us hl => match us, hl with | [u0], _ => rfl
theorem fun1 (c : SX K h w) : ∃ fd, FunD K "last_mark" "Copy.last_mark" (defArgs s_Copy_last_mark) (defBody s_Copy_last_mark) (defScope s_Copy_last_mark) [] [] (He.ma K (He.ga K "Copy") "last_mark") fd := c.t.d.def_ 1 (d := d1) rfl
theorem bind1 {fd : FuncData} (F : FunD K "last_mark" "Copy.last_mark" (defArgs s_Copy_last_mark) (defBody s_Copy_last_mark) (defScope s_Copy_last_mark) [] [] (He.ma K (He.ga K "Copy") "last_mark") fd) : Binds K fd ["self"] [] := F.bindsN fun kV doc pm an cdv ct us hl => match us, hl with | [u0], _ => rfl
theorem fun2 (c : SX K h w) : ∃ fd, FunD K "turn_end" "Copy.turn_end" (defArgs s_Copy_turn_end) (defBody s_Copy_turn_end) (defScope s_Copy_turn_end) [] [] (He.ma K (He.ga K "Copy") "turn_end") fd := c.t.d.def_ 2 (d := d2) rfl
theorem bind2 {fd : FuncData} (F : FunD K "turn_end" "Copy.turn_end" (defArgs s_Copy_turn_end) (defBody s_Copy_turn_end) (defScope s_Copy_turn_end) [] [] (He.ma K (He.ga K "Copy") "turn_end") fd) : Binds K fd ["self", "turn"] [] := F.bindsN fun kV doc pm an cdv ct us hl => match us, hl with | [u0, u1], _ => rfl
theorem fun3 (c : SX K h w) : ∃ fd, FunD K "__init__" "Copies.__init__" (defArgs s_Copies__init) (defBody s_Copies__init) (defScope s_Copies__init) [] [] (He.ma K (He.ga K "Copies") "__init__") fd := c.t.d.def_ 3 (d := d3) rfl
theorem bind3 {fd : FuncData} (F : FunD K "__init__" "Copies.__init__" (defArgs s_Copies__init) (defBody s_Copies__init) (defScope s_Copies__init) [] [] (He.ma K (He.ga K "Copies") "__init__") fd) : Binds K fd ["self", "many", "least"] [] := F.bindsN fun kV doc pm an cdv ct us hl => match us, hl with | [u0, u1, u2], _ => rfl
theorem fun4 (c : SX K h w) : ∃ fd, FunD K "give" "Copies.give" (defArgs s_Copies_give) (defBody s_Copies_give) (defScope s_Copies_give) [] [] (He.ma K (He.ga K "Copies") "give") fd := c.t.d.def_ 4 (d := d4) rfl
theorem bind4 {fd : FuncData} (F : FunD K "give" "Copies.give" (defArgs s_Copies_give) (defBody s_Copies_give) (defScope s_Copies_give) [] [] (He.ma K (He.ga K "Copies") "give") fd) : Binds K fd ["self", "what"] [] := F.bindsN fun kV doc pm an cdv ct us hl => match us, hl with | [u0, u1], _ => rfl
theorem fun5 (c : SX K h w) : ∃ fd, FunD K "raise_high" "Copies.raise_high" (defArgs s_Copies_raise_high) (defBody s_Copies_raise_high) (defScope s_Copies_raise_high) [] [] (He.ma K (He.ga K "Copies") "raise_high") fd := c.t.d.def_ 5 (d := d5) rfl
theorem bind5 {fd : FuncData} (F : FunD K "raise_high" "Copies.raise_high" (defArgs s_Copies_raise_high) (defBody s_Copies_raise_high) (defScope s_Copies_raise_high) [] [] (He.ma K (He.ga K "Copies") "raise_high") fd) : Binds K fd ["self"] [] := F.bindsN fun kV doc pm an cdv ct us hl => match us, hl with | [u0], _ => rfl
theorem fun6 (c : SX K h w) : ∃ fd, FunD K "ask" "Copies.ask" (defArgs s_Copies_ask) (defBody s_Copies_ask) (defScope s_Copies_ask) [] [] (He.ma K (He.ga K "Copies") "ask") fd := c.t.d.def_ 6 (d := d6) rfl
theorem bind6 {fd : FuncData} (F : FunD K "ask" "Copies.ask" (defArgs s_Copies_ask) (defBody s_Copies_ask) (defScope s_Copies_ask) [] [] (He.ma K (He.ga K "Copies") "ask") fd) : Binds K fd ["self", "k", "most"] [] := F.bindsN fun kV doc pm an cdv ct us hl => match us, hl with | [u0, u1, u2], _ => rfl
theorem fun7 (c : SX K h w) : ∃ fd, FunD K "agree" "Copies.agree" (defArgs s_Copies_agree) (defBody s_Copies_agree) (defScope s_Copies_agree) [] [] (He.ma K (He.ga K "Copies") "agree") fd := c.t.d.def_ 7 (d := d7) rfl
theorem bind7 {fd : FuncData} (F : FunD K "agree" "Copies.agree" (defArgs s_Copies_agree) (defBody s_Copies_agree) (defScope s_Copies_agree) [] [] (He.ma K (He.ga K "Copies") "agree") fd) : Binds K fd ["self", "k"] [] := F.bindsN fun kV doc pm an cdv ct us hl => match us, hl with | [u0, u1], _ => rfl
theorem fun8 (c : SX K h w) : ∃ fd, FunD K "down" "Copies.down" (defArgs s_Copies_down) (defBody s_Copies_down) (defScope s_Copies_down) [] [] (He.ma K (He.ga K "Copies") "down") fd := c.t.d.def_ 8 (d := d8) rfl
theorem bind8 {fd : FuncData} (F : FunD K "down" "Copies.down" (defArgs s_Copies_down) (defBody s_Copies_down) (defScope s_Copies_down) [] [] (He.ma K (He.ga K "Copies") "down") fd) : Binds K fd ["self", "k"] [] := F.bindsN fun kV doc pm an cdv ct us hl => match us, hl with | [u0, u1], _ => rfl
theorem fun9 (c : SX K h w) : ∃ fd, FunD K "up_again" "Copies.up_again" (defArgs s_Copies_up_again) (defBody s_Copies_up_again) (defScope s_Copies_up_again) [] [] (He.ma K (He.ga K "Copies") "up_again") fd := c.t.d.def_ 9 (d := d9) rfl
theorem bind9 {fd : FuncData} (F : FunD K "up_again" "Copies.up_again" (defArgs s_Copies_up_again) (defBody s_Copies_up_again) (defScope s_Copies_up_again) [] [] (He.ma K (He.ga K "Copies") "up_again") fd) : Binds K fd ["self", "k"] [] := F.bindsN fun kV doc pm an cdv ct us hl => match us, hl with | [u0, u1], _ => rfl
theorem fun10 (c : SX K h w) : ∃ fd, FunD K "lead" "Copies.lead" (defArgs s_Copies_lead) (defBody s_Copies_lead) (defScope s_Copies_lead) [] [] (He.ma K (He.ga K "Copies") "lead") fd := c.t.d.def_ 10 (d := d10) rfl
theorem bind10 {fd : FuncData} (F : FunD K "lead" "Copies.lead" (defArgs s_Copies_lead) (defBody s_Copies_lead) (defScope s_Copies_lead) [] [] (He.ma K (He.ga K "Copies") "lead") fd) : Binds K fd ["self", "k"] [] := F.bindsN fun kV doc pm an cdv ct us hl => match us, hl with | [u0, u1], _ => rfl
theorem fun11 (c : SX K h w) : ∃ fd, FunD K "give_as" "Copies.give_as" (defArgs s_Copies_give_as) (defBody s_Copies_give_as) (defScope s_Copies_give_as) [] [] (He.ma K (He.ga K "Copies") "give_as") fd := c.t.d.def_ 11 (d := d11) rfl
theorem bind11 {fd : FuncData} (F : FunD K "give_as" "Copies.give_as" (defArgs s_Copies_give_as) (defBody s_Copies_give_as) (defScope s_Copies_give_as) [] [] (He.ma K (He.ga K "Copies") "give_as") fd) : Binds K fd ["self", "k", "turn", "what"] [] := F.bindsN fun kV doc pm an cdv ct us hl => match us, hl with | [u0, u1, u2, u3], _ => rfl
theorem fun12 (c : SX K h w) : ∃ fd, FunD K "lag" "Copies.lag" (defArgs s_Copies_lag) (defBody s_Copies_lag) (defScope s_Copies_lag) [] [] (He.ma K (He.ga K "Copies") "lag") fd := c.t.d.def_ 12 (d := d12) rfl
theorem bind12 {fd : FuncData} (F : FunD K "lag" "Copies.lag" (defArgs s_Copies_lag) (defBody s_Copies_lag) (defScope s_Copies_lag) [] [] (He.ma K (He.ga K "Copies") "lag") fd) : Binds K fd ["self", "k"] [] := F.bindsN fun kV doc pm an cdv ct us hl => match us, hl with | [u0, u1], _ => rfl
theorem fun13 (c : SX K h w) : ∃ fd, FunD K "sure" "Copies.sure" (defArgs s_Copies_sure) (defBody s_Copies_sure) (defScope s_Copies_sure) [] [] (He.ma K (He.ga K "Copies") "sure") fd := c.t.d.def_ 13 (d := d13) rfl
theorem bind13 {fd : FuncData} (F : FunD K "sure" "Copies.sure" (defArgs s_Copies_sure) (defBody s_Copies_sure) (defScope s_Copies_sure) [] [] (He.ma K (He.ga K "Copies") "sure") fd) : Binds K fd ["self"] [] := F.bindsN fun kV doc pm an cdv ct us hl => match us, hl with | [u0], _ => rfl
theorem fun14 (c : SX K h w) : ∃ fd, FunD K "alike" "Copies.alike" (defArgs s_Copies_alike) (defBody s_Copies_alike) (defScope s_Copies_alike) [] [] (He.ma K (He.ga K "Copies") "alike") fd := c.t.d.def_ 14 (d := d14) rfl
theorem bind14 {fd : FuncData} (F : FunD K "alike" "Copies.alike" (defArgs s_Copies_alike) (defBody s_Copies_alike) (defScope s_Copies_alike) [] [] (He.ma K (He.ga K "Copies") "alike") fd) : Binds K fd ["self"] [] := F.bindsN fun kV doc pm an cdv ct us hl => match us, hl with | [u0], _ => rfl
theorem fun15 (c : SX K h w) : ∃ fd, FunD K "_law_dice" "_law_dice" (defArgs s_law_dice) (defBody s_law_dice) (defScope s_law_dice) [] [] (He.ga K "_law_dice") fd := c.t.d.def_ 15 (d := d15) rfl
theorem bind15 {fd : FuncData} (F : FunD K "_law_dice" "_law_dice" (defArgs s_law_dice) (defBody s_law_dice) (defScope s_law_dice) [] [] (He.ga K "_law_dice") fd) : Binds K fd ["cell"] [] := F.bindsN fun kV doc pm an cdv ct us hl => match us, hl with | [u0], _ => rfl
theorem fun16 (c : SX K h w) : ∃ fd, FunD K "_law_roll" "_law_roll" (defArgs s_law_roll) (defBody s_law_roll) (defScope s_law_roll) [] [] (He.ga K "_law_roll") fd := c.t.d.def_ 16 (d := d16) rfl
theorem bind16 {fd : FuncData} (F : FunD K "_law_roll" "_law_roll" (defArgs s_law_roll) (defBody s_law_roll) (defScope s_law_roll) [] [] (He.ga K "_law_roll") fd) : Binds K fd ["dice", "many"] [] := F.bindsN fun kV doc pm an cdv ct us hl => match us, hl with | [u0, u1], _ => rfl
theorem fun17 (c : SX K h w) : ∃ fd, FunD K "_law_rounds" "_law_rounds" (defArgs s_law_rounds) (defBody s_law_rounds) (defScope s_law_rounds) [] [] (He.ga K "_law_rounds") fd := c.t.d.def_ 17 (d := d17) rfl
theorem bind17 {fd : FuncData} (F : FunD K "_law_rounds" "_law_rounds" (defArgs s_law_rounds) (defBody s_law_rounds) (defScope s_law_rounds) [] [] (He.ga K "_law_rounds") fd) : Binds K fd ["script", "most"] [] := F.bindsN fun kV doc pm an cdv ct us hl => match us, hl with | [u0, u1], _ => rfl
theorem fun18 (c : SX K h w) : ∃ fd, FunD K "_law_told" "_law_told" (defArgs s_law_told) (defBody s_law_told) (defScope s_law_told) [] [] (He.ga K "_law_told") fd := c.t.d.def_ 18 (d := d18) rfl
theorem bind18 {fd : FuncData} (F : FunD K "_law_told" "_law_told" (defArgs s_law_told) (defBody s_law_told) (defScope s_law_told) [] [] (He.ga K "_law_told") fd) : Binds K fd ["what"] [] := F.bindsN fun kV doc pm an cdv ct us hl => match us, hl with | [u0], _ => rfl
theorem fun19 (c : SX K h w) : ∃ fd, FunD K "_law_deed" "_law_deed" (defArgs s_law_deed) (defBody s_law_deed) (defScope s_law_deed) [] [] (He.ga K "_law_deed") fd := c.t.d.def_ 19 (d := d19) rfl
theorem bind19 {fd : FuncData} (F : FunD K "_law_deed" "_law_deed" (defArgs s_law_deed) (defBody s_law_deed) (defScope s_law_deed) [] [] (He.ga K "_law_deed") fd) : Binds K fd ["dice", "copies", "count"] [] := F.bindsN fun kV doc pm an cdv ct us hl => match us, hl with | [u0, u1, u2], _ => rfl
theorem fun20 (c : SX K h w) : ∃ fd, FunD K "law" "law" (defArgs s_law) (defBody s_law) (defScope s_law) [] [] (He.ga K "law") fd := c.t.d.def_ 20 (d := d20) rfl
theorem bind20 {fd : FuncData} (F : FunD K "law" "law" (defArgs s_law) (defBody s_law) (defScope s_law) [] [] (He.ga K "law") fd) : Binds K fd ["script"] [] := F.bindsN fun kV doc pm an cdv ct us hl => match us, hl with | [u0], _ => rfl
theorem h_free_int {hh : Heap} (c : SX K h w) (X : K.In hh) (G : hh.Ns mainGlobals mg) : mg "int" = none := He.free_ok X G (c.t.d.fact 0 (f := .free "int") rfl)
theorem h_free_len {hh : Heap} (c : SX K h w) (X : K.In hh) (G : hh.Ns mainGlobals mg) : mg "len" = none := He.free_ok X G (c.t.d.fact 1 (f := .free "len") rfl)
theorem h_free_max {hh : Heap} (c : SX K h w) (X : K.In hh) (G : hh.Ns mainGlobals mg) : mg "max" = none := He.free_ok X G (c.t.d.fact 2 (f := .free "max") rfl)
theorem h_free_min {hh : Heap} (c : SX K h w) (X : K.In hh) (G : hh.Ns mainGlobals mg) : mg "min" = none := He.free_ok X G (c.t.d.fact 3 (f := .free "min") rfl)
theorem h_free_sum {hh : Heap} (c : SX K h w) (X : K.In hh) (G : hh.Ns mainGlobals mg) : mg "sum" = none := He.free_ok X G (c.t.d.fact 4 (f := .free "sum") rfl)
theorem h_free_range {hh : Heap} (c : SX K h w) (X : K.In hh) (G : hh.Ns mainGlobals mg) : mg "range" = none := He.free_ok X G (c.t.d.fact 5 (f := .free "range") rfl)
theorem h_free_list {hh : Heap} (c : SX K h w) (X : K.In hh) (G : hh.Ns mainGlobals mg) : mg "list" = none := He.free_ok X G (c.t.d.fact 6 (f := .free "list") rfl)
theorem h_free_tuple {hh : Heap} (c : SX K h w) (X : K.In hh) (G : hh.Ns mainGlobals mg) : mg "tuple" = none := He.free_ok X G (c.t.d.fact 7 (f := .free "tuple") rfl)
theorem h_free_str {hh : Heap} (c : SX K h w) (X : K.In hh) (G : hh.Ns mainGlobals mg) : mg "str" = none := He.free_ok X G (c.t.d.fact 8 (f := .free "str") rfl)
theorem h_free_abs {hh : Heap} (c : SX K h w) (X : K.In hh) (G : hh.Ns mainGlobals mg) : mg "abs" = none := He.free_ok X G (c.t.d.fact 9 (f := .free "abs") rfl)
theorem h_glo_BadRecord {hh : Heap} (c : SX K h w) (X : K.In hh) (G : hh.Ns mainGlobals mg) : mg "BadRecord" = some (.ref (He.ga K "BadRecord")) := He.glo_ok X G (c.t.d.fact 10 (f := .glo "BadRecord") rfl)
theorem h_glo_OutOfLog {hh : Heap} (c : SX K h w) (X : K.In hh) (G : hh.Ns mainGlobals mg) : mg "OutOfLog" = some (.ref (He.ga K "OutOfLog")) := He.glo_ok X G (c.t.d.fact 11 (f := .glo "OutOfLog") rfl)
theorem h_glo_Fenced {hh : Heap} (c : SX K h w) (X : K.In hh) (G : hh.Ns mainGlobals mg) : mg "Fenced" = some (.ref (He.ga K "Fenced")) := He.glo_ok X G (c.t.d.fact 12 (f := .glo "Fenced") rfl)
theorem h_glo_OutOfOrder {hh : Heap} (c : SX K h w) (X : K.In hh) (G : hh.Ns mainGlobals mg) : mg "OutOfOrder" = some (.ref (He.ga K "OutOfOrder")) := He.glo_ok X G (c.t.d.fact 13 (f := .glo "OutOfOrder") rfl)
theorem h_glo_NotDue {hh : Heap} (c : SX K h w) (X : K.In hh) (G : hh.Ns mainGlobals mg) : mg "NotDue" = some (.ref (He.ga K "NotDue")) := He.glo_ok X G (c.t.d.fact 14 (f := .glo "NotDue") rfl)
theorem h_glo_BadPlan {hh : Heap} (c : SX K h w) (X : K.In hh) (G : hh.Ns mainGlobals mg) : mg "BadPlan" = some (.ref (He.ga K "BadPlan")) := He.glo_ok X G (c.t.d.fact 15 (f := .glo "BadPlan") rfl)
theorem h_glo_BadText {hh : Heap} (c : SX K h w) (X : K.In hh) (G : hh.Ns mainGlobals mg) : mg "BadText" = some (.ref (He.ga K "BadText")) := He.glo_ok X G (c.t.d.fact 16 (f := .glo "BadText") rfl)
theorem h_glo_TooLarge {hh : Heap} (c : SX K h w) (X : K.In hh) (G : hh.Ns mainGlobals mg) : mg "TooLarge" = some (.ref (He.ga K "TooLarge")) := He.glo_ok X G (c.t.d.fact 17 (f := .glo "TooLarge") rfl)
theorem h_glo_Copy {hh : Heap} (c : SX K h w) (X : K.In hh) (G : hh.Ns mainGlobals mg) : mg "Copy" = some (.ref (He.ga K "Copy")) := He.glo_ok X G (c.t.d.fact 18 (f := .glo "Copy") rfl)
theorem h_glo_Copies {hh : Heap} (c : SX K h w) (X : K.In hh) (G : hh.Ns mainGlobals mg) : mg "Copies" = some (.ref (He.ga K "Copies")) := He.glo_ok X G (c.t.d.fact 19 (f := .glo "Copies") rfl)
theorem h_glo__law_dice {hh : Heap} (c : SX K h w) (X : K.In hh) (G : hh.Ns mainGlobals mg) : mg "_law_dice" = some (.ref (He.ga K "_law_dice")) := He.glo_ok X G (c.t.d.fact 20 (f := .glo "_law_dice") rfl)
theorem h_glo__law_roll {hh : Heap} (c : SX K h w) (X : K.In hh) (G : hh.Ns mainGlobals mg) : mg "_law_roll" = some (.ref (He.ga K "_law_roll")) := He.glo_ok X G (c.t.d.fact 21 (f := .glo "_law_roll") rfl)
theorem h_glo__law_rounds {hh : Heap} (c : SX K h w) (X : K.In hh) (G : hh.Ns mainGlobals mg) : mg "_law_rounds" = some (.ref (He.ga K "_law_rounds")) := He.glo_ok X G (c.t.d.fact 22 (f := .glo "_law_rounds") rfl)
theorem h_glo__law_told {hh : Heap} (c : SX K h w) (X : K.In hh) (G : hh.Ns mainGlobals mg) : mg "_law_told" = some (.ref (He.ga K "_law_told")) := He.glo_ok X G (c.t.d.fact 23 (f := .glo "_law_told") rfl)
theorem h_glo__law_deed {hh : Heap} (c : SX K h w) (X : K.In hh) (G : hh.Ns mainGlobals mg) : mg "_law_deed" = some (.ref (He.ga K "_law_deed")) := He.glo_ok X G (c.t.d.fact 24 (f := .glo "_law_deed") rfl)
theorem h_glo_law {hh : Heap} (c : SX K h w) (X : K.In hh) (G : hh.Ns mainGlobals mg) : mg "law" = some (.ref (He.ga K "law")) := He.glo_ok X G (c.t.d.fact 25 (f := .glo "law") rfl)
theorem h_cls_Copy (c : SX K h w) : Cls K (He.ga K "Copy") := He.cls_ok (c.t.d.fact 26 (f := .cls "Copy") rfl)
theorem h_noat_Copy_records (c : SX K h w) : NoAttr K (He.ga K "Copy") "records" := He.noat_ok (c.t.d.fact 27 (f := .noat "Copy" "records") rfl)
theorem h_noat_Copy_high (c : SX K h w) : NoAttr K (He.ga K "Copy") "high" := He.noat_ok (c.t.d.fact 28 (f := .noat "Copy" "high") rfl)
theorem h_noat_Copy_turn (c : SX K h w) : NoAttr K (He.ga K "Copy") "turn" := He.noat_ok (c.t.d.fact 29 (f := .noat "Copy" "turn") rfl)
theorem h_cls_Copies (c : SX K h w) : Cls K (He.ga K "Copies") := He.cls_ok (c.t.d.fact 30 (f := .cls "Copies") rfl)
theorem h_noat_Copies_copies (c : SX K h w) : NoAttr K (He.ga K "Copies") "copies" := He.noat_ok (c.t.d.fact 31 (f := .noat "Copies" "copies") rfl)
theorem h_noat_Copies_least (c : SX K h w) : NoAttr K (He.ga K "Copies") "least" := He.noat_ok (c.t.d.fact 32 (f := .noat "Copies" "least") rfl)
theorem h_noat_Copies_up (c : SX K h w) : NoAttr K (He.ga K "Copies") "up" := He.noat_ok (c.t.d.fact 33 (f := .noat "Copies" "up") rfl)
theorem h_noat_Copies_leader (c : SX K h w) : NoAttr K (He.ga K "Copies") "leader" := He.noat_ok (c.t.d.fact 34 (f := .noat "Copies" "leader") rfl)
theorem h_noat_Copies_turn (c : SX K h w) : NoAttr K (He.ga K "Copies") "turn" := He.noat_ok (c.t.d.fact 35 (f := .noat "Copies" "turn") rfl)
theorem h_noat_Copies_with_leader (c : SX K h w) : NoAttr K (He.ga K "Copies") "with_leader" := He.noat_ok (c.t.d.fact 36 (f := .noat "Copies" "with_leader") rfl)
theorem h_noat_Copies_known (c : SX K h w) : NoAttr K (He.ga K "Copies") "known" := He.noat_ok (c.t.d.fact 37 (f := .noat "Copies" "known") rfl)
theorem h_noat_Copies_joined (c : SX K h w) : NoAttr K (He.ga K "Copies") "joined" := He.noat_ok (c.t.d.fact 38 (f := .noat "Copies" "joined") rfl)
theorem h_exc_NotDue (c : SX K h w) : (He.Fa.exc "NotDue").ok K = true := c.t.d.fact 39 (f := .exc "NotDue") rfl
theorem h_exc_Fenced (c : SX K h w) : (He.Fa.exc "Fenced").ok K = true := c.t.d.fact 40 (f := .exc "Fenced") rfl
theorem h_exm_NotDue_BadRecord_false (c : SX K h w) : PySem.W.exmOne K (.ref (He.ga K "NotDue")) (.ref (He.ga K "BadRecord")) = some false := He.exm_ok (c.t.d.fact 41 (f := .exm "NotDue" "BadRecord" false) rfl)
theorem h_exm_NotDue_OutOfLog_false (c : SX K h w) : PySem.W.exmOne K (.ref (He.ga K "NotDue")) (.ref (He.ga K "OutOfLog")) = some false := He.exm_ok (c.t.d.fact 42 (f := .exm "NotDue" "OutOfLog" false) rfl)
theorem h_exm_NotDue_Fenced_false (c : SX K h w) : PySem.W.exmOne K (.ref (He.ga K "NotDue")) (.ref (He.ga K "Fenced")) = some false := He.exm_ok (c.t.d.fact 43 (f := .exm "NotDue" "Fenced" false) rfl)
theorem h_exm_NotDue_OutOfOrder_false (c : SX K h w) : PySem.W.exmOne K (.ref (He.ga K "NotDue")) (.ref (He.ga K "OutOfOrder")) = some false := He.exm_ok (c.t.d.fact 44 (f := .exm "NotDue" "OutOfOrder" false) rfl)
theorem h_exm_NotDue_NotDue_true (c : SX K h w) : PySem.W.exmOne K (.ref (He.ga K "NotDue")) (.ref (He.ga K "NotDue")) = some true := He.exm_ok (c.t.d.fact 45 (f := .exm "NotDue" "NotDue" true) rfl)
theorem h_exm_Fenced_BadRecord_false (c : SX K h w) : PySem.W.exmOne K (.ref (He.ga K "Fenced")) (.ref (He.ga K "BadRecord")) = some false := He.exm_ok (c.t.d.fact 46 (f := .exm "Fenced" "BadRecord" false) rfl)
theorem h_exm_Fenced_OutOfLog_false (c : SX K h w) : PySem.W.exmOne K (.ref (He.ga K "Fenced")) (.ref (He.ga K "OutOfLog")) = some false := He.exm_ok (c.t.d.fact 47 (f := .exm "Fenced" "OutOfLog" false) rfl)
theorem h_exm_Fenced_Fenced_true (c : SX K h w) : PySem.W.exmOne K (.ref (He.ga K "Fenced")) (.ref (He.ga K "Fenced")) = some true := He.exm_ok (c.t.d.fact 48 (f := .exm "Fenced" "Fenced" true) rfl)
theorem h_mkr_Copy (c : SX K h w) : Mk K (He.ga K "Copy") (He.ma K (He.ga K "Copy") "__init__") := He.mkr_ok (c.t.d.fact 49 (f := .mkr "Copy") rfl)
theorem h_meth_Copy_last_mark (c : SX K h w) : Meth K (He.ga K "Copy") "last_mark" (He.ma K (He.ga K "Copy") "last_mark") := He.meth_ok (c.t.d.fact 50 (f := .meth "Copy" "last_mark") rfl)
theorem h_meth_Copy_turn_end (c : SX K h w) : Meth K (He.ga K "Copy") "turn_end" (He.ma K (He.ga K "Copy") "turn_end") := He.meth_ok (c.t.d.fact 51 (f := .meth "Copy" "turn_end") rfl)
theorem h_mkr_Copies (c : SX K h w) : Mk K (He.ga K "Copies") (He.ma K (He.ga K "Copies") "__init__") := He.mkr_ok (c.t.d.fact 52 (f := .mkr "Copies") rfl)
theorem h_meth_Copies_give (c : SX K h w) : Meth K (He.ga K "Copies") "give" (He.ma K (He.ga K "Copies") "give") := He.meth_ok (c.t.d.fact 53 (f := .meth "Copies" "give") rfl)
theorem h_meth_Copies_raise_high (c : SX K h w) : Meth K (He.ga K "Copies") "raise_high" (He.ma K (He.ga K "Copies") "raise_high") := He.meth_ok (c.t.d.fact 54 (f := .meth "Copies" "raise_high") rfl)
theorem h_meth_Copies_ask (c : SX K h w) : Meth K (He.ga K "Copies") "ask" (He.ma K (He.ga K "Copies") "ask") := He.meth_ok (c.t.d.fact 55 (f := .meth "Copies" "ask") rfl)
theorem h_meth_Copies_agree (c : SX K h w) : Meth K (He.ga K "Copies") "agree" (He.ma K (He.ga K "Copies") "agree") := He.meth_ok (c.t.d.fact 56 (f := .meth "Copies" "agree") rfl)
theorem h_meth_Copies_down (c : SX K h w) : Meth K (He.ga K "Copies") "down" (He.ma K (He.ga K "Copies") "down") := He.meth_ok (c.t.d.fact 57 (f := .meth "Copies" "down") rfl)
theorem h_meth_Copies_up_again (c : SX K h w) : Meth K (He.ga K "Copies") "up_again" (He.ma K (He.ga K "Copies") "up_again") := He.meth_ok (c.t.d.fact 58 (f := .meth "Copies" "up_again") rfl)
theorem h_meth_Copies_lead (c : SX K h w) : Meth K (He.ga K "Copies") "lead" (He.ma K (He.ga K "Copies") "lead") := He.meth_ok (c.t.d.fact 59 (f := .meth "Copies" "lead") rfl)
theorem h_meth_Copies_give_as (c : SX K h w) : Meth K (He.ga K "Copies") "give_as" (He.ma K (He.ga K "Copies") "give_as") := He.meth_ok (c.t.d.fact 60 (f := .meth "Copies" "give_as") rfl)
theorem h_meth_Copies_lag (c : SX K h w) : Meth K (He.ga K "Copies") "lag" (He.ma K (He.ga K "Copies") "lag") := He.meth_ok (c.t.d.fact 61 (f := .meth "Copies" "lag") rfl)
theorem h_meth_Copies_sure (c : SX K h w) : Meth K (He.ga K "Copies") "sure" (He.ma K (He.ga K "Copies") "sure") := He.meth_ok (c.t.d.fact 62 (f := .meth "Copies" "sure") rfl)
theorem h_meth_Copies_alike (c : SX K h w) : Meth K (He.ga K "Copies") "alike" (He.ma K (He.ga K "Copies") "alike") := He.meth_ok (c.t.d.fact 63 (f := .meth "Copies" "alike") rfl)
theorem h_keep__law_dice (c : SX K h w) : PySem.W.keepIn K (.ref (He.ga K "_law_dice")) = true := He.keep_ok (c.t.d.fact 64 (f := .keep "_law_dice") rfl)
theorem h_keep__law_roll (c : SX K h w) : PySem.W.keepIn K (.ref (He.ga K "_law_roll")) = true := He.keep_ok (c.t.d.fact 65 (f := .keep "_law_roll") rfl)
theorem h_keep__law_rounds (c : SX K h w) : PySem.W.keepIn K (.ref (He.ga K "_law_rounds")) = true := He.keep_ok (c.t.d.fact 66 (f := .keep "_law_rounds") rfl)
theorem h_keep__law_told (c : SX K h w) : PySem.W.keepIn K (.ref (He.ga K "_law_told")) = true := He.keep_ok (c.t.d.fact 67 (f := .keep "_law_told") rfl)
theorem h_keep__law_deed (c : SX K h w) : PySem.W.keepIn K (.ref (He.ga K "_law_deed")) = true := He.keep_ok (c.t.d.fact 68 (f := .keep "_law_deed") rfl)
theorem h_keep_law (c : SX K h w) : PySem.W.keepIn K (.ref (He.ga K "law")) = true := He.keep_ok (c.t.d.fact 69 (f := .keep "law") rfl)
theorem fx_of {hh : Heap} (c : SX K h w) (X : K.In hh) (G : hh.Ns mainGlobals mg) : Fx K mg where
  int := h_free_int c X G
  len := h_free_len c X G
  max := h_free_max c X G
  min := h_free_min c X G
  sum := h_free_sum c X G
  range := h_free_range c X G
  list := h_free_list c X G
  tuple := h_free_tuple c X G
  str := h_free_str c X G
  abs := h_free_abs c X G
  cCopy := h_cls_Copy c
  cCopies := h_cls_Copies c
  n1 := h_noat_Copy_records c
  n2 := h_noat_Copy_high c
  n3 := h_noat_Copy_turn c
  m1 := h_noat_Copies_copies c
  m2 := h_noat_Copies_least c
  m3 := h_noat_Copies_up c
  m4 := h_noat_Copies_leader c
  m5 := h_noat_Copies_turn c
  m6 := h_noat_Copies_with_leader c
  m7 := h_noat_Copies_known c
  m8 := h_noat_Copies_joined c
  nd := ⟨h_glo_NotDue c X G, h_exc_NotDue c⟩
  fe := ⟨h_glo_Fenced c X G, h_exc_Fenced c⟩
theorem cat_of (c : SX K h w) : Cat K where
  nd := fun P p => ⟨_, h_exm_NotDue_BadRecord_false c, nofun, fun _ => ⟨_, h_exm_NotDue_OutOfLog_false c, nofun, fun _ => ⟨_, h_exm_NotDue_Fenced_false c, nofun, fun _ => ⟨_, h_exm_NotDue_OutOfOrder_false c, nofun, fun _ => ⟨_, h_exm_NotDue_NotDue_true c, fun _ => p, nofun⟩⟩⟩⟩⟩
  fe := fun P p => ⟨_, h_exm_Fenced_BadRecord_false c, nofun, fun _ => ⟨_, h_exm_Fenced_OutOfLog_false c, nofun, fun _ => ⟨_, h_exm_Fenced_Fenced_true c, fun _ => p, nofun⟩⟩⟩
theorem lam_law (c : SX K h w) {base : Heap} (TB : ∀ p ∈ tfl.map (He.cT K), LamX.TabB base mg p.1 p.2) {fd : FuncData} (F : FunD K "law" "law" (defArgs s_law) (defBody s_law) (defScope s_law) [] [] (He.ga K "law") fd) :
    ∀ A outer s H E, LamAt (TT K) (bx P w K mg base n_law "law" (defScope s_law) (He.ga K "law") fd.code A outer s H E) := fun A outer s H E =>
  ⟨(He.cT K ("law", none)).1, (He.cT K ("law", none)).2, TB _ (List.mem_cons_self), code_at (p := ("law", none)) F, List.mem_cons_self, fun p hp e => by
    rcases List.mem_cons.mp hp with rfl | hp
    · rfl
    · have hp : p = _ := List.mem_singleton.mp hp
      subst hp
      exact absurd e.symm (of_decide_eq_true c.more)⟩
theorem lam_deed (c : SX K h w) {base : Heap} (TB : ∀ p ∈ tfl.map (He.cT K), LamX.TabB base mg p.1 p.2) {fd : FuncData} (F : FunD K "_law_deed" "_law_deed" (defArgs s_law_deed) (defBody s_law_deed) (defScope s_law_deed) [] [] (He.ga K "_law_deed") fd) :
    ∀ A outer s H E, LamAt (TT K) (bx P w K mg base n_law_deed "_law_deed" (defScope s_law_deed) (He.ga K "_law_deed") fd.code A outer s H E) := fun A outer s H E =>
  ⟨(He.cT K ("_law_deed", none)).1, (He.cT K ("_law_deed", none)).2, TB _ (List.mem_cons_of_mem _ List.mem_cons_self), code_at (p := ("_law_deed", none)) F, List.mem_cons_of_mem _ List.mem_cons_self, fun p hp e => by
    rcases List.mem_cons.mp hp with rfl | hp
    · exact absurd e (of_decide_eq_true c.more)
    · have hp : p = _ := List.mem_singleton.mp hp
      subst hp; rfl⟩
theorem law_ok (c : SX K h w) {base : Heap} (X : K.In base) (G : base.Ns mainGlobals mg) (TB : ∀ p ∈ tfl.map (He.cT K), LamX.TabB base mg p.1 p.2) {fd : FuncData} (F : FunD K "law" "law" (defArgs s_law) (defBody s_law) (defScope s_law) [] [] (He.ga K "law") fd) :
    FnOk P w K mg base (L2.CX P w) 7 (He.ga K "law") fd ["script"] (spOf (TT K) (spLaw K)) := by
  have fx := fx_of c X G
  have ca := cat_of c
  obtain ⟨_, F0⟩ := fun0 c
  obtain ⟨_, F1⟩ := fun1 c
  obtain ⟨_, F2⟩ := fun2 c
  obtain ⟨_, F3⟩ := fun3 c
  obtain ⟨_, F4⟩ := fun4 c
  obtain ⟨_, F5⟩ := fun5 c
  obtain ⟨_, F6⟩ := fun6 c
  obtain ⟨_, F7⟩ := fun7 c
  obtain ⟨_, F8⟩ := fun8 c
  obtain ⟨_, F9⟩ := fun9 c
  obtain ⟨_, F10⟩ := fun10 c
  obtain ⟨_, F11⟩ := fun11 c
  obtain ⟨_, F12⟩ := fun12 c
  obtain ⟨_, F13⟩ := fun13 c
  obtain ⟨_, F14⟩ := fun14 c
  obtain ⟨_, F15⟩ := fun15 c
  obtain ⟨_, F16⟩ := fun16 c
  obtain ⟨_, F17⟩ := fun17 c
  obtain ⟨_, F18⟩ := fun18 c
  obtain ⟨_, F19⟩ := fun19 c
  have A0 : MkAt (TT K) P w K mg base 1 "Copy" (spCI K) := ⟨⟨_, _, ok_ci fx F0, bind0 F0⟩, h_mkr_Copy c, h_glo_Copy c X G⟩
  have A1 : MeAt (TT K) P w K mg base 1 "Copy" "last_mark" (spLM K) := ⟨⟨_, _, ok_lm fx F1, bind1 F1⟩, h_cls_Copy c, h_meth_Copy_last_mark c⟩
  have A2 : MeAt (TT K) P w K mg base 1 "Copy" "turn_end" (spTE K) := ⟨⟨_, _, ok_te fx F2, bind2 F2⟩, h_cls_Copy c, h_meth_Copy_turn_end c⟩
  have A3 : MkAt (TT K) P w K mg base 3 "Copies" (spCsI K) := ⟨⟨_, _, ok_csi fx (h_glo_Copy c X G) A0 F3, bind3 F3⟩, h_mkr_Copies c, h_glo_Copies c X G⟩
  have A5 : MeAt (TT K) P w K mg base 2 "Copies" "raise_high" (spRH K) := ⟨⟨_, _, ok_rh fx A1 F5, bind5 F5⟩, h_cls_Copies c, h_meth_Copies_raise_high c⟩
  have A4 : MeAt (TT K) P w K mg base 3 "Copies" "give" (spGive K) := ⟨⟨_, _, ok_give fx A1 A5 F4, bind4 F4⟩, h_cls_Copies c, h_meth_Copies_give c⟩
  have A7 : MeAt (TT K) P w K mg base 2 "Copies" "agree" (spAg K) := ⟨⟨_, _, ok_ag fx A1 A2 F7, bind7 F7⟩, h_cls_Copies c, h_meth_Copies_agree c⟩
  have A6 : MeAt (TT K) P w K mg base 3 "Copies" "ask" (spAsk K) := ⟨⟨_, _, ok_ask fx A1 A5 A7 F6, bind6 F6⟩, h_cls_Copies c, h_meth_Copies_ask c⟩
  have A8 : MeAt (TT K) P w K mg base 3 "Copies" "down" (spDown K) := ⟨⟨_, _, ok_down fx A5 F8, bind8 F8⟩, h_cls_Copies c, h_meth_Copies_down c⟩
  have A9 : MeAt (TT K) P w K mg base 1 "Copies" "up_again" (spUp K) := ⟨⟨_, _, ok_up fx F9, bind9 F9⟩, h_cls_Copies c, h_meth_Copies_up_again c⟩
  have A10 : MeAt (TT K) P w K mg base 3 "Copies" "lead" (spLead K) := ⟨⟨_, _, ok_lead fx A1 A5 F10, bind10 F10⟩, h_cls_Copies c, h_meth_Copies_lead c⟩
  have A11 : MeAt (TT K) P w K mg base 1 "Copies" "give_as" (spGA K) := ⟨⟨_, _, ok_ga fx F11, bind11 F11⟩, h_cls_Copies c, h_meth_Copies_give_as c⟩
  have A12 : MeAt (TT K) P w K mg base 3 "Copies" "lag" (spLag K) := ⟨⟨_, _, ok_lag fx A5 F12, bind12 F12⟩, h_cls_Copies c, h_meth_Copies_lag c⟩
  have A13 : MeAt (TT K) P w K mg base 1 "Copies" "sure" (spSure K) := ⟨⟨_, _, ok_sure fx F13, bind13 F13⟩, h_cls_Copies c, h_meth_Copies_sure c⟩
  have A14 : MeAt (TT K) P w K mg base 2 "Copies" "alike" (spAl K) := ⟨⟨_, _, ok_al fx A1 F14, bind14 F14⟩, h_cls_Copies c, h_meth_Copies_alike c⟩
  have B0 : FnAt (TT K) P w K mg base 1 "_law_dice" spDice := ⟨⟨_, _, ok_dice fx.int fx.abs F15, bind15 F15⟩, h_glo__law_dice c X G, h_keep__law_dice c⟩
  have B1 : FnAt (TT K) P w K mg base 1 "_law_roll" spRoll := ⟨⟨_, _, ok_roll fx.int F16, bind16 F16⟩, h_glo__law_roll c X G, h_keep__law_roll c⟩
  have B2 : FnAt (TT K) P w K mg base 2 "_law_rounds" (spRounds K) := ⟨⟨_, _, ok_rounds B0 F17, bind17 F17⟩, h_glo__law_rounds c X G, h_keep__law_rounds c⟩
  have D := told_at F18 (h_glo__law_told c X G) fun q hq => by
    simp only [cs8, List.mem_cons, List.not_mem_nil, or_false] at hq
    rcases hq with rfl | rfl | rfl | rfl | rfl | rfl | rfl | rfl
    · exact h_glo_BadRecord c X G
    · exact h_glo_OutOfLog c X G
    · exact h_glo_Fenced c X G
    · exact h_glo_OutOfOrder c X G
    · exact h_glo_NotDue c X G
    · exact h_glo_BadPlan c X G
    · exact h_glo_BadText c X G
    · exact h_glo_TooLarge c X G
  have me : Me (TT K) P w K mg base := ⟨A4, A6, A8, A9, A10, A12, A11, A13, A14⟩
  have B3 : FnAt (TT K) P w K mg base 6 "_law_deed" (spDeed K) := ⟨⟨_, _, ok_deed fx ca me B1 D (lam_deed c TB F19) F19, bind19 F19⟩, h_glo__law_deed c X G, h_keep__law_deed c⟩
  exact ok_law fx ca me A3 B1 B2 B3 D (lam_law c TB F) F
theorem law_start {H : Hp} {a : Addr} {ns : List Int} (hl : ns.length ≤ 63) (hT : ∀ p ∈ tfl.map (He.cT K), H p.2 = some (.tbl #[])) (hS : SqL K H a (ns.map V.int)) : spOf (TT K) (spLaw K) [.ref a] H (fun v _ => v = .bl true) fun _ _ _ => False := by
  refine ⟨[ScrP K a ns], fun v _ => v = .bl true, kx0, ⟨fun p hp => ?_, pcs_scr hS⟩, ⟨a, ns, [], rfl, rfl, by omega, fun _ => rfl⟩, fun v _ _ e _ => e, fun _ _ _ _ k _ => k.elim⟩
  have hz : ∃ q ∈ tfl.map (He.cT K), q.2 = p.1 := by
    unfold TT at hp
    simp only [List.mem_cons, List.not_mem_nil, or_false] at hp
    rcases hp with rfl | rfl
    · exact ⟨_, List.mem_cons_self, rfl⟩
    · exact ⟨_, List.mem_cons_of_mem _ List.mem_cons_self, rfl⟩
  obtain ⟨q, hq, e⟩ := hz
  exact LamX.TabS.nil (by rw [← e]; exact hT q hq)
end
end K04
open PySem PySem.W PySem.Calls PyProof.Rows
theorem PySem.Challenge.cw_brookhall_k04_copies_of_a_log_holds : PySem.Challenge.rw_brookhall_k04_copies_of_a_log.Holds := by
  w_on; o_law
  refine HandSHeadRun.head_any (r := OpenLaw.row PySem.Challenge.rw_brookhall_k04_copies_of_a_log) (q := view (OpenLaw.row PySem.Challenge.rw_brookhall_k04_copies_of_a_log).prog [19]) (H := K04.hk) (ob := K04.ob) (M := 4000) (loose := ["BrookFault", "BadRecord", "OutOfLog", "Fenced", "OutOfOrder", "NotDue", "BadPlan", "BadText", "TooLarge", "Copy", "Copies", "_law_dice", "_law_roll", "_law_rounds", "_law_told", "_law_deed"]) (d := HandSHeadRun.topDef (OpenLaw.row PySem.Challenge.rw_brookhall_k04_copies_of_a_log).prog 19) (kwd := []) K04.ob_eq
    (by kernel_rfl) (fun s => by kernel_rfl) K04.run (by kernel_rfl) (by kernel_rfl) (by kernel_rfl) (by rfl) (by first | assumption | decide +kernel) (by decide +kernel) ⟨rfl, rfl, rfl, rfl, rfl, by decide +kernel⟩ ?hw ?hc
  case hw => w_witness2
  case hc =>
    refine LamX.walk_ofTsE (l := PySem.Challenge.rw_brookhall_k04_copies_of_a_log) (n := 63) (k := 7) (x := "script") (CX := fun w => L2.CX (PySem.Challenge.rw_brookhall_k04_copies_of_a_log).prog w) rfl (by decide) (by kernel_rfl) ⟨rfl, by decide, by decide⟩ ?F (fun _ _ _ _ _ ⟨_, _, _, _, _, _, _, _, _, _, _, _, hE⟩ => hE)
    intro w mg fa h Y G hmg0
    obtain ⟨K, KX, c⟩ := Y
    have hmg : mg ("law" : PySem.Str) = some (.ref fa) := by
      have e : (HandSHeadRun.topDef (OpenLaw.row PySem.Challenge.rw_brookhall_k04_copies_of_a_log).prog 19).name = ("law" : PySem.Str) := by kernel_rfl
      rw [← e]
      exact hmg0
    have e := hmg.symm.trans (K04.h_glo_law c KX G)
    cases e
    obtain ⟨fd, F⟩ := K04.fun20 c
    have b := L2.FunD.bindsA (ps := ["script"]) F fun _ _ _ _ _ _ us hl => match us, hl with | [_], _ => rfl
    refine ⟨K, KX, fd, K04.tfl.map (He.cT K), SW.spOf (K04.TT K) (K04.spLaw K), fun p hp => ?_, fun p hp => ?_, fun p hp => ?_, fun s v => b s [v] rfl, fun H a ns hl hb hT hS => ?_, fun base KB GB TB => K04.law_ok c KB GB TB F⟩
    · obtain ⟨z, hz, rfl⟩ := List.mem_map.mp hp; exact c.empty z hz
    · obtain ⟨z, hz, rfl⟩ := List.mem_map.mp hp; exact c.out z hz
    · obtain ⟨z, hz, rfl⟩ := List.mem_map.mp hp; exact PySem.W.codeHd_of_K KX (c.hd z hz)
    · exact K04.law_start hl hT hS
