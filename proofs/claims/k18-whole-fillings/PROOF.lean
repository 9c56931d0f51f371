import PyProof.Rows.All
import Wide.All
import OpenK.AllK
import Wide.FinOn
import HandS.Sort
import PyProof.SumWalkG
import PyProof.Rows.SumGenD
import HandS.Style
import HandS.WordsDict
import HandS.SetKeys
import PyProof.StrBlock2
import HandS.ForMost
import HandS.SetFor
import HandS.SortInts
import HandS.Strs
import HandS.Codes
import HandS.DictComp
import HandS.Walk
import HandS.IsInst
import HandS.Defaults
import HandS.Evl
import HandS.StrMore
import HandS.Replace
import PyProof.Rows.RegReprOcc
import PyProof.ListStr
import HandS.Small
import HandS.Conv
import KE.GoesEnum
import KE.GoesMore
import KE.GoesZip
import HandS.DictSubView
import PyProof.ReprRoads
import HandS.EndBits
import HandS.HeadEnd
import PyProof.ReprLen
import KE.KStateDown
import HandS.Head0
import HandS.Head1
import HandS.Head2
import HandS.HeadHook1
import HandS.HeadHook2
import HandS.HeadHook3
import HandS.HeadHook4
import PySem.Challenge.RW_lookdepth_k18_whole_fillings_by_all
section
set_option autoImplicit false
set_option linter.all false
/-! M0: sorted lists without and with repetitions, by a Bool order. -/
namespace MS
variable {α : Type}
/-- a strict total order -/
structure STo (lt : α → α → Bool) : Prop where
  irr : ∀ a, lt a a = false
  tr : ∀ a b c, lt a b = true → lt b c = true → lt a c = true
  tri : ∀ a b, lt a b = true ∨ a = b ∨ lt b a = true

def Asc (lt : α → α → Bool) (l : List α) : Prop := l.Pairwise fun a b => lt a b = true
/-- none stands ahead of a lesser one -/
def Wk (lt : α → α → Bool) (l : List α) : Prop := l.Pairwise fun a b => lt b a = false

theorem STo.asym {lt : α → α → Bool} (O : STo lt) {a b : α} (h : lt a b = true) : lt b a = false := by
  cases q : lt b a with
  | false => rfl
  | true =>
    have := O.tr _ _ _ h q
    rw [O.irr] at this
    cases this
theorem STo.eqOf {lt : α → α → Bool} (O : STo lt) {a b : α} (h1 : lt a b = false) (h2 : lt b a = false) : a = b := by
  rcases O.tri a b with h | h | h
  · rw [h1] at h
    cases h
  · exact h
  · rw [h2] at h
    cases h
theorem STo.tr2 {lt : α → α → Bool} (O : STo lt) {a b c : α} (h1 : lt b a = false) (h2 : lt c b = false) : lt c a = false := by
  cases q : lt c a with
  | false => rfl
  | true =>
    rcases O.tri a b with h | h | h
    · have := O.tr _ _ _ q h
      rw [h2] at this
      cases this
    · subst h
      rw [h2] at q
      cases q
    · rw [h1] at h
      cases h

section
variable (lt : α → α → Bool)
/-- put in its place, once -/
def insU (x : α) : List α → List α
  | [] => [x]
  | y :: r => if lt x y = true then x :: y :: r else if lt y x = true then y :: insU x r else y :: r
def usort : List α → List α
  | [] => []
  | x :: r => insU lt x (usort r)
/-- put in its place -/
def insS (x : α) : List α → List α
  | [] => [x]
  | y :: r => if lt y x = true then y :: insS x r else x :: y :: r
def ssort : List α → List α
  | [] => []
  | x :: r => insS lt x (ssort r)
end

variable {lt : α → α → Bool}
theorem mem_insU (O : STo lt) {x z : α} : ∀ {l : List α}, z ∈ insU lt x l ↔ z = x ∨ z ∈ l
  | [] => by simp [insU]
  | y :: r => by
    unfold insU
    split
    · exact List.mem_cons
    · split
      · rw [List.mem_cons, mem_insU O, List.mem_cons]
        exact ⟨fun h => h.elim (fun e => .inr (.inl e)) fun h => h.elim .inl fun h => .inr (.inr h), fun h => h.elim (fun e => .inr (.inl e)) fun h => h.elim .inl fun h => .inr (.inr h)⟩
      · rename_i h1 h2
        have e : x = y := O.eqOf (by simpa using h1) (by simpa using h2)
        rw [List.mem_cons, e]
        exact ⟨.inr, fun h => h.elim .inl id⟩
theorem mem_usort (O : STo lt) {z : α} : ∀ {l : List α}, z ∈ usort lt l ↔ z ∈ l
  | [] => Iff.rfl
  | x :: r => by
    unfold usort
    rw [mem_insU O, mem_usort O, List.mem_cons]
theorem asc_insU (O : STo lt) {x : α} : ∀ {l : List α}, Asc lt l → Asc lt (insU lt x l)
  | [], _ => List.pairwise_singleton ..
  | y :: r, h => by
    obtain ⟨h1, h2⟩ := List.pairwise_cons.mp h
    unfold insU
    split
    · rename_i q
      refine List.pairwise_cons.mpr ⟨fun z hz => ?_, h⟩
      rcases List.mem_cons.mp hz with rfl | hz
      · exact q
      · exact O.tr _ _ _ q (h1 z hz)
    · split
      · rename_i q
        refine List.pairwise_cons.mpr ⟨fun z hz => ?_, asc_insU O h2⟩
        rcases (mem_insU O).mp hz with rfl | hz
        · exact q
        · exact h1 z hz
      · exact h
theorem asc_usort (O : STo lt) : ∀ l : List α, Asc lt (usort lt l)
  | [] => List.Pairwise.nil
  | x :: r => asc_insU O (asc_usort O r)
theorem asc_nd (O : STo lt) {l : List α} (h : Asc lt l) : l.Nodup := by
  refine List.Pairwise.imp (fun {a b} h => ?_) h
  intro e
  subst e
  rw [O.irr] at h
  cases h
theorem asc_wk (O : STo lt) {l : List α} (h : Asc lt l) : Wk lt l := List.Pairwise.imp (fun {_ _} h => O.asym h) h
/-- there is just one such list -/
theorem asc_uniq (O : STo lt) : ∀ {l m : List α}, Asc lt l → Asc lt m → (∀ z, z ∈ l ↔ z ∈ m) → l = m
  | [], [], _, _, _ => rfl
  | [], y :: m, _, _, h => absurd ((h y).mpr (List.mem_cons_self ..)) (by simp)
  | x :: l, [], _, _, h => absurd ((h x).mp (List.mem_cons_self ..)) (by simp)
  | x :: l, y :: m, hl, hm, h => by
    obtain ⟨l1, l2⟩ := List.pairwise_cons.mp hl
    obtain ⟨m1, m2⟩ := List.pairwise_cons.mp hm
    have e : x = y := by
      rcases List.mem_cons.mp ((h x).mp (List.mem_cons_self ..)) with e | a
      · exact e
      · rcases List.mem_cons.mp ((h y).mpr (List.mem_cons_self ..)) with e | b
        · exact e.symm
        · have p := O.tr _ _ _ (m1 x a) (l1 y b)
          rw [O.irr] at p
          cases p
    subst e
    have ih := asc_uniq O l2 m2 fun z => by
      have hz := h z
      rw [List.mem_cons, List.mem_cons] at hz
      constructor
      · intro a
        rcases hz.mp (.inr a) with e | b
        · subst e
          have := l1 z a
          rw [O.irr] at this
          cases this
        · exact b
      · intro a
        rcases hz.mpr (.inr a) with e | b
        · subst e
          have := m1 z a
          rw [O.irr] at this
          cases this
        · exact b
    rw [ih]
theorem usort_eq (O : STo lt) {l m : List α} (h : Asc lt m) (e : ∀ z, z ∈ m ↔ z ∈ l) : usort lt l = m :=
  asc_uniq O (asc_usort O l) h fun z => (mem_usort O).trans (e z).symm
theorem usort_congr (O : STo lt) {l m : List α} (e : ∀ z, z ∈ l ↔ z ∈ m) : usort lt l = usort lt m :=
  usort_eq O (asc_usort O m) fun z => (mem_usort O).trans (e z).symm
theorem usort_self (O : STo lt) {l : List α} (h : Asc lt l) : usort lt l = l := usort_eq O h fun _ => Iff.rfl

theorem perm_insS {x : α} : ∀ {l : List α}, (insS lt x l).Perm (x :: l)
  | [] => List.Perm.refl _
  | y :: r => by
    unfold insS
    split
    · exact ((perm_insS (l := r)).cons y).trans (List.Perm.swap ..)
    · exact List.Perm.refl _
theorem perm_ssort : ∀ {l : List α}, (ssort lt l).Perm l
  | [] => List.Perm.refl _
  | x :: r => by
    unfold ssort
    exact perm_insS.trans (perm_ssort.cons x)
theorem wk_insS (O : STo lt) {x : α} : ∀ {l : List α}, Wk lt l → Wk lt (insS lt x l)
  | [], _ => List.pairwise_singleton ..
  | y :: r, h => by
    obtain ⟨h1, h2⟩ := List.pairwise_cons.mp h
    unfold insS
    split
    · rename_i q
      refine List.pairwise_cons.mpr ⟨fun z hz => ?_, wk_insS O h2⟩
      rcases List.mem_cons.mp (perm_insS.mem_iff.mp hz) with rfl | hz
      · exact O.asym q
      · exact h1 z hz
    · rename_i q
      have q : lt y x = false := by simpa using q
      refine List.pairwise_cons.mpr ⟨fun z hz => ?_, h⟩
      rcases List.mem_cons.mp hz with rfl | hz
      · exact q
      · exact O.tr2 q (h1 z hz)
theorem wk_ssort (O : STo lt) : ∀ l : List α, Wk lt (ssort lt l)
  | [] => List.Pairwise.nil
  | x :: r => wk_insS O (wk_ssort O r)
theorem wk_uniq (O : STo lt) : ∀ {l m : List α}, Wk lt l → Wk lt m → l.Perm m → l = m
  | [], m, _, _, h => (List.Perm.nil_eq h)
  | x :: l, [], _, _, h => absurd h.length_eq (by simp)
  | x :: l, y :: m, hl, hm, h => by
    obtain ⟨l1, l2⟩ := List.pairwise_cons.mp hl
    obtain ⟨m1, m2⟩ := List.pairwise_cons.mp hm
    have e : x = y := by
      rcases List.mem_cons.mp (h.mem_iff.mp (List.mem_cons_self ..)) with e | a
      · exact e
      · rcases List.mem_cons.mp (h.mem_iff.mpr (List.mem_cons_self ..)) with e | b
        · exact e.symm
        · exact O.eqOf (l1 y b |> fun z => (m1 x a)) (l1 y b)
    subst e
    rw [wk_uniq O l2 m2 (List.Perm.cons_inv h)]
theorem ssort_eq (O : STo lt) {l m : List α} (h : Wk lt m) (p : m.Perm l) : ssort lt l = m :=
  wk_uniq O (wk_ssort O l) h (perm_ssort.trans p.symm)
theorem asc_of_wk (O : STo lt) {l : List α} (h : Wk lt l) (n : l.Nodup) : Asc lt l := by
  refine List.Pairwise.imp (fun {a b} h => ?_) (List.Pairwise.and h n)
  rcases O.tri a b with q | q | q
  · exact q
  · exact absurd q h.2
  · rw [h.1] at q
    cases q
/-- without repetitions both are one -/
theorem ssort_nd (O : STo lt) {l : List α} (h : l.Nodup) : ssort lt l = usort lt l :=
  (usort_eq O (asc_of_wk O (wk_ssort O l) (perm_ssort.nodup_iff.mpr h)) fun _ => perm_ssort.mem_iff).symm

/-! ### the orders in use -/
def ltN (a b : Nat) : Bool := decide (a < b)
def ltI (a b : Int) : Bool := decide (a < b)
def ltL (a b : List Nat) : Bool := decide (a < b)
theorem stoN : STo ltN := ⟨fun a => by simp [ltN], fun a b c h1 h2 => by simp [ltN] at *; omega, fun a b => by simp [ltN]; omega⟩
theorem stoI : STo ltI := ⟨fun a => by simp [ltI], fun a b c h1 h2 => by simp [ltI] at *; omega, fun a b => by simp [ltI]; omega⟩
theorem stoL : STo ltL := by
  refine ⟨fun a => ?_, fun a b c h1 h2 => ?_, fun a b => ?_⟩
  · exact decide_eq_false (List.lt_irrefl a)
  · exact decide_eq_true (List.lt_trans (of_decide_eq_true h1) (of_decide_eq_true h2))
  · by_cases h : a < b
    · exact .inl (decide_eq_true h)
    · by_cases h2 : b < a
      · exact .inr (.inr (decide_eq_true h2))
      · exact .inr (.inl (List.le_antisymm (List.not_lt.mp h2) (List.not_lt.mp h)))
theorem ltL_nil (x : Nat) (r : List Nat) : ltL [] (x :: r) = true := decide_eq_true (List.nil_lt_cons x r)
theorem ltL_cons (x y : Nat) (r q : List Nat) : ltL (x :: r) (y :: q) = (ltN x y || (decide (x = y) && ltL r q)) := by
  unfold ltL ltN
  by_cases h : (x :: r) < (y :: q)
  · rw [decide_eq_true h]
    rcases List.cons_lt_cons_iff.mp h with h | ⟨h1, h2⟩
    · rw [decide_eq_true h]; rfl
    · rw [decide_eq_true h1, decide_eq_true h2]; simp
  · rw [decide_eq_false h]
    have := fun z => h (List.cons_lt_cons_iff.mpr z)
    have h1 : ¬ x < y := fun z => this (.inl z)
    rw [decide_eq_false h1]
    by_cases h2 : x = y
    · rw [decide_eq_false fun z => this (.inr ⟨h2, z⟩)]; simp
    · rw [decide_eq_false h2]; rfl
end MS
end
section
set_option Elab.async false
set_option linter.all false
set_option maxRecDepth 100000
set_option maxHeartbeats 4000000
/-! K1: sets of texts (and of ints) by the list of their members; sorted of such a set; sorted of a list of texts, any length. -/
namespace KS
open PySem PySem.Spec PyProof.Rows L2

/-- how keys of one kind are written as values and read off them -/
structure Keyed1 (P : Program) (w : World) (κ : Type) [DecidableEq κ] where
  kd : PySem.KeyKind P w κ
  va : κ → Tok → Value
  un : Value → κ
  isMk : ∀ k t, kd.is k (va k t) = true
  unMk : ∀ k t, un (va k t) = k
  plain : ∀ k t, (va k t).scannable = true

def txtKey (P : Program) (w : World) : Keyed1 P w Str where
  kd := PySem.strKind P w
  va := fun x t => .str x t
  un := fun v => match v with
    | .str x _ => x
    | _ => Str.empty
  isMk := fun x t => PySem.strKind_is P w x t
  unMk := fun _ _ => rfl
  plain := fun _ _ => rfl

def intKey (P : Program) (w : World) : Keyed1 P w Int where
  kd := PySem.intKind P w
  va := fun x t => .int x t
  un := fun v => match v with
    | .int x _ => x
    | _ => 0
  isMk := fun x t => intKind_is P w x t
  unMk := fun _ _ => rfl
  plain := fun _ _ => rfl

section
variable {P : Program} {w : World} {κ : Type} [DecidableEq κ] (M : Keyed1 P w κ)

/-- the entries of a set's table: each a key with its hash, no key twice; l: the keys, in any order -/
structure Ents (es : List (Int × Value)) (l : List κ) : Prop where
  form : ∀ e ∈ es, ∃ k t, e = (M.kd.hash k, M.va k t)
  keys : (es.map fun e => M.un e.2).Perm l
  nd : l.Nodup

variable {M}
theorem Ents.elems {es : List (Int × Value)} {l : List κ} (h : Ents M es l) : PySem.ElemsOf M.kd es := by
  intro e he
  obtain ⟨k, t, rfl⟩ := h.form e he
  exact ⟨⟨k, M.isMk k t, rfl⟩, M.plain k t⟩
theorem Ents.perm {es es' : List (Int × Value)} {l : List κ} (h : Ents M es l) (p : es'.Perm es) : Ents M es' l :=
  ⟨fun e he => h.form e (p.mem_iff.mp he), (p.map _).trans h.keys, h.nd⟩
theorem Ents.len {es : List (Int × Value)} {l : List κ} (h : Ents M es l) : es.length = l.length := by
  have := h.keys.length_eq
  rw [List.length_map] at this
  exact this
theorem Ents.isIn {es : List (Int × Value)} {l : List κ} (h : Ents M es l) (k : κ) : (∃ e ∈ es, M.kd.is k e.2 = true) ↔ k ∈ l := by
  rw [← h.keys.mem_iff, List.mem_map]
  constructor
  · rintro ⟨e, he, hk⟩
    obtain ⟨k', t, rfl⟩ := h.form e he
    exact ⟨_, he, (M.unMk k' t).trans (M.kd.inj _ _ _ (M.isMk k' t) hk)⟩
  · rintro ⟨e, he, rfl⟩
    obtain ⟨k', t, rfl⟩ := h.form e he
    exact ⟨_, he, by rw [M.unMk]; exact M.isMk k' t⟩
theorem Ents.add {es : List (Int × Value)} {l : List κ} (h : Ents M es l) {k : κ} (hk : k ∉ l) (t : Tok) : Ents M ((M.kd.hash k, M.va k t) :: es) (k :: l) := by
  refine ⟨fun e he => ?_, ?_, List.nodup_cons.mpr ⟨hk, h.nd⟩⟩
  · rcases List.mem_cons.mp he with rfl | he
    · exact ⟨k, t, rfl⟩
    · exact h.form e he
  · rw [List.map_cons, M.unMk]
    exact h.keys.cons k

/-- the keys, one more -/
def addK (l : List κ) (k : κ) : List κ := if k ∈ l then l else k :: l

variable (M)
/-- a set of the keys l stands at a, whose members can be walked -/
structure SetAtK (h : Heap) (a : Addr) (l : List κ) : Prop where
  ex : ∃ o es ep t, h.get? a = some o ∧ o.ExactSet ∧ o.data = .set es ep t ∧ Ents M es.toList l ∧ t.fits es.size = true ∧ Ris t.place.toList ∧ (w.params.followText "set-order" = true ∨ t.led = true)
  few : l.length < scanBound
variable {M}
theorem SetAtK.stays {h h' : Heap} {a : Addr} {l : List κ} (S : SetAtK M h a l) (k : ∀ o, h.get? a = some o → h'.get? a = some o) : SetAtK M h' a l := by
  obtain ⟨o, es, ep, t, ho, r⟩ := S.ex
  exact ⟨⟨o, es, ep, t, k o ho, r⟩, S.few⟩
end

section
variable {P : Program} {w : World} {κ : Type} [DecidableEq κ] {M : Keyed1 P w κ} {A : Around} {E : Value → Shared → Prop} {s : Shared} {a : Addr} {l : List κ}

/-- one key put in -/
theorem addSet {k : κ} {tk : Tok} {Q : Bool → Shared → Prop} (S : SetAtK M s.heap a l) (room : l.length + 1 < scanBound)
    (hQ : ∀ b h', Heap.SameBut a s.heap h' → SetAtK M h' a (addK l k) → Q b { s with heap := h' }) :
    wpAny (model P w) A (setAddHashed a (M.va k tk) (M.kd.hash k)) Q E s := by
  obtain ⟨⟨o, es, ep, t, ho, hx, hd, en, hf, hr, hl⟩, few⟩ := S
  have zz : es.size = l.length := by rw [← Array.length_toList]; exact en.len
  have few' : es.size < scanBound := by rw [zz]; exact few
  unfold setAddHashed setAddHashedIn
  refine wpAny_holding (wpAny_bind (wpAny_setState_of ho hd hf ?_))
  dsimp only
  rw [byScan_of (M.plain k tk) few' en.elems]
  simp only [↓reduceIte]
  unfold setAddByScan
  refine wpAny_bind (wpAny_bind (wpAny_rule (wpAny_bind (wpAny_setScan_of (M.isMk k tk) ho hd hf en.elems ?_))))
  cases q : List.findIdx? (fun e => M.kd.is k e.2) es.toList with
  | some j =>
    obtain ⟨hj, pj, _⟩ := List.findIdx?_eq_some_iff_getElem.mp q
    have inl : k ∈ l := (en.isIn k).mp ⟨_, List.getElem_mem hj, pj⟩
    have e1 : addK l k = l := if_pos inl
    refine wpAny_pure (wpAny_pure (hQ _ s.heap (Heap.SameBut.refl a s.heap) ?_))
    rw [e1]
    exact ⟨⟨o, es, ep, t, ho, hx, hd, en, hf, hr, hl⟩, few⟩
  | none =>
    have out : k ∉ l := fun z => by
      obtain ⟨e, he, hk⟩ := (en.isIn k).mpr z
      have := List.findIdx?_eq_none_iff.mp q e he
      rw [hk] at this
      cases this
    have e1 : addK l k = k :: l := if_neg out
    rw [e1] at hQ
    have gw : ∀ (b : Bool) {s₁ : Shared} {Q' : Unit → Shared → Prop}, Q' () s₁ → wpAny (model P w) A (match b with | true => rule "set.scan.the-table-gave-way" | false => pure ()) Q' E s₁ := by
      intro b s₁ Q' hq
      cases b
      · exact wpAny_pure hq
      · exact wpAny_rule hq
    have pm := layNew_perm t es (M.kd.hash k) (M.va k tk)
    have f1 := layNew_fits t es (M.kd.hash k) (M.va k tk)
    have r1 := layNew_ris t es (M.kd.hash k) (M.va k tk) hr
    have l1 := layNew_led t es (M.kd.hash k) (M.va k tk)
    dsimp only
    generalize layNew t es (M.kd.hash k) (M.va k tk) = Z at pm f1 r1 l1 ⊢
    obtain ⟨es1, t1, dummy, gave⟩ := Z
    dsimp only at pm f1 r1 l1 ⊢
    rw [Array.toList_push] at pm
    have en1 : Ents M es1.toList (k :: l) := (en.add out tk).perm (pm.trans (List.perm_append_singleton _ _))
    have z1 : es1.size = l.length + 1 := by rw [← Array.length_toList]; exact en1.len
    have few1 : es1.size ≤ sizeLine := fits_of_scanBound (by rw [z1]; exact room)
    have led1 : w.params.followText "set-order" = true ∨ t1.led = true := hl.imp id fun z => l1.trans z
    -- the end, whatever becomes of the table's plainness
    have tail : ∀ t2 : SetTable, t2.fits es1.size = true → Ris t2.place.toList → (w.params.followText "set-order" = true ∨ t2.led = true) →
        wpAny (model P w) A (do
          storeSet a es1 t2
          if (!dummy && t2.tooFull) = true then do
              (match (relayAll t2 es1 (SetTable.grown es1.size)).2.2 with | true => rule "set.scan.the-table-gave-way" | false => pure ())
              storeSet a (relayAll t2 es1 (SetTable.grown es1.size)).1 (relayAll t2 es1 (SetTable.grown es1.size)).2.1
              pure (some true)
            else pure (some true)) (fun r s' => wpAny (model P w) A (match r with | some added => pure added | none => setAddHashedIn a (M.va k tk) (M.kd.hash k) 99999) Q E s') E s := by
      intro t2 hf2 hr2 hl2
      refine wpAny_bind (wpAny_storeSet_of ho hd ?_ few1)
      have ho1 := store_at (es' := es1) (t' := t2) ho hd
      have sb1 := Heap.SameBut.update s.heap a (Obj.putSet es1 t2)
      split
      · have pm2 := relayAll_perm t2 es1 (SetTable.grown es1.size)
        have f2 := relayAll_fits t2 es1 (SetTable.grown es1.size)
        have r2 := relayAll_ris t2 es1 (SetTable.grown es1.size)
        have l2 := relayAll_led t2 es1 (SetTable.grown es1.size)
        generalize relayAll t2 es1 (SetTable.grown es1.size) = Y at pm2 f2 r2 l2 ⊢
        obtain ⟨es2, t3, gave2⟩ := Y
        dsimp only at pm2 f2 r2 l2 ⊢
        have en2 : Ents M es2.toList (k :: l) := en1.perm pm2
        have few2 : es2.size ≤ sizeLine := fits_of_scanBound (by rw [← Array.length_toList, en2.len]; exact room)
        refine wpAny_bind (gw _ (wpAny_bind (wpAny_storeSet_of ho1 rfl ?_ few2)))
        have ho2 := store_at (es' := es2) (t' := t3) ho1 rfl
        exact wpAny_pure (wpAny_pure (hQ _ _ (sb1.trans (Heap.SameBut.update _ a _)) ⟨⟨_, es2, _, t3, ho2, hx, rfl, en2, f2, r2, hl2.imp id fun z => l2.trans z⟩, room⟩))
      · exact wpAny_pure (wpAny_pure (hQ _ _ sb1 ⟨⟨_, es1, _, t2, ho1, hx, rfl, en1, hf2, hr2, hl2⟩, room⟩))
    refine wpAny_bind (gw _ ?_)
    split
    · refine wpAny_bind ?_
      rw [hashByValue_scannable 8 (M.plain k tk)]
      refine wpAny_pure ?_
      refine tail _ ?_ ?_ ?_
      · split
        · exact f1
        · exact SetTable.fits_plain_off f1
      · split <;> exact r1
      · split <;> exact led1
    · refine wpAny_bind (wpAny_pure ?_)
      simp only [↓reduceIte]
      exact tail _ f1 r1 led1
end
end KS
end
section
set_option Elab.async false
set_option linter.all false
set_option maxRecDepth 100000
set_option maxHeartbeats 4000000
/-! K2: set(iterable), keys of one kind. -/
namespace KS
open PySem PySem.Spec PyProof.Rows L2
section
variable {P : Program} {w : World} {κ : Type} [DecidableEq κ] {M : Keyed1 P w κ}

/-- the keys of a list, met one after another -/
def metK (ks : List κ) : List κ := ks.foldl addK []
theorem metK_snoc (ks : List κ) (k : κ) : metK (ks ++ [k]) = addK (metK ks) k := by
  unfold metK
  rw [List.foldl_append]
  rfl
theorem mem_addK {l : List κ} {k x : κ} : x ∈ addK l k ↔ x ∈ l ∨ x = k := by
  unfold addK
  split
  · rename_i h
    exact ⟨.inl, fun z => z.elim id fun e => e ▸ h⟩
  · rw [List.mem_cons]
    exact Or.comm
theorem nd_addK {l : List κ} {k : κ} (h : l.Nodup) : (addK l k).Nodup := by
  unfold addK
  split
  · exact h
  · exact List.nodup_cons.mpr ⟨by assumption, h⟩
theorem len_addK {l : List κ} {k : κ} : l.length ≤ (addK l k).length := by
  unfold addK
  split
  · exact Nat.le_refl _
  · exact Nat.le_succ _
theorem foldl_addK : ∀ (ks l : List κ), (∀ x, x ∈ ks.foldl addK l ↔ x ∈ l ∨ x ∈ ks) ∧ (l.Nodup → (ks.foldl addK l).Nodup) ∧ l.length ≤ (ks.foldl addK l).length
  | [], l => ⟨fun x => by simp, id, Nat.le_refl _⟩
  | k :: ks, l => by
    obtain ⟨h1, h2, h3⟩ := foldl_addK ks (addK l k)
    refine ⟨fun x => ?_, fun n => h2 (nd_addK n), Nat.le_trans len_addK h3⟩
    rw [List.foldl_cons, h1, mem_addK, List.mem_cons, or_assoc]
theorem mem_metK {ks : List κ} {x : κ} : x ∈ metK ks ↔ x ∈ ks := by
  have := (foldl_addK ks []).1 x
  simp at this
  exact this
theorem nd_metK (ks : List κ) : (metK ks).Nodup := (foldl_addK ks []).2.1 List.nodup_nil
theorem len_metK_take (ks : List κ) (i : Nat) : (metK (ks.take i)).length ≤ (metK ks).length := by
  have e : metK ks = (ks.drop i).foldl addK (metK (ks.take i)) := by
    unfold metK
    rw [← List.foldl_append, List.take_append_drop]
  rw [e]
  exact (foldl_addK _ _).2.2

/-- the loop that fills a set -/
theorem fillSet {A : Around} {I : Addr} {fp wr : List Addr} {G : Array GenState → Array GenState → Prop} {n : Nat} {Pv : Nat → Value → Prop} {St : Nat → Shared → Prop} {R : Result → Shared → Prop}
    (W : WalksS P w A.in1 I fp wr G n Pv St) (S : Addr) (off : S ∉ fp) (ks : List κ) (hn : ks.length = n) (room : (metK ks).length + 1 < scanBound) (val : ∀ i v, Pv i v → ∃ k t, ks[i]? = some k ∧ v = M.va k t) :
    ∀ (d i : Nat) (s : Shared), i + d = n → St i s → SetAtK M s.heap S (metK (ks.take i)) →
      (∀ s', Moved (S :: wr) G s s' → SetAtK M s'.heap S (metK ks) → R (.ok (.ret .none)) s') →
      codeAny (model P w) A (.builtin "set.update.loop" ⟨[.ref S, .ref I], []⟩) R s := by
  have offw : S ∉ wr := fun h => off (W.sub _ h)
  have more : ∀ b ∈ wr, b ∈ S :: wr := fun b hb => List.mem_cons_of_mem _ hb
  intro d
  induction d with
  | zero =>
    intro i s hi st set fin
    have e0 : i = n := by omega
    subst e0
    refine codeAny_builtin PyProof.Rows.F.entry_set_update_loop ?_
    rw [Around.under_plainId PyProof.Rows.F.plain_set_update_loop _]
    refine wpAny_bind (W.done s _ _ st fun s' mv => ?_)
    rw [List.take_of_length_le (Nat.le_of_eq hn)] at set
    exact wpAny_pure (fin s' (mv.mono more) (set.stays fun o e => mv.heap S o offw e))
  | succ d ih =>
    intro i s hi st set fin
    refine codeAny_builtin PyProof.Rows.F.entry_set_update_loop ?_
    rw [Around.under_plainId PyProof.Rows.F.plain_set_update_loop _]
    refine wpAny_bind (W.item i s _ _ (by omega) st fun v s' hv st' mv => ?_)
    obtain ⟨k, t, hk, rfl⟩ := val i v hv
    have set' : SetAtK M s'.heap S (metK (ks.take i)) := set.stays fun o e => mv.heap S o offw e
    refine wpAny_bind (wpAny_holding ?_)
    unfold setAdd
    refine wpAny_holding (wpAny_bind (M.kd.pyHash (k := k) (M.isMk _ _) ?_))
    have small : (metK (ks.take i)).length + 1 < scanBound := by
      have := len_metK_take ks i
      omega
    refine addSet (s := { s' with toks := s'.toks + 1 }) set' small fun b h' same set2 => ?_
    have e1 : addK (metK (ks.take i)) k = metK (ks.take (i + 1)) := by
      rw [List.take_add_one, hk, ← metK_snoc]
      rfl
    rw [e1] at set2
    refine wpAny_pure ⟨plainId_quiet PyProof.Rows.F.plain_set_update_loop _, ih (i + 1) _ (by omega) (W.frame _ s' _ _ st' (Nat.le_succ _) fun b hb o e => ?_) set2 fun s2 mv2 set3 => ?_⟩
    · rw [same.2 b fun z => off (z ▸ hb)]
      exact e
    · refine fin s2 (Moved.trans W.gtrans ((mv.mono more).then_heap (Nat.le_succ _) fun b o hb e => ?_) mv2) set3
      rw [same.2 b fun z => hb (z ▸ List.mem_cons_self)]
      exact e

/-- what iter(v) makes: one new object, from which the keys come -/
def GivesKeys (P : Program) (w : World) (M : Keyed1 P w κ) (v : Value) (ks : List κ) (h : Heap) : Prop :=
  ∀ (A : Around) (E : Value → Shared → Prop) (s : Shared) (Q : Value → Shared → Prop), (∀ b o, h.get? b = some o → s.heap.get? b = some o) → h.objs.size < s.heap.objs.size →
    (∀ (o : Obj) (fp : List Addr) (n : Nat) (Pv : Nat → Value → Prop) (St : Nat → Heap → Prop), (∀ A' : Around, A'.handled = none → Walks P w A' s.heap.objs.size fp [s.heap.objs.size] n Pv St) → h.objs.size ∉ fp → ks.length = n →
      (∀ i u, Pv i u → ∃ k t, ks[i]? = some k ∧ u = M.va k t) → St 0 (s.heap.push o) → Q (.ref s.heap.objs.size) { s with heap := s.heap.push o }) → wpAny (model P w) A (pyIter v) Q E s

variable {A : Around} {E : Value → Shared → Prop} {s : Shared}
/-- set(v) -/
theorem makeSet {v : Value} {T : String} {ks : List κ} {Q : Value → Shared → Prop} (hh : A.handled = none) (hT : ∀ s' : Shared, (∀ b o, s.heap.get? b = some o → s'.heap.get? b = some o) → s'.TypeIs v T)
    (n1 : isSubtype (.type T) (.type "set") = pure false) (n2 : isSubtype (.type T) (.type "frozenset") = pure false) (n3 : (Value.type T == Value.type "dict") = false)
    (gv : GivesKeys P w M v ks s.heap) (room : (metK ks).length + 1 < scanBound)
    (hQ : ∀ (h' : Heap) (tk : Nat), SetAtK M h' s.heap.objs.size (metK ks) → (∀ b o, s.heap.get? b = some o → h'.get? b = some o) → Q (.ref s.heap.objs.size) { s with heap := h', toks := tk }) :
    wpAny (model P w) A (call (.type "set") [v]) Q E s := by
  obtain ⟨c, tl, hmro⟩ := PySem.F.called_set.mro
  have hmade := PySem.F.called_set.made
  have hsub := PySem.F.called_set.sub
  refine wpAny_call (codeAny_of_tree ?_)
  show wpAny _ _ (callAny (.type "set") _) _ _ _
  refine wpAny_pure ⟨Code.quiet_builtin _ (by decide +kernel), codeAny_builtin PySem.F.entry_type_call ?_⟩
  rw [Around.under_plain (weight_type_call_type "set" [v] []) rfl]
  have g1 := PySem.F.called_set.notType
  have g2 := PySem.F.called_set.canCreate
  have g3 := PySem.F.typeCall_set_1 v
  repeat (any_goals (first | assumption | wp_step))
  refine codeAny_mono (code_set_led1 v (E := E) (Q₁ := fun obj s₁ => obj = .ref s.heap.objs.size ∧ s₁ = { s with heap := s.heap.push { cls := .type "set", dict := none, data := .set #[] 0 (.fresh 0 0 (!w.params.followText "set-order")) } }) ⟨rfl, rfl⟩) fun r s₁ hr => ?_
  cases r with
  | error e => exact hr
  | ok fl =>
    cases fl with
    | ret obj =>
      obtain ⟨rfl, rfl⟩ := hr
      have at0 : (s.heap.push { cls := .type "set", dict := none, data := .set #[] 0 (.fresh 0 0 (!w.params.followText "set-order")) }).get? s.heap.objs.size = some { cls := .type "set", dict := none, data := .set #[] 0 (.fresh 0 0 (!w.params.followText "set-order")) } := Heap.get?_push_size _ rfl
      have empty : ∀ h1 : Heap, h1.get? s.heap.objs.size = some { cls := .type "set", dict := none, data := .set #[] 0 (.fresh 0 0 (!w.params.followText "set-order")) } → SetAtK M h1 s.heap.objs.size (metK (ks.take 0)) := by
        intro h1 e1
        refine ⟨⟨_, #[], 0, _, e1, ⟨rfl, rfl, rfl⟩, rfl, ⟨fun e he => (nomatch he), List.Perm.refl _, List.nodup_nil⟩, rfl, List.Pairwise.nil, ?_⟩, (by show 0 < scanBound; decide)⟩
        show _ ∨ (!w.params.followText "set-order") = true
        cases w.params.followText "set-order"
        · exact .inr rfl
        · exact .inl rfl
      generalize hob : ({ cls := .type "set", dict := none, data := .set #[] 0 (.fresh 0 0 (!w.params.followText "set-order")) } : Obj) = ob at at0 empty ⊢
      have hs0 : Shared.TypeIs { s with heap := s.heap.push ob } (.ref s.heap.objs.size) "set" := ⟨_, at0, by rw [← hob]⟩
      have hs1 : Shared.TypeIs { s with heap := s.heap.push ob } v T := hT _ fun b o e => Heap.get?_push_of_some _ e
      have g4 := PySem.F.called_set.init.lookup
      have g5 := PySem.F.called_set.init.bind (.ref s.heap.objs.size)
      repeat (any_goals (first | assumption | wp_step))
      refine codeAny_mono (codeAny_call_builtin (R := wants (fun r s₂ => r = .none ∧ ∃ h' tk, s₂ = { s with heap := h', toks := tk } ∧ SetAtK M h' s.heap.objs.size (metK ks) ∧
          (∀ b o, s.heap.get? b = some o → h'.get? b = some o)) E) PySem.F.called_set.init.plain PySem.F.entry_set_init (check_set_init_1 hs0 ?_)) fun r₂ s₂ hr₂ => ?_
      · unfold Builtin.«set.__init__» noKeywords Builtin.Frozenset.updateFrom
        have sz : (s.heap.push ob).objs.size = s.heap.objs.size + 1 := Heap.size_push ..
        generalize hPI : pyIter = PI
        rw [← hob] at at0 hs0 hs1 ⊢
        wp_walk
        rw [hob] at at0 hs0 hs1
        simp only [hob]
        subst hPI
        refine gv _ _ _ _ (fun b o e => Heap.get?_push_of_some _ e) (by rw [sz]; exact Nat.lt_succ_self _) fun oi fp n Pv St W off hn val st => ?_
        refine wpAny_bind (wpAny_runValue ?_)
        dsimp only at W st ⊢
        refine fillSet ((W _ (by simp [hh])).toS) s.heap.objs.size off ks hn room val n 0 _ (Nat.zero_add _) st (empty _ ?_) fun s' mv set => ?_
        · exact Heap.get?_push_of_some _ at0
        · obtain ⟨h2, g2', d2, tk2, os2⟩ := s'
          obtain rfl : g2' = s.gens := mv.gens
          obtain rfl : d2 = s.drawn := mv.drawn
          obtain rfl : os2 = s.os := mv.os
          refine wpAny_pure (wpAny_pure ⟨rfl, h2, tk2, rfl, set, fun b o e => ?_⟩)
          have lt : b < s.heap.objs.size := Heap.lt_size e
          refine mv.heap b o (fun z => ?_) (Heap.get?_push_of_some _ (Heap.get?_push_of_some _ e))
          rcases List.mem_cons.mp z with z | z
          · exact absurd z (Nat.ne_of_lt lt)
          · have z2 : b = s.heap.objs.size + 1 := (List.mem_singleton.mp z).trans sz
            exact Nat.lt_irrefl _ (Nat.lt_of_lt_of_le lt (by rw [z2]; exact Nat.le_succ _))
      · cases r₂ with
        | error e => exact hr₂
        | ok fl₂ =>
          cases fl₂ with
          | ret r =>
            obtain ⟨rfl, h', tk, rfl, set, keep⟩ := hr₂
            repeat (any_goals (first | assumption | wp_step))
            exact hQ _ _ set keep
          | _ => exact hr₂.elim
    | _ => exact hr.elim
end
end KS
end
section
set_option Elab.async false
set_option linter.all false
set_option maxRecDepth 100000
set_option maxHeartbeats 4000000
/-! K3: sorted over texts; sets made of lists and texts; sorted over sets. -/
namespace KS
open PySem PySem.Spec PyProof.Rows L2
open SX (S)
open MS (ltL ltI usort ssort)
/-! ### the order of texts -/
def sv : Value → List Nat
  | .str x _ => x.cps.toList
  | _ => []
def ltSv (v u : Value) : Bool := ltL (sv v) (sv u)
theorem swoSv : SrtO.Swo ltSv := ⟨fun _ _ h => MS.stoL.asym h, fun _ _ _ h1 h2 => MS.stoL.tr2 h1 h2⟩
def AllStr (vs : List Value) : Prop := ∀ v ∈ vs, ∃ x t, v = Value.str x t
theorem strsOf : ∀ {vs : List Value}, AllStr vs → ∃ xs : List Str, StrsAre vs xs ∧ xs.map (·.cps.toList) = vs.map sv
  | [], _ => ⟨[], .nil, rfl⟩
  | v :: vs, h => by
    obtain ⟨x, t, rfl⟩ := h v (List.mem_cons_self ..)
    obtain ⟨xs, h1, h2⟩ := strsOf (vs := vs) fun u hu => h u (List.mem_cons_of_mem _ hu)
    exact ⟨x :: xs, .cons x t h1, by rw [List.map_cons, List.map_cons, h2]; rfl⟩
theorem allStr_of : ∀ {vs : List Value} {xs : List Str}, StrsAre vs xs → AllStr vs ∧ vs.map sv = xs.map (·.cps.toList)
  | _, _, .nil => ⟨fun v h => (nomatch h), rfl⟩
  | _, _, .cons x t r => by
    obtain ⟨h1, h2⟩ := allStr_of r
    refine ⟨fun v hv => ?_, by rw [List.map_cons, List.map_cons, h2]; rfl⟩
    rcases List.mem_cons.mp hv with rfl | hv
    · exact ⟨x, t, rfl⟩
    · exact h1 v hv
section
variable {P : Program} {w : World} {A : Around} {E : Value → Shared → Prop} {s : Shared}
theorem strSortable {a : Addr} {vs : List Value} (h : AllStr vs) (two : 2 ≤ vs.length) : SrtO.SortableO P w A s a vs ltSv := by
  intro h' _
  refine ⟨oneType', fun Q E hq => ?_, fun p q hp hq => ?_⟩
  · obtain ⟨xs, hx, _⟩ := strsOf h
    match vs, hx, two with
    | v1 :: v2 :: r, hx, _ =>
      rw [keyKind_strs hx]
      exact wpAny_pure hq
    | [], _, z => exact absurd z (by decide)
    | [_], _, z => exact absurd z (by simp)
  · obtain ⟨x, t, e1⟩ := h _ hp
    obtain ⟨y, u, e2⟩ := h _ hq
    show wpAny (model P w) A (keyLt' oneType' p.1 q.1) (fun r s' => s' = { s with heap := h' } ∧ r = ltSv p.1 q.1) (fun _ _ => False) { s with heap := h' }
    rw [e1, e2, keyLt'_oneType]
    exact oneLt_str ⟨rfl, rfl⟩
/-- what sorting leaves, as lists of code points -/
theorem sortedOut {vs out : List Value} (hI : AllStr vs) (hs : SrtO.Srtd ltSv out) (hb : SrtO.Stb ltSv out vs) : AllStr out ∧ out.map sv = ssort ltL (vs.map sv) := by
  refine ⟨fun v hv => hI v (hb.perm.mem_iff.mp hv), (MS.ssort_eq MS.stoL ?_ (hb.perm.map sv)).symm⟩
  exact List.pairwise_map.mpr (hs.imp fun {x y} h => h)
end
/-! ### lists of texts as values -/
abbrev tx (l : List Nat) : V := .str (S l)
theorem vals_tx : ∀ {us : List Value} {ls : List (List Nat)}, AllStr us → us.map sv = ls → Vals (ls.map tx) us
  | [], _, _, e => by subst e; exact .nil
  | u :: us, _, h, e => by
    subst e
    obtain ⟨x, t, rfl⟩ := h u (List.mem_cons_self ..)
    exact .cons ⟨t, rfl⟩ (vals_tx (fun v hv => h v (List.mem_cons_of_mem _ hv)) rfl)
theorem tx_vals : ∀ {ls : List (List Nat)} {us : List Value}, Vals (ls.map tx) us → AllStr us ∧ us.map sv = ls
  | [], us, h => by cases h; exact ⟨fun v h => (nomatch h), rfl⟩
  | l :: ls, _, .cons r t => by
    obtain ⟨k, rfl⟩ := r
    obtain ⟨h1, h2⟩ := tx_vals t
    refine ⟨fun v hv => ?_, by rw [List.map_cons, h2]; rfl⟩
    rcases List.mem_cons.mp hv with rfl | hv
    · exact ⟨_, k, rfl⟩
    · exact h1 v hv
section
variable {X : Cx}
/-- sorted(a list of texts) -/
def rSortT (K : PySem.W.Frag) : List V → Hp → VK → Prop := fun vs H Q => ∃ (a : Addr) (ls : List (List Nat)), vs = [V.ref a] ∧ SqL K H a (ls.map tx) ∧
  ∀ p : Addr, H p = none → Q (.ref p) (upd H p (.lst ((ssort ltL ls).map tx)))
theorem cr_sortT : CallR X (.builtin "sorted") (rSortT X.K) := by
  intro pins s σ H vs us Q I r h
  obtain ⟨a, ls, rfl, hs, q⟩ := h
  obtain ⟨its, rv, hl, hz⟩ := I.list hs
  rw [Vals.ref1 r]
  obtain ⟨hi, he⟩ := tx_vals rv
  refine SrtO.sorted_ord swoSv hl.isList (by rw [← rv.length]; exact hz) (fun h2 h₁ a' _ _ => strSortable hi h2) fun out h1 h2 => ?_
  obtain ⟨k1, k2⟩ := sortedOut hi h1 h2
  obtain ⟨ep, he'⟩ := PyProof.Rows.sortedAll_at s.heap its out.toArray
  rw [he] at k2
  have hlen : ((ssort ltL ls).map tx).length ≤ sizeLine := by
    rw [List.length_map, MS.perm_ssort.length_eq]
    rw [List.length_map] at hz
    exact hz
  exact ⟨.ref _, upd H (s.heap.objs.size + 1) (.lst ((ssort ltL ls).map tx)), I.laid (t' := s.toks) (fun _ _ => PyProof.Rows.sortedAll_old) (Nat.le_succ _) ⟨hlen, out, ep, vals_tx k1 k2, he'⟩, rfl, q _ (I.hok.fresh (Nat.le_succ _))⟩
end
/-! ### what sets are made of -/
section
variable {P : Program} {w : World}
theorem keysList {κ : Type} [DecidableEq κ] {M : Keyed1 P w κ} {h : Heap} {l : Addr} {items : Array Value} {ks : List κ} (hl : h.IsList l items) (hn : ks.length = items.size)
    (val : ∀ (i : Nat) u, items[i]? = some u → ∃ k t, ks[i]? = some k ∧ u = M.va k t) : GivesKeys P w M (.ref l) ks h := by
  intro A E s Q hk hz hQ
  obtain ⟨o, ho, hr⟩ := hl
  have hl' : s.heap.IsList l items := ⟨o, hk _ _ ho, hr⟩
  have lt : l < h.objs.size := Heap.lt_size ho
  refine wpAny_pyIter_list hl' ?_
  refine hQ _ [s.heap.objs.size, l] items.size _ _ (fun A' hA => Walks.list hA _ l (Nat.ne_of_lt (Nat.lt_trans lt hz)) items) ?_ hn val ⟨⟨_, Heap.get?_push_size _ rfl, rfl, rfl⟩, hl'.push _⟩
  intro z
  rcases List.mem_cons.mp z with z | z
  · exact Nat.ne_of_lt hz z
  · exact Nat.ne_of_gt lt (List.mem_singleton.mp z)
theorem keysText {h : Heap} {x : Str} {t : Tok} : GivesKeys P w (txtKey P w) (.str x t) (x.cps.toList.map fun c => ⟨#[c]⟩) h := by
  intro A E s Q hk hz hQ
  refine wpAny_pyIter_str fun o St W st => ?_
  refine hQ o _ _ _ St W ?_ (by simp) (fun i u hu => ?_) st
  · intro z
    exact Nat.ne_of_lt hz (List.mem_singleton.mp z)
  · obtain ⟨c, u', hc, rfl⟩ := hu
    exact ⟨⟨#[c]⟩, u', by rw [List.getElem?_map, Array.getElem?_toList, hc]; rfl, rfl⟩
end
/-- a set at a, its members in any order -/
def SetHO {κ : Type} [DecidableEq κ] {P : Program} {w : World} (M : Keyed1 P w κ) (a : Addr) (l : List κ) : HO := .ext fun h => SetAtK M h a l
section
variable {X : Cx} {κ : Type} [DecidableEq κ] {M : Keyed1 X.prog X.w κ}
theorem setHO_ok {H : Hp} {h : Heap} {a : Addr} {l : List κ} (S : SetAtK M h a l) : ObjOk X.prog X.w H h a (SetHO M a l) := by
  obtain ⟨o, es, ep, t, ho, _⟩ := S.ex
  exact ⟨S, ⟨o, ho⟩, fun h1 h2 p k => SetAtK.stays p k⟩
/-- what set(..) hands on -/
def rSetOf (M : Keyed1 X.prog X.w κ) (ks : List κ) : Hp → VK → Prop := fun H Q => (metK ks).length + 1 < scanBound ∧ ∀ p, H p = none → Q (.ref p) (upd H p (SetHO M p (metK ks)))
theorem setDone {pins : List (Addr × Obj)} {s : Shared} {σ : L2.St} {H : Hp} {Q : VK} {ks : List κ} {v : Value} {T : String} (I : Inv X pins σ H s) (hc : X.calm = true) (q : rSetOf M ks H Q)
    (hT : ∀ s' : Shared, (∀ b o, s.heap.get? b = some o → s'.heap.get? b = some o) → s'.TypeIs v T)
    (n1 : isSubtype (.type T) (.type "set") = pure false) (n2 : isSubtype (.type T) (.type "frozenset") = pure false) (n3 : (Value.type T == Value.type "dict") = false)
    (gv : GivesKeys X.prog X.w M v ks s.heap) : wpAny (model X.prog X.w) X.A (call (.type "set") [v]) (EP X pins σ Q) X.xe s := by
  refine makeSet (I.ok.hd hc) hT n1 n2 n3 gv q.1 fun h' tk set keep => ?_
  exact ⟨.ref _, upd H s.heap.objs.size (SetHO M s.heap.objs.size (metK ks)), I.laid (t' := tk) keep (Nat.le_refl _) (setHO_ok set), rfl, q.2 _ (I.hok.fresh (Nat.le_refl _))⟩
/-- set(a list of texts), set(a text), set(a list of ints) -/
def rSetS (X : Cx) : List V → Hp → VK → Prop := fun vs H Q => (∃ (a : Addr) (ls : List (List Nat)), vs = [.ref a] ∧ SqL X.K H a (ls.map tx) ∧ rSetOf (txtKey X.prog X.w) (ls.map S) H Q) ∨
  (∃ l : List Nat, vs = [tx l] ∧ rSetOf (txtKey X.prog X.w) (l.map fun c => S [c]) H Q) ∨
  (∃ (a : Addr) (ns : List Int), vs = [.ref a] ∧ SqL X.K H a (ns.map V.int) ∧ rSetOf (intKey X.prog X.w) ns H Q)
theorem cr_setS (hc : X.calm = true) : CallR X (.type "set") (rSetS X) := by
  intro pins s σ H vs us Q I r h
  rcases h with ⟨a, ls, rfl, hs, q⟩ | ⟨l, rfl, q⟩ | ⟨a, ns, rfl, hs, q⟩
  · obtain ⟨its, rv, hl, hz⟩ := I.list hs
    rw [Vals.ref1 r]
    obtain ⟨hi, he⟩ := tx_vals rv
    have hl' := hl.isList
    obtain ⟨o, ho, hr⟩ := id hl'
    refine setDone (v := .ref a) I hc q (T := "list") (fun s' hk => ⟨o, hk _ _ ho, hr.1⟩) PySem.F.sub_list_set PySem.F.sub_list_frozenset (by decide) (keysList hl' (by have := rv.length; simpa using this) fun i u hu => ?_)
    have hu' : its[i]? = some u := by simpa using hu
    obtain ⟨x, t, rfl⟩ := hi u (List.mem_of_getElem? hu')
    refine ⟨x, t, ?_, rfl⟩
    rw [← he, List.getElem?_map, List.getElem?_map, hu']
    show some (S x.cps.toList) = some x
    rw [SX.S_tl]
  · match us, r with
    | [u], .cons r .nil =>
      obtain ⟨t, rfl⟩ := r
      refine setDone (v := .str (S l) t) I hc q (T := "str") (fun s' hk => rfl) PySem.F.sub_str_set PySem.F.sub_str_frozenset (by decide) ?_
      exact keysText
  · obtain ⟨its, rv, hl, hz⟩ := I.list hs
    rw [Vals.ref1 r]
    have hi := rv.ints
    have hl' := hl.isList
    obtain ⟨o, ho, hr⟩ := id hl'
    refine setDone (v := .ref a) I hc q (T := "list") (fun s' hk => ⟨o, hk _ _ ho, hr.1⟩) PySem.F.sub_list_set PySem.F.sub_list_frozenset (by decide) (keysList hl' (by have := rv.length; simpa using this) fun i u hu => ?_)
    have hu' : its[i]? = some u := by simpa using hu
    obtain ⟨t, e⟩ := PyProof.Rows.IntsAre.int_at hi i u hu'
    have lt : i < ns.length := by
      have h1 := (List.getElem?_eq_some_iff.mp hu').1
      have := rv.length
      rw [List.length_map] at this
      omega
    refine ⟨ns[i], t, List.getElem?_eq_getElem lt, ?_⟩
    rw [e, List.getD_eq_getElem?_getD, List.getElem?_eq_getElem lt]
    rfl
end
/-! ### sorted(a set) -/
section
variable {P : Program} {w : World} {A : Around} {E : Value → Shared → Prop} {s : Shared} {κ : Type} [DecidableEq κ] {M : Keyed1 P w κ}
theorem sortSet {a : Addr} {l : List κ} {ltv : Value → Value → Bool} {Q : Value → Shared → Prop} (S : SetAtK M s.heap a l) (hh : A.handled = none) (O : SrtO.Swo ltv)
    (hS : ∀ (A' : Around) (s' : Shared) (b : Addr) (vs : List Value), (∀ v ∈ vs, ∃ k t, v = M.va k t) → 2 ≤ vs.length → SrtO.SortableO P w A' s' b vs ltv)
    (hQ : ∀ s' p (vs out : List Value) (c : Nat), (∀ b o, s.heap.get? b = some o → s'.heap.get? b = some o) → s'.gens = s.gens → s'.os = s.os → s.heap.objs.size ≤ p → s'.heap.get? p = some (seqObj "list" out.toArray c) →
      (∀ v ∈ vs, ∃ k t, v = M.va k t) → (vs.map M.un).Perm l → SrtO.Srtd ltv out → SrtO.Stb ltv out vs → Q (.ref p) s') :
    wpAny (model P w) A (call (.builtin "sorted") [.ref a]) Q E s := by
  obtain ⟨⟨o, es, ep, t, ho, hx, hd, en, hf, hr, hl⟩, few⟩ := S
  have zz : es.size = l.length := by rw [← Array.length_toList]; exact en.len
  refine Calls.call_function_entry kind_sorted plain_sorted entry_sorted (args_sorted1 _) ?_
  unfold Builtin.«sorted»
  refine wpAny_bind (m := checkCount "sorted" 1 1 _) (wpAny_pure ?_)
  refine wpAny_bind (collect_set (A := A.in1) hh ⟨o, ho, hx.1, hd⟩ hf (by rw [zz]; exact few) hr hl fun s1 vs k1 hz g1 o1 pm => ?_)
  have vlen : vs.length = l.length := by rw [pm.length_eq, List.length_map, Array.length_toList, zz]
  have vform : ∀ v ∈ vs, ∃ k t, v = M.va k t := fun v hv => by
    obtain ⟨e, he, rfl⟩ := List.mem_map.mp (pm.mem_iff.mp hv)
    obtain ⟨k, t, rfl⟩ := en.form e he
    exact ⟨k, t, rfl⟩
  have vl : vs.length ≤ sizeLine := by rw [vlen]; exact fits_of_scanBound few
  refine wpAny_bind (wpAny_newList ?_ vl)
  have oL : (s1.heap.push (seqObj "list" vs.toArray 0)).get? s1.heap.objs.size = some (seqObj "list" vs.toArray 0) := Heap.get?_push_size _ rfl
  refine wpAny_bind (wpAny_holding (wpAny_call_entry slot_list_sort ⟨_, oL, rfl⟩ entry_list_sort (SrtO.list_sort_ord O oL vl (fun h2 => hS _ _ _ _ vform h2) fun out h1 h2 => ⟨_, rfl, ?_⟩) (args_list_sort _)))
  obtain ⟨c, hc⟩ := sortedHeap_at (vs := vs) (out := out.toArray) oL
  refine wpAny_pure ⟨_, rfl, hQ _ s1.heap.objs.size vs out c (fun b u e => ?_) g1 o1 hz hc vform ?_ h1 h2⟩
  · have q := k1 b u e
    have lt := Heap.lt_size q
    show (sortedHeap (s1.heap.push (seqObj "list" vs.toArray 0)) s1.heap.objs.size vs out.toArray).get? b = some u
    rw [sortedHeap_old (Nat.ne_of_lt lt) (by rw [size_push']; exact Nat.lt_succ_of_lt lt)]
    exact Heap.get?_push_of_some _ q
  · refine List.Perm.trans ?_ en.keys
    have := pm.map M.un
    rw [List.map_map] at this
    exact this
end
section
variable {X : Cx}
theorem invAfter {pins : List (Addr × Obj)} {s s' : Shared} {σ : L2.St} {H : Hp} {p : Addr} {xs : List V} {out : List Value} {c : Nat} {Q : VK} (I : Inv X pins σ H s) (k : ∀ b o, s.heap.get? b = some o → s'.heap.get? b = some o)
    (g : s'.gens = s.gens) (o : s'.os = s.os) (hp : s.heap.objs.size ≤ p) (hg : s'.heap.get? p = some (seqObj "list" out.toArray c)) (hl : xs.length ≤ sizeLine) (hv : Vals xs out) (q : Q (.ref p) (upd H p (.lst xs))) : EP X pins σ Q (.ref p) s' := by
  have J : Inv X pins σ (upd H p (.lst xs)) { s with heap := s'.heap, gens := s'.gens, drawn := s'.drawn, toks := s'.toks } :=
    I.call (ch := []) (Un.laid k hp (I.hok.fresh hp)) (I.hok.laid k hp ⟨hl, out, c, hv, hg⟩) (by rw [g]; exact I.bare) (fun _ z => nomatch z)
  have e : s' = { s with heap := s'.heap, gens := s'.gens, drawn := s'.drawn, toks := s'.toks } := by
    cases s'
    cases s
    cases o
    rfl
  rw [e]
  exact ⟨.ref p, _, J, rfl, q⟩
/-- sorted(a set of texts), of ints -/
def rSortSet (X : Cx) : List V → Hp → VK → Prop := fun vs H Q => (∃ (a : Addr) (ls : List (List Nat)), vs = [V.ref a] ∧ H a = some (SetHO (txtKey X.prog X.w) a (metK (ls.map S))) ∧ ∀ p : Addr, H p = none → Q (.ref p) (upd H p (.lst ((usort ltL ls).map tx)))) ∨
  (∃ (a : Addr) (ns : List Int), vs = [V.ref a] ∧ H a = some (SetHO (intKey X.prog X.w) a (metK ns)) ∧ ∀ p : Addr, H p = none → Q (.ref p) (upd H p (.lst ((usort ltI ns).map V.int))))
theorem cr_sortSet (hc : X.calm = true) : CallR X (.builtin "sorted") (rSortSet X) := by
  intro pins s σ H vs us Q I r h
  rcases h with ⟨a, ls, rfl, ha, q⟩ | ⟨a, ns, rfl, ha, q⟩
  · have St : SetAtK (txtKey X.prog X.w) s.heap a (metK (ls.map S)) := (I.hok a _ ha).1
    rw [Vals.ref1 r]
    refine sortSet St (I.ok.hd hc) swoSv (fun A' s' b vs hv h2 => strSortable (fun v m => hv v m) h2) fun s' p vs out c k g o hp hg hv pm h1 h2 => ?_
    have hi : AllStr vs := fun v m => hv v m
    obtain ⟨k1, k2⟩ := sortedOut hi h1 h2
    have e1 : vs.map sv = (vs.map (txtKey X.prog X.w).un).map (·.cps.toList) := by
      rw [List.map_map]
      refine List.map_congr_left fun v m => ?_
      obtain ⟨x, t, rfl⟩ := hi v m
      rfl
    have p1 : (vs.map sv).Perm ((metK (ls.map S)).map (·.cps.toList)) := by
      rw [e1]
      exact pm.map _
    have n1 : ((metK (ls.map S)).map (·.cps.toList)).Nodup := by
      refine List.pairwise_map.mpr (List.Pairwise.imp (fun {x y} hxy e => hxy ?_) (nd_metK (ls.map S)))
      rw [← SX.S_tl x, ← SX.S_tl y, e]
    have e2 : ssort ltL (vs.map sv) = usort ltL ls := by
      rw [MS.ssort_nd MS.stoL (p1.nodup_iff.mpr n1)]
      refine MS.usort_congr MS.stoL fun z => ?_
      rw [p1.mem_iff, List.mem_map]
      constructor
      · rintro ⟨x, hx, rfl⟩
        obtain ⟨l, hl, rfl⟩ := List.mem_map.mp (mem_metK.mp hx)
        exact hl
      · intro hz
        exact ⟨S z, mem_metK.mpr (List.mem_map.mpr ⟨z, hz, rfl⟩), rfl⟩
    rw [e2] at k2
    refine invAfter I k g o hp hg ?_ (vals_tx k1 k2) (q p (I.hok.fresh hp))
    have : ((usort ltL ls).map tx).length = (metK (ls.map S)).length := by
      rw [List.length_map, ← k2, List.length_map, h2.perm.length_eq, ← List.length_map (f := sv), p1.length_eq, List.length_map]
    rw [this]
    exact fits_of_scanBound St.few
  · have St : SetAtK (intKey X.prog X.w) s.heap a (metK ns) := (I.hok a _ ha).1
    rw [Vals.ref1 r]
    have isI : ∀ vs : List Value, (∀ v ∈ vs, ∃ k t, v = (intKey X.prog X.w).va k t) → IntsAre vs (vs.map SrtO.iv) := fun vs hv => SrtO.ints_iv hv
    refine sortSet St (I.ok.hd hc) SrtO.swo_int (fun A' s' b vs hv h2 => SrtO.ints_sortable (isI vs hv) h2) fun s' p vs out c k g o hp hg hv pm h1 h2 => ?_
    obtain ⟨k1, k2, k3⟩ := SrtO.ints_out (isI vs hv) h1 h2
    have e1 : vs.map SrtO.iv = vs.map (intKey X.prog X.w).un := List.map_congr_left fun v m => by
      obtain ⟨x, t, rfl⟩ := hv v m
      rfl
    have p1 : (out.map SrtO.iv).Perm (metK ns) := k2.trans (by rw [e1]; exact pm)
    have e2 : usort ltI ns = out.map SrtO.iv := by
      refine MS.usort_eq MS.stoI (MS.asc_of_wk MS.stoI (k3.imp fun {a b} h => decide_eq_false (Int.not_lt.mpr h)) (p1.nodup_iff.mpr (nd_metK _))) fun z => ?_
      rw [p1.mem_iff, mem_metK]
    rw [e2] at q
    refine invAfter I k g o hp hg ?_ (vals_of_ints k1) (q p (I.hok.fresh hp))
    rw [List.length_map, p1.length_eq]
    exact fits_of_scanBound St.few
end
end KS
end
section
set_option Elab.async false
set_option linter.all false
set_option maxRecDepth 100000
set_option maxHeartbeats 4000000
/-! K4: enumerate and zip over lists and texts. -/
namespace KS
open PySem PySem.Spec PyProof.Rows L2
open SX (S)
/-- what is walked: a list at a, of these items; a text -/
inductive Sr where
  | li (a : Addr) (xs : List V)
  | te (l : List Nat)
def Sr.v : Sr → V
  | .li a _ => .ref a
  | .te l => tx l
def Sr.items : Sr → List V
  | .li _ xs => xs
  | .te l => l.map fun c => tx [c]
def Sr.G (K : PySem.W.Frag) : Sr → Hp → Prop
  | .li a xs, H => SqL K H a xs
  | .te _, _ => True
def Sr.ob (t : Tok) : Sr → Obj
  | .li a _ => { cls := .type "list_iterator", data := .fields #[.ref a, .int 0 0] }
  | .te l => { cls := .type (strIterType (S l)), data := .fields #[.str (S l) t, .int 0 0] }
/-- its iterator stands at the i-th -/
def Sr.tn (t : Tok) (it : Addr) (i : Nat) (h : Heap) : Sr → Prop
  | .li a _ => h.IsListIter it a i
  | .te l => h.IsStrIter it (strIterType (S l)) (S l) t i
def Sr.far : Sr → List Addr
  | .li a _ => [a]
  | .te _ => []
theorem Sr.tn_keep {u : Sr} {t : Tok} {it : Addr} {i : Nat} {h h' : Heap} (x : u.tn t it i h) (k : ∀ o, h.get? it = some o → h'.get? it = some o) : u.tn t it i h' := by
  cases u with
  | li a xs => exact Heap.IsListIter.at x k
  | te l =>
    obtain ⟨o, ho, r⟩ := x
    exact ⟨o, k o ho, r⟩
theorem Sr.tn_ob {u : Sr} {t : Tok} {it : Addr} {i : Nat} {h : Heap} (x : u.tn t it i h) : ∃ o, h.get? it = some o ∧ ∀ v, o.data ≠ .cell v := by
  cases u with
  | li a xs =>
    obtain ⟨o, ho, _, hd⟩ := x
    exact ⟨o, ho, fun v q => by rw [hd] at q; cases q⟩
  | te l =>
    obtain ⟨o, ho, _, hd⟩ := x
    exact ⟨o, ho, fun v q => by rw [hd] at q; cases q⟩
/-- its iterator draws its items -/
theorem Sr.draws {X : Cx} {pins : List (Addr × Obj)} {s : Shared} {σ : L2.St} {H : Hp} {u : Sr} {t : Tok} {it : Addr} {i : Nat} (I : Inv X pins σ H s) (hc : X.calm = true) (g : u.G X.K H) (x : u.tn t it i s.heap) (hne : it ∉ u.far) :
    ∃ (Pd : Nat → Value → Prop) (Sd : Nat → Heap → Prop), Draws X.prog X.w X.A.in1 it (it :: u.far) u.items.length Pd Sd ∧ Sd i s.heap ∧ (∀ j h, Sd j h → u.tn t it j h) ∧ ∀ j w, Pd j w → ∃ y, u.items[j]? = some y ∧ RelV y w := by
  cases u with
  | li a xs =>
    obtain ⟨its, rv, p, hz⟩ := I.list g
    have hl := rv.length
    have D := Draws.list (prog := X.prog) (w := X.w) (A := X.A.in1) (I.ok.hd hc) it a (fun e => hne (by rw [e]; exact List.mem_cons_self ..)) its.toArray
    have e1 : its.toArray.size = (Sr.li a xs).items.length := by
      show its.toArray.size = xs.length
      rw [hl, List.size_toArray]
    rw [e1] at D
    refine ⟨_, _, D, ⟨x, p.isList⟩, fun j h q => q.1, fun j w q => ?_⟩
    have q' : its[j]? = some w := by simpa using q
    cases hx : xs[j]? with
    | none =>
      have := Vals.none_of rv hx
      rw [this] at q'
      cases q'
    | some y =>
      obtain ⟨w', h1, h2⟩ := rv.get hx
      rw [h1] at q'
      cases q'
      exact ⟨y, hx, h2⟩
  | te l =>
    have D := Draws.text (prog := X.prog) (w := X.w) (A := X.A.in1) (I.ok.hd hc) it (S l) t
    have e1 : (S l).cps.size = (Sr.te l).items.length := by
      show l.toArray.size = (l.map fun c => tx [c]).length
      rw [List.length_map, List.size_toArray]
    rw [e1] at D
    refine ⟨_, _, D, x, fun j h q => q, fun j w q => ?_⟩
    obtain ⟨c, tk, h1, rfl⟩ := q
    refine ⟨tx [c], ?_, ⟨tk, rfl⟩⟩
    show (l.map fun c => tx [c])[j]? = _
    have h2 : l[j]? = some c := by simpa using h1
    rw [List.getElem?_map, h2]
    rfl
/-- pairs of the i-th of both, each in a new tuple -/
def ItP (xs ys : List V) (G : Hp → Prop) : It :=
  ⟨fun i H => i < xs.length ∧ G H, fun i H v H' => ∃ T x y, v = .ref T ∧ H T = none ∧ H' = upd H T (.tup [x, y]) ∧ xs[i]? = some x ∧ ys[i]? = some y, fun i H => i = xs.length ∧ G H⟩
theorem walkP {xs ys : List V} {G : Hp → Prop} : Walk (ItP xs ys G) xs.length G (YPair (fun i => xs[i]?) (fun i => ys[i]?)) where
  goes := fun _ _ h g => ⟨h, g⟩
  stops := fun _ g => ⟨rfl, g⟩
  yields := fun _ _ _ _ _ _ y => y
theorem one_val {x : V} {us : List Value} (r : Vals [x] us) : ∃ a, us = [a] ∧ RelV x a := by
  cases r with
  | cons ra rr =>
    cases rr
    exact ⟨_, rfl, ra⟩
theorem two_vals {x y : V} {us : List Value} (r : Vals [x, y] us) : ∃ a b, us = [a, b] ∧ RelV x a ∧ RelV y b := by
  cases r with
  | cons ra rr =>
    cases rr with
    | cons rb rr =>
      cases rr
      exact ⟨_, _, rfl, ra, rb⟩
theorem Sr.begins {u : Sr} {X : Cx} {pins : List (Addr × Obj)} {s : Shared} {σ : L2.St} {H : Hp} (I : Inv X pins σ H s) (g : u.G X.K H) {w : Value} (r : RelV u.v w) :
    ∃ t Hs, Begins w (u.ob t) Hs ∧ Hs s.heap ∧ (∀ (it : Addr) h, h.get? it = some (u.ob t) → u.tn t it 0 h) ∧ ∀ b ∈ u.far, b < s.heap.objs.size := by
  cases u with
  | li a xs =>
    obtain rfl : w = .ref a := r
    obtain ⟨its, rv, p, hz⟩ := I.list g
    refine ⟨0, _, begins_list a its.toArray, p.isList, fun it h e => ⟨_, e, rfl, rfl⟩, fun b hb => ?_⟩
    rw [List.mem_singleton.mp hb]
    exact p.lt
  | te l =>
    obtain ⟨t, rfl⟩ := r
    exact ⟨t, _, begins_text (S l) t, trivial, fun it h e => ⟨_, e, rfl, rfl⟩, fun b hb => nomatch hb⟩
/-! ### zip -/
theorem turnZip {P : Program} {w : World} {K : PySem.W.Frag} {elts : List Expr} {kk : Nat} {tpos : Pos} {u v : Sr} {t1 t2 : Tok} {z TI TO i1 i2 : Addr} (D : ZipSep2 z TI TO i1 i2 (i1 :: u.far) (i2 :: v.far)) (hn : u.items.length = v.items.length)
    (o1 : i1 ∉ u.far) (o2 : i2 ∉ v.far) :
    Turn P w K (.Tuple elts kk tpos) (ItP u.items v.items fun H => u.G K H ∧ v.G K H) [z, TI, TO, i1, i2] z (fun i h => IsZip h z TI TO .none ∧ IsTupOf2 h TI (.ref i1) (.ref i2) ∧ (∃ x y, IsTupOf2 h TO x y) ∧ u.tn t1 i1 i h ∧ v.tn t2 i2 i h) where
  mem := by simp
  obj := fun i h st c hc => by
    obtain ⟨hz, hTI, ⟨x, y, hTO⟩, h1, h2⟩ := st
    have e' : c = z ∨ c = TI ∨ c = TO ∨ c = i1 ∨ c = i2 := by simpa using hc
    rcases e' with rfl | rfl | rfl | rfl | rfl
    · exact ⟨_, hz, fun v q => nomatch q⟩
    · exact ⟨_, hTI, fun v q => nomatch q⟩
    · exact ⟨_, hTO, fun v q => nomatch q⟩
    · exact Sr.tn_ob h1
    · exact Sr.tn_ob h2
  keep := fun i h h' st k => by
    obtain ⟨hz, hTI, ⟨x, y, hTO⟩, h1, h2⟩ := st
    exact ⟨k z (by simp) _ hz, k TI (by simp) _ hTI, ⟨x, y, k TO (by simp) _ hTO⟩, Sr.tn_keep h1 fun o q => k i1 (by simp) o q, Sr.tn_keep h2 fun o q => k i2 (by simp) o q⟩
  item := by
    intro X hP hw hK hc i pins s σ H E I hf st hg
    subst hP hw hK
    obtain ⟨hz, hTI, ⟨x0, y0, hTO⟩, h1, h2⟩ := st
    obtain ⟨lt, g1, g2⟩ := hg
    obtain ⟨P1, S1, D1, s1, k1, r1⟩ := u.draws I hc g1 h1 o1
    obtain ⟨P2, S2, D2, s2, k2, r2⟩ := v.draws I hc g2 h2 o2
    have hzl : z < s.heap.objs.size := Heap.lt_size hz
    refine wpAny_pyNext_zipD2_item D D1 D2 hz hTI hTO s1 s2 lt (by rw [← hn]; exact lt) fun a b h' tk p1 p2 z' TO' s1' s2' hT hsz hk => ?_
    obtain ⟨x, ex, rx⟩ := r1 _ _ p1
    obtain ⟨y, ey, ry⟩ := r2 _ _ p2
    refine ⟨_, rfl, wpAny_letOwnedTupleGo_zip (s := { s with heap := h', toks := tk }) z' fun h'' z'' sb => ?_⟩
    have hT2 : h''.get? s.heap.objs.size = some { cls := .type "tuple", data := .seq #[a, b] } := (sb.2 _ (Nat.ne_of_gt hzl)).trans hT
    have new : ObjOk X.prog X.w (upd H s.heap.objs.size (.tup [x, y])) h'' s.heap.objs.size (.tup [x, y]) :=
      ⟨by show 2 ≤ sizeLine; decide, [a, b], .cons rx (.cons ry .nil), ⟨_, hT2, rfl, _, rfl⟩⟩
    have I1 : Inv X pins σ (upd H s.heap.objs.size (.tup [x, y])) { s with heap := h'', toks := tk } :=
      I.turnedNew (t' := tk) (ch := [z, TI, TO, i1, i2]) (fun c o hb q => (sb.2 c (fun q' => hb (by simp [q']))).trans (hk c o (fun q' => hb (by simp [q'])) (fun q' => hb (by simp [q'])) (fun q' => hb (by simp [q'])) (fun q' => hb (by simp [q'])) q)) hf (Nat.le_refl _) new
    refine ⟨.ref s.heap.objs.size, _, I1, rfl, ⟨_, x, y, rfl, I.hok.fresh (Nat.le_refl _), rfl, ex, ey⟩, ⟨z'', ?_, ⟨a, b, ?_⟩, ?_, ?_⟩, fun c hcm => ?_⟩
    · exact (sb.2 _ D.TIz).trans (hk _ _ D.TIz D.TITO D.TIi1 D.TIi2 hTI)
    · exact (sb.2 _ D.TOz).trans TO'
    · exact Sr.tn_keep (k1 _ _ s1') fun o q => (sb.2 _ (Ne.symm D.zi1)).trans q
    · exact Sr.tn_keep (k2 _ _ s2') fun o q => (sb.2 _ (Ne.symm D.zi2)).trans q
    · have hlt : c < s.heap.objs.size := by
        have e' : c = z ∨ c = TI ∨ c = TO ∨ c = i1 ∨ c = i2 := by simpa using hcm
        rcases e' with rfl | rfl | rfl | rfl | rfl
        · exact hzl
        · exact Heap.lt_size hTI
        · exact Heap.lt_size hTO
        · obtain ⟨_, e1, _⟩ := Sr.tn_ob h1
          exact Heap.lt_size e1
        · obtain ⟨_, e2, _⟩ := Sr.tn_ob h2
          exact Heap.lt_size e2
      rw [upd_ne (Nat.ne_of_lt hlt)]
      exact (hf c hcm).1
  done := by
    intro X hP hw hK hc i pins s σ H E I hf st hg
    subst hP hw hK
    obtain ⟨hz, hTI, ⟨x0, y0, hTO⟩, h1, h2⟩ := st
    obtain ⟨en, g1, g2⟩ := hg
    obtain ⟨P1, S1, D1, s1, k1, r1⟩ := u.draws I hc g1 h1 o1
    obtain ⟨P2, S2, D2, s2, k2, r2⟩ := v.draws I hc g2 h2 o2
    exact wpAny_pyNext_zipD2_end D D1 D2 hz hTI hTO s1 s2 (Nat.le_of_eq en) (by rw [← hn]; exact Nat.le_of_eq en) (.inl en) fun h' tk hk => ⟨rfl, I.turnedL (t' := tk) (ch := [z, TI, TO, i1, i2]) (fun c o hb q =>
      hk c o (fun q' => hb (by simp [q'])) (fun q' => hb (by simp [q'])) (fun q' => hb (by simp [q'])) (fun q' => hb (by simp [q'])) q) hf⟩
  self := fun A i s Q E st h => wpAny_pyIter_zip st.1 h
def iZipS (K : PySem.W.Frag) (ta : TA) : TI := fun σ H R => ta σ H fun vs H1 => ∃ u v : Sr, vs = [u.v, v.v] ∧ u.G K H1 ∧ v.G K H1 ∧ u.items.length = v.items.length ∧ R (ItP u.items v.items fun H => u.G K H ∧ v.G K H) H1
theorem pi_zipS {X : Cx} {e e2 : Expr} {ta : TA} {p pos tpos : Pos} {elts : List Expr} {kk : Nat} (hg : Gl X "zip") (hm : X.mg "zip" = none) (ha : PA X [e, e2] ta)
    (hs : starEach [e, e2] X.env = (false, eval e X.env) :: starEach [e2] X.env := by rfl) (hpl : (backTo pos (starEach [e2] X.env)).any (·.1) = false := by rfl) :
    PI X (.Tuple elts kk tpos) (.Call (.Name "zip" p) [e, e2] [] pos) (iZipS X.K ta) := by
  refine ⟨fun pins s σ H R I h => ?_⟩
  refine Call_ (ld_blt I hg hm PyProof.Rows.boot_zip (PyProof.Rows.callWith_type1 (thn (ha.run pos pins s σ H _ I h) fun us s1 ⟨vs, H1, I1, r1, q1⟩ => ?_) hs hpl))
  obtain ⟨u, v, rfl, g1, g2, hn, q⟩ := q1
  obtain ⟨a, b, rfl, ra, rb⟩ := two_vals r1
  · obtain ⟨t1, Hs1, B1, x1, m1, f1⟩ := u.begins I1 g1 ra
    obtain ⟨t2, Hs2, B2, x2, m2, f2⟩ := v.begins I1 g2 rb
    refine zip_begins2 B1 B2 x1 x2 fun h' hz hTI hTO h1 h2 hsz hk => wpAny_pyIter_zip hz ?_
    have I2 : Inv X pins σ H1 { s1 with heap := h' } := I1.kept (t' := s1.toks) hk
    refine ⟨s1.heap.objs.size + 4, [s1.heap.objs.size + 4, s1.heap.objs.size + 2, s1.heap.objs.size + 3, s1.heap.objs.size, s1.heap.objs.size + 1], _, _, H1, rfl, I2,
      turnZip (u := u) (v := v) (t1 := t1) (t2 := t2) (zip_sep2 f1 f2) hn (fun z => Nat.lt_irrefl _ (f1 _ z)) (fun z => Nat.lt_irrefl _ (Nat.lt_of_succ_lt (f2 _ z))), ⟨hz, hTI, ⟨_, _, hTO⟩, m1 _ _ h1, m2 _ _ h2⟩, fun c hcm => ?_, q⟩
    have hle : s1.heap.objs.size ≤ c := by
      have e' : c = s1.heap.objs.size + 4 ∨ c = s1.heap.objs.size + 2 ∨ c = s1.heap.objs.size + 3 ∨ c = s1.heap.objs.size ∨ c = s1.heap.objs.size + 1 := by simpa using hcm
      rcases e' with z | z | z | z | z
      all_goals (rw [z]; first | exact Nat.le_add_right _ _ | exact Nat.le_refl _)
    exact I1.fpOk hle (I1.hok.fresh hle)
/-! ### enumerate -/
def nums (n : Nat) : List V := (List.range n).map fun (i : Nat) => V.int (i : Int)
theorem nums_at {n i : Nat} (h : i < n) : (nums n)[i]? = some (.int (i : Int)) := by
  unfold nums
  rw [List.getElem?_map, List.getElem?_range h]
  rfl
theorem nums_len (n : Nat) : (nums n).length = n := by
  unfold nums
  rw [List.length_map, List.length_range]
theorem turnEnum {P : Program} {w : World} {K : PySem.W.Frag} {elts : List Expr} {kk : Nat} {tpos : Pos} {u : Sr} {t1 : Tok} {e it : Addr} (hei : e ≠ it) (hef : e ∉ u.far) (o1 : it ∉ u.far) :
    Turn P w K (.Tuple elts kk tpos) (ItP (nums u.items.length) u.items (u.G K)) [e, it] e (fun i h => (∃ old, IsEnum h e it ((i : Nat) : Int) old) ∧ u.tn t1 it i h) where
  mem := by simp
  obj := fun i h st b hb => by
    obtain ⟨⟨old, he⟩, h1⟩ := st
    have e' : b = e ∨ b = it := by simpa using hb
    rcases e' with rfl | rfl
    · exact ⟨_, he, fun v q => nomatch q⟩
    · exact Sr.tn_ob h1
  keep := fun i h h' st k => let ⟨⟨old, he⟩, h1⟩ := st; ⟨⟨old, k e (by simp) _ he⟩, Sr.tn_keep h1 fun o q => k it (by simp) o q⟩
  item := by
    intro X hP hw hK hc i pins s σ H E I hf st hg
    subst hP hw hK
    obtain ⟨⟨old, he⟩, h1⟩ := st
    obtain ⟨lt, g1⟩ := hg
    rw [nums_len] at lt
    obtain ⟨P1, S1, D1, s1, k1, r1⟩ := u.draws I hc g1 h1 o1
    have hel : e < s.heap.objs.size := Heap.lt_size he
    have hef' : e ∉ it :: u.far := fun z => (List.mem_cons.mp z).elim hei hef
    refine wpAny_pyNext_enum_itemD D1 he s1 lt hei hef' fun a h' tk p1 ho s1' hT hsz hk => ?_
    obtain ⟨x, ex, rx⟩ := r1 _ _ p1
    refine ⟨_, rfl, wpAny_letOwnedTupleGo_enum (s := { s with heap := h', toks := tk + 1 }) ho fun h'' he' sb => ?_⟩
    have hT2 : h''.get? s.heap.objs.size = some { cls := .type "tuple", data := .seq #[.int i tk, a] } := (sb.2 _ (Nat.ne_of_gt hel)).trans hT
    have new : ObjOk X.prog X.w (upd H s.heap.objs.size (.tup [.int (i : Nat), x])) h'' s.heap.objs.size (.tup [.int (i : Nat), x]) :=
      ⟨by show 2 ≤ sizeLine; decide, [.int i tk, a], .cons ⟨_, rfl⟩ (.cons rx .nil), ⟨_, hT2, rfl, _, rfl⟩⟩
    have I1 : Inv X pins σ (upd H s.heap.objs.size (.tup [.int (i : Nat), x])) { s with heap := h'', toks := tk + 1 } :=
      I.turnedNew (t' := tk + 1) (ch := [e, it]) (fun b ob hb q => (sb.2 b (fun z => hb (by simp [z]))).trans (hk b ob (fun z => hb (by simp [z])) (fun z => hb (by simp [z])) q)) hf (Nat.le_refl _) new
    refine ⟨.ref s.heap.objs.size, _, I1, rfl, ⟨_, _, x, rfl, I.hok.fresh (Nat.le_refl _), rfl, nums_at lt, ex⟩, ⟨⟨a, ?_⟩, Sr.tn_keep (k1 _ _ s1') fun o q => (sb.2 it (Ne.symm hei)).trans q⟩, fun b hb => ?_⟩
    · have e1 : ((i + 1 : Nat) : Int) = (i : Int) + 1 := by omega
      rw [e1]
      exact he'
    · have hb' : b < s.heap.objs.size := by
        have e' : b = e ∨ b = it := by simpa using hb
        rcases e' with rfl | rfl
        · exact hel
        · obtain ⟨_, e1, _⟩ := Sr.tn_ob h1
          exact Heap.lt_size e1
      rw [upd_ne (Nat.ne_of_lt hb')]
      exact (hf b hb).1
  done := by
    intro X hP hw hK hc i pins s σ H E I hf st hg
    subst hP hw hK
    obtain ⟨⟨old, he⟩, h1⟩ := st
    obtain ⟨en, g1⟩ := hg
    rw [nums_len] at en
    subst en
    obtain ⟨P1, S1, D1, s1, k1, r1⟩ := u.draws I hc g1 h1 o1
    obtain ⟨f0, f1, f2, f3, f4, f5⟩ := hf it (by simp)
    exact wpAny_pyNext_enum_endD D1 he s1 fun h' eb => ⟨rfl, I.turned (t' := s.toks) (fun b o hb q => eb b o hb q) f0 f1 f3 f4 f5⟩
  self := fun A i s Q E st h => let ⟨⟨_, he⟩, _⟩ := st; wpAny_pyIter_enum he h
def iEnumS (K : PySem.W.Frag) (ta : TA) : TI := fun σ H R => ta σ H fun vs H1 => ∃ u : Sr, vs = [u.v] ∧ u.G K H1 ∧ R (ItP (nums u.items.length) u.items (u.G K)) H1
theorem pi_enumS {X : Cx} {e : Expr} {ta : TA} {p pos tpos : Pos} {elts : List Expr} {kk : Nat} (hg : Gl X "enumerate") (hm : X.mg "enumerate" = none) (ha : PA X [e] ta) (hs : starEach [e] X.env = [(false, eval e X.env)] := by rfl) :
    PI X (.Tuple elts kk tpos) (.Call (.Name "enumerate" p) [e] [] pos) (iEnumS X.K ta) := by
  refine ⟨fun pins s σ H R I h => ?_⟩
  refine Call_ (ld_blt I hg hm boot_enumerate (PyProof.Rows.callWith_type1 (thn (ha.run pos pins s σ H _ I h) fun us s1 ⟨vs, H1, I1, r1, q1⟩ => ?_) hs rfl))
  obtain ⟨u, rfl, g1, q⟩ := q1
  obtain ⟨a, rfl, ra⟩ := one_val r1
  have main : ∀ (t1 : Tok) (h' : Heap), IsEnum h' (s1.heap.objs.size + 1) s1.heap.objs.size 0 .none → u.tn t1 s1.heap.objs.size 0 h' → (∀ b ∈ u.far, b < s1.heap.objs.size) → (∀ b o, s1.heap.get? b = some o → h'.get? b = some o) →
      wpAny (model X.prog X.w) X.A (pyIter (.ref (s1.heap.objs.size + 1))) (PIE X pins σ (.Tuple elts kk tpos) R) X.xe { s1 with heap := h' } := by
    intro t1 h' he m1 f1 hk
    refine wpAny_pyIter_enum he ?_
    have I2 : Inv X pins σ H1 { s1 with heap := h' } := I1.kept (t' := s1.toks) hk
    refine ⟨s1.heap.objs.size + 1, [s1.heap.objs.size + 1, s1.heap.objs.size], _, _, H1, rfl, I2,
      turnEnum (u := u) (t1 := t1) (Nat.succ_ne_self _) (fun z => Nat.lt_irrefl _ (Nat.lt_of_succ_lt (f1 _ z))) (fun z => Nat.lt_irrefl _ (f1 _ z)), ⟨⟨.none, he⟩, m1⟩, fun c hcm => ?_, q⟩
    have hle : s1.heap.objs.size ≤ c := by
      have e' : c = s1.heap.objs.size + 1 ∨ c = s1.heap.objs.size := by simpa using hcm
      rcases e' with z | z
      all_goals (rw [z]; first | exact Nat.le_add_right _ _ | exact Nat.le_refl _)
    exact I1.fpOk hle (I1.hok.fresh hle)
  cases u with
  | li b xs =>
    obtain rfl : a = .ref b := ra
    obtain ⟨its, rv, p', hz⟩ := I1.list g1
    refine call_enumerate_list p'.isList fun h' he hit hsz hk => main 0 h' he hit (fun c hc => ?_) hk
    rw [List.mem_singleton.mp hc]
    exact p'.lt
  | te l =>
    obtain ⟨t, rfl⟩ := ra
    exact call_enumerate_str fun h' he hit hsz hk => main t h' he hit (fun c hc => nomatch hc) hk
end KS
end
section
set_option Elab.async false
set_option linter.all false
set_option maxRecDepth 100000
set_option maxHeartbeats 4000000
/-! K5: repr of data. -/
namespace KS
open PySem PySem.Spec PyProof.Rows L2
open SX (S)
section
variable {X : Cx}
/-- repr(a list or a tuple of data without dicts) -/
def rRepr (K : PySem.W.Frag) : List V → Hp → VK → Prop := fun vs H Q => ∃ (a : Addr) (d : PyData), vs = [.ref a] ∧ Dp K H (.ref a) d ∧ d.showable = true ∧ d.hasDict = false ∧ d.depth ≤ 10 ∧ d.shown.length ≤ sizeLine ∧ Q (.str d.shown) H
theorem cr_repr {k : Nat} (hr : Room k X.A) (hg : X.A.guards = some []) : CallR X (.builtin "repr") (rRepr X.K) := by
  intro pins s σ H vs us Q I r h
  obtain ⟨a, d, rfl, hd, h1, h2, h3, h4, q⟩ := h
  rw [Vals.ref1 r]
  obtain ⟨as, rd⟩ := Dp.reads I d (.ref a) (.ref a) hd rfl
  refine repr_of_reads' rd h1 (fun e => ?_) hg ?_ (fun b o e => e) (fun h' u tk hk => ⟨.str d.shown, H, I.kept (t' := tk) hk, ⟨u, rfl⟩, q⟩) h4
  · rw [h2] at e
    cases e
  · have := hr.un
    omega
end
end KS
end
section
set_option Elab.async false
set_option linter.all false
set_option maxRecDepth 100000
set_option maxHeartbeats 4000000
/-! KB1: what is known of the heap (Ex, R), what an expression evaluates to (GE), what a block does (WP). -/
namespace KB
open PySem PySem.Spec PyProof.Rows L2 KS
open SX (S)
/-- the feed's dict -/
def Fd (c : Addr) (o : HO) : Prop := ∃ a l d : Nat, o = .dK [(.inr "cells", .ref c), (.inr "at", .int a), (.inr "left", .int l), (.inr "drawn", .int d)]
def NF (o : HO) : Prop := ∀ c, ¬ Fd c o
theorem nf_lst {xs : List V} : NF (.lst xs) := fun _ ⟨_, _, _, e⟩ => nomatch e
theorem nf_tup {xs : List V} : NF (.tup xs) := fun _ ⟨_, _, _, e⟩ => nomatch e
theorem nf_frz {o : Obj} {u : HO} : NF (.frz o u) := fun _ ⟨_, _, _, e⟩ => nomatch e
theorem nf_ext {φ : Heap → Prop} : NF (.ext φ) := fun _ ⟨_, _, _, e⟩ => nomatch e
/-- what is known stays known; a feed stays a feed -/
def Ex (H H' : Hp) : Prop := ∀ a o, H a = some o → ∃ o', H' a = some o' ∧ (o' = o ∨ ∃ c, Fd c o ∧ Fd c o')
section
variable {H H1 H2 H' : Hp} {p : Addr} {o o' : HO}
theorem Ex.refl (H : Hp) : Ex H H := fun _ o h => ⟨o, h, .inl rfl⟩
theorem Ex.trans (a : Ex H H1) (b : Ex H1 H2) : Ex H H2 := fun x o h => by
  obtain ⟨o1, h1, r1⟩ := a x o h
  obtain ⟨o2, h2, r2⟩ := b x o1 h1
  rcases r1 with rfl | ⟨c, f, f1⟩
  · exact ⟨o2, h2, r2⟩
  · rcases r2 with rfl | ⟨c', g1, g2⟩
    · exact ⟨o2, h2, .inr ⟨c, f, f1⟩⟩
    · obtain ⟨x1, x2, x3, e⟩ := f1
      obtain ⟨y1, y2, y3, e'⟩ := g1
      rw [e] at e'
      have hc : c = c' := by
        injection e' with e'
        injection e' with e' _
        have := congrArg Prod.snd e'
        injection this
      subst hc
      exact ⟨o2, h2, .inr ⟨c, f, g2⟩⟩
theorem Ex.keep (e : Ex H H') (h : H p = some o) (n : NF o) : H' p = some o := by
  obtain ⟨o', h', r⟩ := e p o h
  rcases r with rfl | ⟨c, f, _⟩
  · exact h'
  · exact absurd f (n c)
theorem Ex.lst {xs : List V} (e : Ex H H') (h : H p = some (.lst xs)) : H' p = some (.lst xs) := e.keep h nf_lst
theorem Ex.new (h : H p = none) : Ex H (upd H p o) := fun a u q => ⟨u, by rw [upd_ne (ne_of_none q h)]; exact q, .inl rfl⟩
theorem Ex.mut (e : Ex H H') (h : H p = none) : Ex H (upd H' p o) := fun a u q => by
  rw [upd_ne (ne_of_none q h)]
  exact e a u q
theorem Ex.fresh (e : Ex H H') (h : H' p = none) : H p = none := by
  cases q : H p with
  | none => rfl
  | some o =>
    obtain ⟨_, h1, _⟩ := e p o q
    rw [h] at h1
    cases h1
theorem Ex.feed {c : Addr} (h : H p = some o) (f : Fd c o) (f' : Fd c o') : Ex H (upd H p o') := fun a u q => by
  by_cases e : a = p
  · subst e
    rw [h] at q
    cases q
    exact ⟨o', upd_same, .inr ⟨c, f, f'⟩⟩
  · exact ⟨u, by rw [upd_ne e]; exact q, .inl rfl⟩
def del (H : Hp) (p : Addr) : Hp := fun a => if a = p then none else H a
theorem del_same : del H p p = none := by unfold del; rw [if_pos rfl]
theorem del_ne {a : Addr} (h : a ≠ p) : del H p a = H a := by unfold del; rw [if_neg h]
theorem del_some {a : Addr} (h : del H p a = some o) : a ≠ p ∧ H a = some o := by
  unfold del at h
  by_cases e : a = p
  · rw [if_pos e] at h
    cases h
  · rw [if_neg e] at h
    exact ⟨e, h⟩
theorem Ex.del (H : Hp) (p : Addr) : Ex (del H p) H := fun _ u q => ⟨u, (del_some q).2, .inl rfl⟩
theorem Ex.dels (e : Ex H H') : Ex (KB.del H p) (upd H' p o) := (Ex.trans (Ex.del H p) e).mut del_same
end
/-- from the part B of the heap H: what came, B2 of H2, is what was there and what is new -/
structure Fr (B H B2 H2 : Hp) : Prop where
  h : Ex H H2
  b : Ex B B2
  i : Ex B2 H2
  f : ∀ a, B2 a ≠ none → B a ≠ none ∨ H a = none
section
variable {B H B2 H2 B3 H3 : Hp} {p : Addr} {o o' : HO}
theorem Fr.refl (i : Ex B H) : Fr B H B H := ⟨Ex.refl _, Ex.refl _, i, fun _ h => .inl h⟩
theorem Fr.trans (x : Fr B H B2 H2) (y : Fr B2 H2 B3 H3) : Fr B H B3 H3 := ⟨x.h.trans y.h, x.b.trans y.b, y.i, fun a h => by
  rcases y.f a h with h | h
  · exact x.f a h
  · exact .inr (x.h.fresh h)⟩
theorem ex_upd2 (i : Ex B H) : Ex (upd B p o) (upd H p o) := fun a u q => by
  by_cases e : a = p
  · subst e
    rw [upd_same] at q
    exact ⟨o, upd_same, .inl (Option.some.inj q)⟩
  · rw [upd_ne e] at q ⊢
    exact i a u q
theorem Fr.new (i : Ex B H) (h : H p = none) : Fr B H (upd B p o) (upd H p o) := ⟨Ex.new h, Ex.new (i.fresh h), ex_upd2 i, fun a q => by
  by_cases e : a = p
  · subst e
    exact .inr h
  · rw [upd_ne e] at q
    exact .inl q⟩
/-- a new thing that is going to change: not told of -/
theorem Fr.mut (x : Fr B H B2 H2) (h : H p = none) (b : B2 p = none) : Fr B H B2 (upd H2 p o) := ⟨x.h.mut h, x.b, x.i.mut b, x.f⟩
/-- .. told of -/
theorem Fr.add (x : Fr B H B2 H2) (h : H p = none) (b : B2 p = none) (e : H2 p = some o) : Fr B H (upd B2 p o) H2 := ⟨x.h, x.b.mut (x.b.fresh b), fun a u q => by
  by_cases e' : a = p
  · subst e'
    rw [upd_same] at q
    cases q
    exact ⟨o, e, .inl rfl⟩
  · rw [upd_ne e'] at q
    exact x.i a u q, fun a q => by
  by_cases e : a = p
  · subst e
    exact .inr h
  · rw [upd_ne e] at q
    exact x.f a q⟩
/-- what stands outside B stands outside B2 -/
theorem Fr.out (x : Fr B H B2 H2) (b : B p = none) (h : H p = some o) : B2 p = none := by
  cases q : B2 p with
  | none => rfl
  | some u =>
    rcases x.f p (by rw [q]; exact fun z => nomatch z) with z | z
    · exact absurd b z
    · rw [h] at z
      cases z
theorem Fr.feed {c : Addr} (i : Ex B H) (hb : B p = some o) (hh : H p = some o) (f : Fd c o) (f' : Fd c o') : Fr B H (upd B p o') (upd H p o') := ⟨Ex.feed hh f f', Ex.feed hb f f', ex_upd2 i, fun a q => by
  by_cases e : a = p
  · subst e
    exact .inl (by rw [hb]; exact fun z => nomatch z)
  · rw [upd_ne e] at q
    exact .inl q⟩
end
/-- a thing known of the heap -/
inductive Fact where
  | obj (u : HO)
  | feed (c : Addr)
def Has (H : Hp) (a : Addr) : Fact → Prop
  | .obj (.dK kvs) => Rd H a (.dK kvs)
  | .obj u => H a = some u
  | .feed c => ∃ o, H a = some o ∧ Fd c o
/-- data -/
def Dt : HO → Prop
  | .lst _ => True
  | .tup _ => True
  | .dK kvs => NF (.dK kvs)
  | _ => False
theorem Dt.nf {u : HO} (h : Dt u) : NF u := by
  cases u with
  | lst xs => exact nf_lst
  | tup xs => exact nf_tup
  | dK kvs => exact h
  | _ => exact False.elim h
/-- a kind of data: how a value holds it, on which facts it leans -/
structure R (α : Type) where
  r : α → V → Hp → Prop
  ok : Fact → Prop
  kd : V → Prop
  st : ∀ {x : α} {v : V} {H H' : Hp}, r x v H → (∀ a f, ok f → Has H a f → Has H' a f) → r x v H'
  nf : ∀ {u : HO}, ok (.obj u) → Dt u
  kk : ∀ {x : α} {v : V} {H : Hp}, r x v H → kd v
section
variable {α β : Type} {ρ : R α} {x : α} {v : V} {H H' : Hp} {p : Addr} {o o' : HO}
theorem has_ex {a : Addr} {f : Fact} (e : Ex H H') (n : ∀ u, f = .obj u → NF u) (h : Has H a f) : Has H' a f := by
  cases f with
  | feed c =>
    obtain ⟨o, h1, h2⟩ := h
    obtain ⟨o', h', r⟩ := e a o h1
    rcases r with rfl | ⟨c', g, g'⟩
    · exact ⟨o', h', h2⟩
    · obtain ⟨x1, x2, x3, e1⟩ := h2
      obtain ⟨y1, y2, y3, e2⟩ := g
      rw [e1] at e2
      have hc : c = c' := by
        injection e2 with e2
        injection e2 with e2 _
        have := congrArg Prod.snd e2
        injection this
      subst hc
      exact ⟨o', h', g'⟩
  | obj u =>
    cases u with
    | dK kvs =>
      rcases h with h | ⟨ob, h⟩
      · exact .inl (e.keep h (n _ rfl))
      · exact .inr ⟨ob, e.keep h nf_frz⟩
    | _ => exact e.keep (show H a = some _ from h) (n _ rfl)
theorem R.ex (ρ : R α) {x : α} {v : V} {H H' : Hp} (e : Ex H H') (h : ρ.r x v H) : ρ.r x v H' :=
  ρ.st h fun _ f hf hh => has_ex e (fun u eu => by subst eu; exact (ρ.nf hf).nf) hh
theorem has_del {a : Addr} {f : Fact} (hp : H p = some o) (hm : Mut (some o)) (hn : NF o) (no : f ≠ .obj o) (h : Has H a f) : Has (del H p) a f := by
  have key : ∀ u, H a = some u → a = p → u = o := fun u h1 e => by
    subst e
    rw [hp] at h1
    exact (Option.some.inj h1).symm
  cases f with
  | feed c =>
    obtain ⟨o1, h1, h2⟩ := h
    refine ⟨o1, ?_, h2⟩
    rw [del_ne (fun e => hn c (by rw [← key o1 h1 e]; exact h2))]
    exact h1
  | obj u =>
    cases u with
    | dK kvs =>
      rcases h with h | ⟨ob, h⟩
      · refine .inl ?_
        rw [del_ne (fun e => no (by rw [key _ h e]))]
        exact h
      · refine .inr ⟨ob, ?_⟩
        rw [del_ne (fun e => by rw [← key _ h e] at hm; exact hm)]
        exact h
    | _ =>
      have h1 : H a = some _ := h
      show del H p a = some _
      rw [del_ne (fun e => no (by rw [key _ h1 e]))]
      exact h1
/-- nothing of it leans on the object at p -/
theorem R.dl (ρ : R α) {x : α} {v : V} {H : Hp} {p : Addr} {o : HO} (hp : H p = some o) (hm : Mut (some o)) (hn : NF o) (no : ¬ ρ.ok (.obj o)) (h : ρ.r x v H) : ρ.r x v (del H p) :=
  ρ.st h fun _ f hf hh => has_del hp hm hn (fun e => no (e ▸ hf)) hh
/-- .. when the object there is not even tracked -/
theorem R.dl0 (ρ : R α) {x : α} {v : V} {H : Hp} {p : Addr} (hp : H p = none) (h : ρ.r x v H) : ρ.r x v (del H p) := by
  refine ρ.ex (H := H) (fun a o q => ⟨o, ?_, .inl rfl⟩) h
  rw [del_ne (ne_of_none q hp)]
  exact q
theorem has_lock {d a : Addr} {kvs : List (Key × V)} {od : Obj} {f : Fact} (hd : H d = some (.dK kvs)) (hn : NF (.dK kvs)) (h : Has H a f) : Has (upd H d (.frz od (.dK kvs))) a f := by
  by_cases e : a = d
  · subst e
    cases f with
    | feed c =>
      obtain ⟨o1, h1, h2⟩ := h
      rw [hd] at h1
      cases h1
      exact absurd h2 (hn c)
    | obj u =>
      cases u with
      | dK l =>
        rcases h with h | ⟨ob, h⟩
        · rw [hd] at h
          cases h
          exact .inr ⟨od, upd_same⟩
        · rw [hd] at h
          cases h
      | _ =>
        have h1 : H a = some _ := h
        rw [hd] at h1
        cases h1
  · cases f with
    | feed c =>
      obtain ⟨o1, h1, h2⟩ := h
      exact ⟨o1, by rw [upd_ne e]; exact h1, h2⟩
    | obj u =>
      cases u with
      | dK l =>
        rcases h with h | ⟨ob, h⟩
        · exact .inl (by rw [upd_ne e]; exact h)
        · exact .inr ⟨ob, by rw [upd_ne e]; exact h⟩
      | _ =>
        have h1 : H a = some _ := h
        show upd H d _ a = some _
        rw [upd_ne e]
        exact h1
theorem has_unlock {d a : Addr} {kvs : List (Key × V)} {od : Obj} {f : Fact} (hd : H d = some (.frz od (.dK kvs))) (hf : f ≠ .obj (.frz od (.dK kvs))) (h : Has H a f) : Has (upd H d (.dK kvs)) a f := by
  by_cases e : a = d
  · subst e
    cases f with
    | feed c =>
      obtain ⟨o1, h1, h2⟩ := h
      rw [hd] at h1
      cases h1
      obtain ⟨_, _, _, e⟩ := h2
      cases e
    | obj u =>
      cases u with
      | dK l =>
        rcases h with h | ⟨ob, h⟩
        · rw [hd] at h
          cases h
        · rw [hd] at h
          cases h
          exact .inl upd_same
      | frz o u =>
        have h1 : H a = some _ := h
        rw [hd] at h1
        cases h1
        exact absurd rfl hf
      | _ =>
        have h1 : H a = some _ := h
        rw [hd] at h1
        cases h1
  · cases f with
    | feed c =>
      obtain ⟨o1, h1, h2⟩ := h
      exact ⟨o1, by rw [upd_ne e]; exact h1, h2⟩
    | obj u =>
      cases u with
      | dK l =>
        rcases h with h | ⟨ob, h⟩
        · exact .inl (by rw [upd_ne e]; exact h)
        · exact .inr ⟨ob, by rw [upd_ne e]; exact h⟩
      | _ =>
        have h1 : H a = some _ := h
        show upd H d _ a = some _
        rw [upd_ne e]
        exact h1
theorem R.lock (ρ : R α) {x : α} {v : V} {H : Hp} {d : Addr} {kvs : List (Key × V)} {od : Obj} (hd : H d = some (.dK kvs)) (hn : NF (.dK kvs)) (h : ρ.r x v H) : ρ.r x v (upd H d (.frz od (.dK kvs))) :=
  ρ.st h fun _ _ _ hh => has_lock hd hn hh
theorem R.unlock (ρ : R α) {x : α} {v : V} {H : Hp} {d : Addr} {kvs : List (Key × V)} {od : Obj} (hd : H d = some (.frz od (.dK kvs))) (h : ρ.r x v H) : ρ.r x v (upd H d (.dK kvs)) :=
  ρ.st h fun _ f hf hh => has_unlock hd (fun e => by subst e; exact ρ.nf hf) hh
end
/-! ### the kinds -/
section
variable {α β : Type}
theorem pmap {α β : Type} {F G : α → β → Prop} {xs : List α} {ys : List β} (h : Paired F xs ys) (f : ∀ a b, F a b → G a b) : Paired G xs ys := Paired.mapP h f
def noF : Fact → Prop := fun _ => False
/-- a value itself -/
def rV : R V := ⟨fun x v _ => v = x, noF, fun _ => True, fun h _ => h, fun h => h.elim, fun _ => trivial⟩
def rT : R (List Nat) := ⟨fun l v _ => v = tx l, noF, fun v => ∃ s, v = .str s, fun h _ => h, fun h => h.elim, fun h => ⟨_, h⟩⟩
def rI : R Int := ⟨fun n v _ => v = .int n, noF, fun v => ∃ s, v = .int s, fun h _ => h, fun h => h.elim, fun h => ⟨_, h⟩⟩
abbrev nI (n : Nat) : V := .int (n : Int)
def rN : R Nat := ⟨fun n v _ => v = nI n, noF, fun v => ∃ s, v = .int s, fun h _ => h, fun h => h.elim, fun h => ⟨_, h⟩⟩
def rB : R Bool := ⟨fun n v _ => v = .bl n, noF, fun v => ∃ s, v = .bl s, fun h _ => h, fun h => h.elim, fun h => ⟨_, h⟩⟩
def oR (f : α → V → Hp → Prop) (o : Option α) (v : V) (H : Hp) : Prop := match o with
  | none => v = .non
  | some x => f x v H
def rO (ρ : R α) : R (Option α) where
  r := oR ρ.r
  ok := ρ.ok
  kd := fun v => v = .non ∨ ρ.kd v
  st := fun {x v H H'} h k => by
    cases x with
    | none => exact h
    | some x => exact ρ.st (x := x) h k
  nf := ρ.nf
  kk := fun {x v H} h => by
    cases x with
    | none => exact .inl h
    | some x => exact .inr (ρ.kk (x := x) h)
theorem kd_all {ρ : R α} {H : Hp} : ∀ {xs : List α} {vs : List V}, Paired (fun x v => ρ.r x v H) xs vs → ∀ v ∈ vs, ρ.kd v
  | _, _, .nil, _, hv => nomatch hv
  | _, _, .cons r t, v, hv => by
    rcases List.mem_cons.mp hv with rfl | hv
    · exact ρ.kk r
    · exact kd_all t v hv
def kL (c : Nat) : Key := .inr (S [c])
theorem kd_allD {ρ : R α} {H : Hp} : ∀ {xs : List (Nat × α)} {vs : List (Key × V)}, Paired (fun x p => p.1 = kL x.1 ∧ ρ.r x.2 p.2 H) xs vs → (∀ p ∈ vs, ∃ c, p.1 = kL c) ∧ ∀ p ∈ vs, ρ.kd p.2
  | _, _, .nil => ⟨fun _ hv => (nomatch hv), fun _ hv => nomatch hv⟩
  | _, _, .cons r t => ⟨fun v hv => by
      rcases List.mem_cons.mp hv with rfl | hv
      · exact ⟨_, r.1⟩
      · exact (kd_allD t).1 v hv, fun v hv => by
      rcases List.mem_cons.mp hv with rfl | hv
      · exact ρ.kk r.2
      · exact (kd_allD t).2 v hv⟩
/-- a list; a tuple of like items; a pair; a dict whose keys are letters -/
def rL (ρ : R α) : R (List α) where
  r := fun xs v H => ∃ a vs, v = .ref a ∧ H a = some (.lst vs) ∧ Paired (fun x v => ρ.r x v H) xs vs
  ok := fun f => ρ.ok f ∨ ∃ vs, f = .obj (.lst vs) ∧ ∀ v ∈ vs, ρ.kd v
  kd := fun v => ∃ a, v = .ref a
  st := fun {x v H H'} ⟨a, vs, e, h, p⟩ k => ⟨a, vs, e, k a (.obj (.lst vs)) (.inr ⟨vs, rfl, by
    exact kd_all p⟩) h, pmap p fun x v r => ρ.st r fun a f hf => k a f (.inl hf)⟩
  nf := fun {u} h => by
    rcases h with h | ⟨vs, e, _⟩
    · exact ρ.nf h
    · cases e
      exact trivial
  kk := fun ⟨a, _, e, _⟩ => ⟨a, e⟩
def rTu (ρ : R α) : R (List α) where
  r := fun xs v H => ∃ a vs, v = .ref a ∧ H a = some (.tup vs) ∧ Paired (fun x v => ρ.r x v H) xs vs
  ok := fun f => ρ.ok f ∨ ∃ vs, f = .obj (.tup vs)
  kd := fun v => ∃ a, v = .ref a
  st := fun {x v H H'} ⟨a, vs, e, h, p⟩ k => ⟨a, vs, e, k a (.obj (.tup vs)) (.inr ⟨vs, rfl⟩) h, pmap p fun x v r => ρ.st r fun a f hf => k a f (.inl hf)⟩
  nf := fun {u} h => by
    rcases h with h | ⟨vs, e⟩
    · exact ρ.nf h
    · cases e
      exact trivial
  kk := fun ⟨a, _, e, _⟩ => ⟨a, e⟩
def rP (ρ : R α) (τ : R β) : R (α × β) where
  r := fun z v H => ∃ a x y, v = .ref a ∧ H a = some (.tup [x, y]) ∧ ρ.r z.1 x H ∧ τ.r z.2 y H
  ok := fun f => ρ.ok f ∨ τ.ok f ∨ ∃ vs, f = .obj (.tup vs)
  kd := fun v => ∃ a, v = .ref a
  st := fun {x v H H'} ⟨a, y, z, e, h, p, q⟩ k => ⟨a, y, z, e, k a (.obj (.tup [y, z])) (.inr (.inr ⟨_, rfl⟩)) h, ρ.st p fun a f hf => k a f (.inl hf), τ.st q fun a f hf => k a f (.inr (.inl hf))⟩
  nf := fun {u} h => by
    rcases h with h | h | ⟨vs, e⟩
    · exact ρ.nf h
    · exact τ.nf h
    · cases e
      exact trivial
  kk := fun ⟨a, _, _, e, _⟩ => ⟨a, e⟩
theorem nf_dK {kvs : List (Key × V)} (h : ∀ p ∈ kvs, ∃ c, p.1 = kL c) : NF (.dK kvs) := fun c ⟨x, y, z, e⟩ => by
  cases kvs with
  | nil => exact nomatch e
  | cons p r =>
    obtain ⟨k, hk⟩ := h p (List.mem_cons_self ..)
    injection e with e
    injection e with e1 _
    rw [e1] at hk
    have h1 : S [k] = ("cells" : Str) := (Sum.inr.inj hk).symm
    have h2 := congrArg (fun z : Str => z.cps.size) h1
    exact absurd (show (1 : Nat) = 5 from h2) (by decide)
def rD (ρ : R α) : R (List (Nat × α)) where
  r := fun xs v H => ∃ a kvs, v = .ref a ∧ Rd H a (.dK kvs) ∧ Paired (fun x p => p.1 = kL x.1 ∧ ρ.r x.2 p.2 H) xs kvs
  ok := fun f => ρ.ok f ∨ ∃ kvs, f = .obj (.dK kvs) ∧ (∀ p ∈ kvs, ∃ c, p.1 = kL c) ∧ ∀ p ∈ kvs, ρ.kd p.2
  kd := fun v => ∃ a, v = .ref a
  st := fun {x v H H'} ⟨a, kvs, e, h, p⟩ k => ⟨a, kvs, e, k a (.obj (.dK kvs)) (.inr ⟨kvs, rfl, by
    exact kd_allD p⟩) h, pmap p fun (x : Nat × α) (v : Key × V) (r : v.1 = kL x.1 ∧ ρ.r x.2 v.2 H) => ⟨r.1, ρ.st r.2 fun a f hf => k a f (.inl hf)⟩⟩
  nf := fun {u} h => by
    rcases h with h | ⟨vs, e, h, _⟩
    · exact ρ.nf h
    · cases e
      exact nf_dK h
  kk := fun ⟨a, _, e, _⟩ => ⟨a, e⟩
/-- some datum of which P holds -/
def rW (ρ : R α) (P : α → Prop) : R Unit where
  r := fun _ v H => ∃ x, P x ∧ ρ.r x v H
  ok := ρ.ok
  kd := ρ.kd
  st := fun ⟨x, h, r⟩ k => ⟨x, h, ρ.st r k⟩
  nf := ρ.nf
  kk := fun ⟨_, _, r⟩ => ρ.kk r
/-- the feed -/
def rF : R Unit where
  r := fun _ v H => ∃ (a c : Addr) (o : HO) (ns : List Int), v = .ref a ∧ H a = some o ∧ Fd c o ∧ H c = some (.lst (ns.map V.int))
  ok := fun f => (∃ c, f = .feed c) ∨ ∃ ns : List Int, f = .obj (.lst (ns.map V.int))
  kd := fun v => ∃ a, v = .ref a
  st := fun {x v H H'} ⟨a, c, o, ns, e, h, f, hc⟩ k => by
    obtain ⟨o', h', f'⟩ := k a (.feed c) (.inl ⟨c, rfl⟩) ⟨o, h, f⟩
    exact ⟨a, c, o', ns, e, h', f', k c (.obj (.lst (ns.map V.int))) (.inr ⟨ns, rfl⟩) hc⟩
  nf := fun {u} h => by
    rcases h with ⟨c, e⟩ | ⟨ns, e⟩
    · cases e
    · cases e
      exact trivial
  kk := fun ⟨a, _, _, _, e, _⟩ => ⟨a, e⟩
/-- lists of plain values -/
theorem pv_map {f : α → V} {H : Hp} {ρ : R α} (h : ∀ x v, ρ.r x v H ↔ v = f x) : ∀ {xs : List α} {vs : List V}, Paired (fun x v => ρ.r x v H) xs vs ↔ vs = xs.map f
  | [], vs => ⟨fun p => by cases p; rfl, fun e => by subst e; exact .nil⟩
  | x :: xs, vs => ⟨fun p => by
      cases p with
      | cons r t => rw [(h _ _).mp r, (pv_map h).mp t]; rfl, fun e => by
      subst e
      exact .cons ((h _ _).mpr rfl) ((pv_map h).mpr rfl)⟩
theorem lT {ls : List (List Nat)} {v : V} {H : Hp} : (rL rT).r ls v H ↔ ∃ a, v = .ref a ∧ H a = some (.lst (ls.map tx)) :=
  ⟨fun ⟨a, vs, e, h, p⟩ => ⟨a, e, by rw [(pv_map (ρ := rT) (f := tx) fun _ _ => Iff.rfl).mp p] at h; exact h⟩, fun ⟨a, e, h⟩ => ⟨a, _, e, h, (pv_map (ρ := rT) (f := tx) fun _ _ => Iff.rfl).mpr rfl⟩⟩
theorem lI {ls : List Int} {v : V} {H : Hp} : (rL rI).r ls v H ↔ ∃ a, v = .ref a ∧ H a = some (.lst (ls.map V.int)) :=
  ⟨fun ⟨a, vs, e, h, p⟩ => ⟨a, e, by rw [(pv_map (ρ := rI) (f := V.int) fun _ _ => Iff.rfl).mp p] at h; exact h⟩, fun ⟨a, e, h⟩ => ⟨a, _, e, h, (pv_map (ρ := rI) (f := V.int) fun _ _ => Iff.rfl).mpr rfl⟩⟩
theorem lB {ls : List Bool} {v : V} {H : Hp} : (rL rB).r ls v H ↔ ∃ a, v = .ref a ∧ H a = some (.lst (ls.map V.bl)) :=
  ⟨fun ⟨a, vs, e, h, p⟩ => ⟨a, e, by rw [(pv_map (ρ := rB) (f := V.bl) fun _ _ => Iff.rfl).mp p] at h; exact h⟩, fun ⟨a, e, h⟩ => ⟨a, _, e, h, (pv_map (ρ := rB) (f := V.bl) fun _ _ => Iff.rfl).mpr rfl⟩⟩
theorem lNn {ls : List Nat} {v : V} {H : Hp} : (rL rN).r ls v H ↔ ∃ a, v = .ref a ∧ H a = some (.lst (ls.map nI)) :=
  ⟨fun ⟨a, vs, e, h, p⟩ => ⟨a, e, by rw [(pv_map (ρ := rN) (f := nI) fun _ _ => Iff.rfl).mp p] at h; exact h⟩, fun ⟨a, e, h⟩ => ⟨a, _, e, h, (pv_map (ρ := rN) (f := nI) fun _ _ => Iff.rfl).mpr rfl⟩⟩
theorem uT {ls : List (List Nat)} {v : V} {H : Hp} : (rTu rT).r ls v H ↔ ∃ a, v = .ref a ∧ H a = some (.tup (ls.map tx)) :=
  ⟨fun ⟨a, vs, e, h, p⟩ => ⟨a, e, by rw [(pv_map (ρ := rT) (f := tx) fun _ _ => Iff.rfl).mp p] at h; exact h⟩, fun ⟨a, e, h⟩ => ⟨a, _, e, h, (pv_map (ρ := rT) (f := tx) fun _ _ => Iff.rfl).mpr rfl⟩⟩
end
end KB
end
section
set_option Elab.async false
set_option linter.all false
set_option maxRecDepth 100000
set_option maxHeartbeats 4000000
/-! KB2: expressions and blocks, told by what they give. -/
namespace KB
open PySem PySem.Spec PyProof.Rows L2 KS
open SX (S)
abbrev As := V → Hp → Prop
def W (X : Cx) (e : Expr) : TE := fun σ H Q => ∀ (pins : List (Addr × Obj)) (s : Shared), Inv X pins σ H s → wpAny (model X.prog X.w) X.A (eval e X.env) (EP X pins σ Q) X.xe s
def WT (X : Cx) (e : Expr) : TT := fun σ H Q => ∀ (pins : List (Addr × Obj)) (s : Shared), Inv X pins σ H s → wpAny (model X.prog X.w) X.A (isTrue e X.env (eval e X.env)) (TP X pins σ Q) X.xe s
def WW (X : Cx) (e : Expr) : TT := fun σ H Q => ∀ (whole : Sem Value) (pins : List (Addr × Obj)) (s : Shared), Inv X pins σ H s → wpAny (model X.prog X.w) X.A (isTrue e X.env whole) (TP X pins σ Q) X.xe s
def WA (X : Cx) (es : List Expr) : TA := fun σ H Q => ∀ (pos : Pos) (pins : List (Addr × Obj)) (s : Shared), Inv X pins σ H s → wpAny (model X.prog X.w) X.A (spliced (backTo pos (starEach es X.env))) (AP X pins σ Q) X.xe s
def WP (X : Cx) (st : List Stmt) : TS := fun D σ H => ∀ (pins : List (Addr × Obj)) (s : Shared), Inv X pins σ H s → wpAny (model X.prog X.w) X.A (execs st X.env) (SP X pins D) X.xe s
def WI (X : Cx) (tg iter : Expr) : TI := fun σ H R => ∀ (pins : List (Addr × Obj)) (s : Shared), Inv X pins σ H s →
  wpAny (model X.prog X.w) X.A (eval iter X.env) (fun v s1 => wpAny (model X.prog X.w) X.A (pyIter v) (PIE X pins σ tg R) X.xe s1) X.xe s
section
variable {X : Cx} {e a b c : Expr} {es : List Expr} {σ : L2.St} {B B' H : Hp} {pos : Pos}
theorem peW : PE X e (W X e) := ⟨fun pins s _ _ _ I h => h pins s I⟩
theorem ptW : PT X e (WT X e) := ⟨fun pins s _ _ _ I h => h pins s I⟩
theorem pwW : PW X e (WW X e) := ⟨fun w pins s _ _ _ I h => h w pins s I⟩
theorem paW : PA X es (WA X es) := ⟨fun p pins s _ _ _ I h => h p pins s I⟩
theorem pssW {st : List Stmt} : PSs X st (WP X st) := ⟨fun pins s _ _ _ I h => h pins s I⟩
theorem piW {tg : Expr} : PI X tg e (WI X tg e) := ⟨fun pins s _ _ _ I h => h pins s I⟩
theorem W.of {t : TE} {Q : VK} (h : PE X e t) (q : t σ H Q) : W X e σ H Q := fun pins s I => h.run pins s σ H Q I q
theorem WT.of {t : TT} {Q : Bool → Hp → Prop} (h : PT X e t) (q : t σ H Q) : WT X e σ H Q := fun pins s I => h.run pins s σ H Q I q
theorem WW.of {t : TT} {Q : Bool → Hp → Prop} (h : PW X e t) (q : t σ H Q) : WW X e σ H Q := fun w pins s I => h.run w pins s σ H Q I q
theorem WA.of {t : TA} {Q : List V → Hp → Prop} (h : PA X es t) (q : t σ H Q) : WA X es σ H Q := fun p pins s I => h.run p pins s σ H Q I q
theorem WP.of {st : List Stmt} {t : TS} {D : Ends} (h : PSs X st t) (q : t D σ H) : WP X st D σ H := fun pins s I => h.run pins s σ H D I q
theorem WI.of {tg : Expr} {t : TI} {R : It → Hp → Prop} (h : PI X tg e t) (q : t σ H R) : WI X tg e σ H R := fun pins s I => h.run pins s σ H R I q
theorem p_app {α β : Type} {F : α → β → Prop} : ∀ {xs ys : List α} {vs ws : List β}, Paired F xs vs → Paired F ys ws → Paired F (xs ++ ys) (vs ++ ws)
  | _, _, _, _, .nil, q => q
  | _, _, _, _, .cons r t, q => .cons r (p_app t q)
/-- e gives P's | e's truth is b | .. -/
def GE (X : Cx) (e : Expr) (σ : L2.St) (B : Hp) (P : As) : Prop := ∀ B1 H, Ex B B1 → Ex B1 H → ∀ Q : VK, (∀ v B2 H2, Fr B1 H B2 H2 → P v B2 → Q v H2) → W X e σ H Q
def GT (X : Cx) (e : Expr) (σ : L2.St) (B : Hp) (k : Bool) : Prop := ∀ B1 H, Ex B B1 → Ex B1 H → ∀ Q : Bool → Hp → Prop, (∀ B2 H2, Fr B1 H B2 H2 → Q k H2) → WT X e σ H Q
def GW (X : Cx) (e : Expr) (σ : L2.St) (B : Hp) (k : Bool) : Prop := ∀ B1 H, Ex B B1 → Ex B1 H → ∀ Q : Bool → Hp → Prop, (∀ B2 H2, Fr B1 H B2 H2 → Q k H2) → WW X e σ H Q
def GA (X : Cx) (es : List Expr) (σ : L2.St) (B : Hp) (P : List V → Hp → Prop) : Prop := ∀ B1 H, Ex B B1 → Ex B1 H → ∀ Q : List V → Hp → Prop, (∀ vs B2 H2, Fr B1 H B2 H2 → P vs B2 → Q vs H2) → WA X es σ H Q
theorem GE.mono {P : As} (h : GE X e σ B P) (q : Ex B B') : GE X e σ B' P := fun B1 H x => h B1 H (q.trans x)
theorem GT.mono {k : Bool} (h : GT X e σ B k) (q : Ex B B') : GT X e σ B' k := fun B1 H x => h B1 H (q.trans x)
theorem GE.imp {P P' : As} (h : GE X e σ B P) (i : ∀ v B1, Ex B B1 → P v B1 → P' v B1) : GE X e σ B P' := fun B1 H x y Q q => h B1 H x y Q fun v B2 H2 f p => q v B2 H2 f (i v B2 (x.trans f.b) p)
theorem GE.is {α : Type} {ρ : R α} {x y : α} (h : GE X e σ B (ρ.r x)) (q : x = y) : GE X e σ B (ρ.r y) := q ▸ h
theorem GT.is {k k' : Bool} (h : GT X e σ B k) (q : k = k') : GT X e σ B k' := q ▸ h
section
variable {α β γ : Type} {ρ : R α} {τ : R β} {υ : R γ} {x : α} {y : β} {z : γ} {P : As}
/-- the i-th name, which holds x -/
theorem gv (i : Nat) {n : Str} {v : V} (r : ρ.r x v B) (h : σ[i]? = some (some v) := by rfl) (hN : X.N[i]? = some n := by rfl) (hv : Vis X.env.scope n := by first | exact Or.inl rfl | exact Or.inr (Or.inl rfl) | exact Or.inr (Or.inr rfl)) (hd : (n == ("__debug__" : Str)) = false := by decide) (hcd : (n == ("__classdict__" : Str)) = false := by decide) : GE X (.Name n pos) σ B (ρ.r x) :=
  fun B1 H e y Q q => W.of (pe_var hN hv hd hcd) ⟨v, h, q v B1 H (Fr.refl y) (ρ.ex e r)⟩
/-- .. as a value -/
theorem gvv (i : Nat) {n : Str} {v : V} (h : σ[i]? = some (some v) := by rfl) (hN : X.N[i]? = some n := by rfl) (hv : Vis X.env.scope n := by first | exact Or.inl rfl | exact Or.inr (Or.inl rfl) | exact Or.inr (Or.inr rfl)) (hd : (n == ("__debug__" : Str)) = false := by decide) (hcd : (n == ("__classdict__" : Str)) = false := by decide) : GE X (.Name n pos) σ B (rV.r v) :=
  gv (ρ := rV) (x := v) i rfl h hN hv hd hcd
theorem ge_const {v : V} (h : PE X e (tC v)) (r : ∀ H, P v H) : GE X e σ B P := fun B1 H _ y _ q => W.of h (q v B1 H (Fr.refl y) (r B1))
theorem g_int {i : Int} {j} : GE X (.Constant (.int i) j pos) σ B (rI.r i) := ge_const pe_int fun _ => rfl
theorem g_str {s : Str} {j} : GE X (.Constant (.str s) j pos) σ B (rT.r s.cps.toList) := ge_const pe_str fun _ => rfl
theorem g_bl {i : Bool} {j} : GE X (.Constant (.bool i) j pos) σ B (rB.r i) := ge_const pe_bl fun _ => rfl
theorem g_non {j} : GE X (.Constant .none j pos) σ B ((rO ρ).r none) := ge_const pe_non fun _ => rfl
/-- a name of the module -/
theorem g_gc {n : Str} {v : V} (r : ∀ H, P v H) (h : ∃ u, X.mg n = some u ∧ RelV v u) (hg : Gl X n := by rfl) (hd : (n == ("__debug__" : Str)) = false := by decide) : GE X (.Name n pos) σ B P := ge_const (C8.pe_gc hg h hd) r
theorem GE.some (h : GE X e σ B (ρ.r x)) : GE X e σ B ((rO ρ).r (some x)) := h
theorem GE.n {n : Nat} (h : GE X e σ B (rN.r n)) : GE X e σ B (rI.r (n : Int)) := h
theorem GE.w {Pp : α → Prop} (h : GE X e σ B (ρ.r x)) (p : Pp x) : GE X e σ B ((rW ρ Pp).r ()) := h.imp fun _ _ _ r => ⟨x, p, r⟩
/-- what an operation gives -/
def Gv (P : As) (B H : Hp) (Q : VK) : Prop := ∀ u B2 H2, Fr B H B2 H2 → P u B2 → Q u H2
theorem Gv.val {B H : Hp} {Q : VK} {v : V} (q : Gv P B H Q) (i : Ex B H) (p : P v B) : Q v H := q v B H (Fr.refl i) p
theorem Gv.fr {B H B2 H2 : Hp} {Q : VK} (q : Gv P B H Q) (f : Fr B H B2 H2) : Gv P B2 H2 Q := fun u B3 H3 f3 p => q u B3 H3 (f.trans f3) p
/-! ### operations -/
theorem g_op {op : Operator} {r : R2} (ho : OpR X (binaryOp op) r) (ha : GE X a σ B (ρ.r x)) (hb : GE X b σ B (τ.r y))
    (hr : ∀ v w B1 H1, Ex B B1 → Ex B1 H1 → ρ.r x v B1 → τ.r y w B1 → ∀ Q : VK, Gv P B1 H1 Q → r v w H1 Q) : GE X (.BinOp a op b pos) σ B P := fun B1 H1 e i Q q =>
  W.of (pe_op ho peW peW) (ha B1 H1 e i _ fun v B2 H2 f2 rv => hb B2 H2 (e.trans f2.b) f2.i _ fun w B3 H3 f3 rw' => hr v w B3 H3 ((e.trans f2.b).trans f3.b) f3.i (ρ.ex f3.b rv) rw' Q fun u B4 H4 f4 p => q u B4 H4 ((f2.trans f3).trans f4) p)
theorem g_add {i j : Int} (ha : GE X a σ B (rI.r i)) (hb : GE X b σ B (rI.r j)) : GE X (.BinOp a .Add b pos) σ B (rI.r (i + j)) :=
  g_op op_add ha hb fun v w B1 H1 _ ih rv rw' Q q => ⟨i, j, rv, rw', q.val ih rfl⟩
theorem g_sub {i j : Int} (ha : GE X a σ B (rI.r i)) (hb : GE X b σ B (rI.r j)) : GE X (.BinOp a .Sub b pos) σ B (rI.r (i - j)) :=
  g_op op_sub ha hb fun v w B1 H1 _ ih rv rw' Q q => ⟨i, j, rv, rw', q.val ih rfl⟩
theorem g_mul {i j : Int} (ha : GE X a σ B (rI.r i)) (hb : GE X b σ B (rI.r j)) (hc : CMul i j) : GE X (.BinOp a .Mult b pos) σ B (rI.r (i * j)) :=
  g_op op_mul ha hb fun v w B1 H1 _ ih rv rw' Q q => ⟨i, j, rv, rw', hc, q.val ih rfl⟩
theorem g_fdiv {i j : Int} (ha : GE X a σ B (rI.r i)) (hb : GE X b σ B (rI.r j)) (hc : CDiv i j) : GE X (.BinOp a .FloorDiv b pos) σ B (rI.r (i / j)) :=
  g_op op_fdiv ha hb fun v w B1 H1 _ ih rv rw' Q q => ⟨i, j, rv, rw', hc, q.val ih rfl⟩
theorem g_mod {i j : Int} (ha : GE X a σ B (rI.r i)) (hb : GE X b σ B (rI.r j)) (hc : 0 < j) : GE X (.BinOp a .Mod b pos) σ B (rI.r (i % j)) :=
  g_op op_mod ha hb fun v w B1 H1 _ ih rv rw' Q q => ⟨i, j, rv, rw', hc, q.val ih rfl⟩
theorem g_pow {i j : Int} (ha : GE X a σ B (rI.r i)) (hb : GE X b σ B (rI.r j)) (hc : CPow i j) : GE X (.BinOp a .Pow b pos) σ B (rI.r (i ^ j.toNat)) :=
  g_op op_pow ha hb fun v w B1 H1 _ ih rv rw' Q q => ⟨i, j, rv, rw', hc, q.val ih rfl⟩
theorem g_cat {l m : List Nat} (ha : GE X a σ B (rT.r l)) (hb : GE X b σ B (rT.r m)) (hz : l.length + m.length ≤ 100000) : GE X (.BinOp a .Add b pos) σ B (rT.r (l ++ m)) :=
  g_op op_add_str ha hb fun v w B1 H1 _ ih rv rw' Q q => ⟨S l, S m, rv, rw', by rw [SX.S_len, SX.S_len]; exact Nat.le_trans hz (by decide), by rw [SX.S_cat]; exact q.val ih rfl⟩
/-- two lists put together -/
theorem g_catL {xs ys : List α} (ha : GE X a σ B ((rL ρ).r xs)) (hb : GE X b σ B ((rL ρ).r ys)) (hz : xs.length + ys.length ≤ 100000) : GE X (.BinOp a .Add b pos) σ B ((rL ρ).r (xs ++ ys)) :=
  g_op (ρ := rL ρ) (τ := rL ρ) op_cat ha hb fun v w B1 H1 _ ih ⟨l, vs, e1, h1, p1⟩ ⟨m, ws, e2, h2, p2⟩ Q q => ⟨l, m, vs, ws, e1, e2, ih.lst h1, ih.lst h2, by rw [← Paired.length p1, ← Paired.length p2]; exact Nat.le_trans hz (by decide), fun p hp =>
    q _ _ _ (Fr.new ih hp) ⟨p, vs ++ ws, rfl, upd_same, p_app (pmap p1 fun x v r => ρ.ex (Fr.new ih hp).b r) (pmap p2 fun x v r => ρ.ex (Fr.new ih hp).b r)⟩⟩
/-! ### comparisons -/
/-- the comparison r answers b -/
def RB (r : R2) (ρ : R α) (x : α) (τ : R β) (y : β) (B : Hp) (b : Bool) : Prop := ∀ v w B1 H1, Ex B B1 → Ex B1 H1 → ρ.r x v B1 → τ.r y w B1 → ∀ Q : VK, Q (.bl b) H1 → r v w H1 Q
theorem g_cmp {op : CmpOp} {r : R2} {k : Bool} (ho : OpR X (compareOp op) r) (ha : GE X a σ B (ρ.r x)) (hb : GE X b σ B (τ.r y)) (hr : RB r ρ x τ y B k) (hm : behindInMarks op b = false := by first | exact nomark _ | rfl) : GE X (.Compare a [op] [b] pos) σ B (rB.r k) := fun B1 H1 e i Q q =>
  W.of (pe_cmpR ho peW peW hm) (ha B1 H1 e i _ fun v B2 H2 f2 rv => hb B2 H2 (e.trans f2.b) f2.i _ fun w B3 H3 f3 rw' => hr v w B3 H3 ((e.trans f2.b).trans f3.b) f3.i (ρ.ex f3.b rv) rw' Q (q _ B3 H3 (f2.trans f3) rfl))
theorem t_cmp {op : CmpOp} {r : R2} {k : Bool} (ho : OpR X (compareOp op) r) (ha : GE X a σ B (ρ.r x)) (hb : GE X b σ B (τ.r y)) (hr : RB r ρ x τ y B k) (hm : behindInMarks op b = false := by first | exact nomark _ | rfl) : GT X (.Compare a [op] [b] pos) σ B k := fun B1 H1 e i Q q =>
  WT.of (pt_cmpR ho peW peW hm) (ha B1 H1 e i _ fun v B2 H2 f2 rv => hb B2 H2 (e.trans f2.b) f2.i _ fun w B3 H3 f3 rw' => hr v w B3 H3 ((e.trans f2.b).trans f3.b) f3.i (ρ.ex f3.b rv) rw' (fun x H' => ∃ k, x = .bl k ∧ Q k H') ⟨k, rfl, q B3 H3 (f2.trans f3)⟩)
theorem S_ne {l m : List Nat} : decide (tx l = tx m) = decide (l = m) := by
  by_cases h : l = m
  · subst h; simp
  · rw [decide_eq_false h, decide_eq_false (fun e => h (SX.S_inj (V.str.inj e)))]
theorem rb_eqT {l m : List Nat} : RB rEq rT l rT m B (decide (l = m)) := fun v w B1 H1 _ ih rv rw' Q q => by
  cases rv
  cases rw'
  refine ⟨rfl, ?_⟩
  rw [S_ne]
  exact q
theorem rb_neT {l m : List Nat} : RB rNe rT l rT m B (!decide (l = m)) := fun v w B1 H1 _ ih rv rw' Q q => by
  cases rv
  cases rw'
  refine ⟨rfl, ?_⟩
  rw [S_ne]
  exact q
theorem rb_eqI {i j : Int} : RB rEq rI i rI j B (decide (i = j)) := fun v w B1 H1 _ ih rv rw' Q q => by
  cases rv
  cases rw'
  refine ⟨rfl, ?_⟩
  rw [dec_int]
  exact q
theorem rb_lt {i j : Int} : RB (rI0 fun i j => .bl (decide (i < j))) rI i rI j B (decide (i < j)) := fun v w B1 H1 _ ih rv rw' Q q => ⟨i, j, rv, rw', q⟩
theorem rb_gt {i j : Int} : RB (rI0 fun i j => .bl (decide (j < i))) rI i rI j B (decide (j < i)) := fun v w B1 H1 _ ih rv rw' Q q => ⟨i, j, rv, rw', q⟩
theorem rb_ge {i j : Int} : RB (rI0 fun i j => .bl (decide (j ≤ i))) rI i rI j B (decide (j ≤ i)) := fun v w B1 H1 _ ih rv rw' Q q => ⟨i, j, rv, rw', q⟩
/-- one sign in a text -/
theorem rb_in {k : Nat} {l : List Nat} : RB (fun x y H Q => ∃ (c : Nat) (z : Str), x = .str ⟨#[c]⟩ ∧ y = .str z ∧ Q (.bl (decide (c ∈ z.cps.toList))) H) rT [k] rT l B (decide (k ∈ l)) := fun v w B1 H1 _ ih rv rw' Q q => ⟨k, S l, rv, rw', q⟩
theorem rb_notin {k : Nat} {l : List Nat} : RB (fun x y H Q => ∃ (c : Nat) (z : Str), x = .str ⟨#[c]⟩ ∧ y = .str z ∧ Q (.bl (!decide (c ∈ z.cps.toList))) H) rT [k] rT l B (!decide (k ∈ l)) := fun v w B1 H1 _ ih rv rw' Q q => ⟨k, S l, rv, rw', q⟩
theorem inV_tx {l : List Nat} : ∀ {ls : List (List Nat)}, inV (tx l) (ls.map tx) = decide (l ∈ ls)
  | [] => by simp [inV]
  | m :: ls => by
    have ih := inV_tx (l := l) (ls := ls)
    unfold inV at ih ⊢
    rw [List.map_cons, List.any_cons, ih]
    show (S m == S l || _) = _
    rw [SX.S_beq_eq]
    by_cases h : m = l
    · subst h; simp
    · have h' : ¬ l = m := fun e => h e.symm
      simp [h, h']
theorem flat_tx : ∀ ls : List (List Nat), (ls.map tx).all flatV = true
  | [] => rfl
  | _ :: ls => by
    rw [List.map_cons, List.all_cons, flat_tx ls]
    rfl
theorem rb_notinL {K : PySem.W.Frag} {l : List Nat} {ls : List (List Nat)} : RB (rIn K true) rT l (rL rT) ls B (!decide (l ∈ ls)) := fun v w B1 H1 _ ih rv rw' Q q => by
  obtain ⟨p, rfl, hp⟩ := lT.mp rw'
  cases rv
  refine ⟨p, _, rfl, .inl (.inl (.inl (ih.lst hp))), rfl, flat_tx ls, ?_⟩
  rw [if_pos rfl, inV_tx]
  exact q
theorem oR_non {o : Option α} (nn : ∀ x v H, ρ.r x v H → v ≠ .non) {v : V} {H : Hp} (h : (rO ρ).r o v H) : decide (v = .non) = o.isNone := by
  cases o with
  | none =>
    have e : v = .non := h
    rw [e]
    rfl
  | some x => exact decide_eq_false (nn x v H h)
theorem rb_is {o : Option α} (nn : ∀ x v H, ρ.r x v H → v ≠ .non) : RB (fun x y H Q => y = .non ∧ Q (.bl (decide (x = .non))) H) (rO ρ) o (rO τ) none B o.isNone := fun v w B1 H1 _ ih rv rw' Q q => ⟨rw', by rw [oR_non nn rv]; exact q⟩
theorem rb_isnot {o : Option α} (nn : ∀ x v H, ρ.r x v H → v ≠ .non) : RB (fun x y H Q => y = .non ∧ Q (.bl (!decide (x = .non))) H) (rO ρ) o (rO τ) none B (!o.isNone) := fun v w B1 H1 _ ih rv rw' Q q => ⟨rw', by rw [oR_non nn rv]; exact q⟩
/-! ### truth -/
theorem t_val {k : Bool} (h : GE X e σ B (rB.r k)) (he : ∀ whole, isTrue e X.env whole = (do let v ← whole; standAt e.pos; holding [v] (truthy v)) := by intro _; rfl) : GT X e σ B k := fun B1 H1 x i Q q =>
  WT.of (pt_val peW he) (h B1 H1 x i _ fun v B2 H2 f2 r => ⟨k, r, q B2 H2 f2⟩)
theorem t_not {k : Bool} (h : GT X e σ B k) : GT X (.UnaryOp .Not e pos) σ B (!k) := fun B1 H1 x i Q q => WT.of (pt_not ptW) (h B1 H1 x i _ fun B2 H2 f2 => q B2 H2 f2)
theorem GW.t {k : Bool} (h : GW X e σ B k) : GT X e σ B k := fun B1 H1 x i Q q => fun pins s I => h B1 H1 x i Q q _ pins s I
theorem w_and1 {k : Bool} (h : GT X e σ B k) : GW X (.BoolOp .And [e] pos) σ B k := fun B1 H1 x i Q q => WW.of (pw_and1 ptW) (h B1 H1 x i Q q)
theorem w_and {es : List Expr} {k j : Bool} (h : GT X a σ B k) (h2 : k = true → GW X (.BoolOp .And (b :: es) pos) σ B j) : GW X (.BoolOp .And (a :: b :: es) pos) σ B (k && j) := fun B1 H1 x i Q q =>
  WW.of (pw_and ptW pwW) (h B1 H1 x i _ fun B2 H2 f2 => by
    cases k with
    | true => exact h2 rfl B2 H2 (x.trans f2.b) f2.i Q fun B3 H3 f3 => q B3 H3 (f2.trans f3)
    | false => exact q B2 H2 f2)
theorem w_or1 {k : Bool} (h : GT X e σ B k) : GW X (.BoolOp .Or [e] pos) σ B k := fun B1 H1 x i Q q => WW.of (pw_or1 ptW) (h B1 H1 x i Q q)
theorem w_or {es : List Expr} {k j : Bool} (h : GT X a σ B k) (h2 : k = false → GW X (.BoolOp .Or (b :: es) pos) σ B j) : GW X (.BoolOp .Or (a :: b :: es) pos) σ B (k || j) := fun B1 H1 x i Q q =>
  WW.of (pw_or ptW pwW) (h B1 H1 x i _ fun B2 H2 f2 => by
    cases k with
    | false => exact h2 rfl B2 H2 (x.trans f2.b) f2.i Q fun B3 H3 f3 => q B3 H3 (f2.trans f3)
    | true => exact q B2 H2 f2)
theorem t_and {k j : Bool} (h : GT X a σ B k) (h2 : k = true → GT X b σ B j) : GT X (.BoolOp .And [a, b] pos) σ B (k && j) := (w_and h fun q => w_and1 (h2 q)).t
theorem t_or {k j : Bool} (h : GT X a σ B k) (h2 : k = false → GT X b σ B j) : GT X (.BoolOp .Or [a, b] pos) σ B (k || j) := (w_or h fun q => w_or1 (h2 q)).t
theorem g_one {op} (h : GE X e σ B P) : GE X (.BoolOp op [e] pos) σ B P := fun B1 H1 x i Q q => W.of (pe_one peW) (h B1 H1 x i Q q)
theorem g_and {es : List Expr} {k j : Bool} (h : GE X a σ B (rB.r k)) (h2 : k = true → GE X (.BoolOp .And (b :: es) pos) σ B (rB.r j)) : GE X (.BoolOp .And (a :: b :: es) pos) σ B (rB.r (k && j)) := fun B1 H1 x i Q q =>
  W.of (pe_and peW peW) (h B1 H1 x i _ fun v B2 H2 f2 r => ⟨k, r, by
    cases k with
    | true => exact h2 rfl B2 H2 (x.trans f2.b) f2.i Q fun w B3 H3 f3 r3 => q w B3 H3 (f2.trans f3) r3
    | false => exact q _ B2 H2 f2 rfl⟩)
theorem g_or {es : List Expr} {k j : Bool} (h : GE X a σ B (rB.r k)) (h2 : k = false → GE X (.BoolOp .Or (b :: es) pos) σ B (rB.r j)) : GE X (.BoolOp .Or (a :: b :: es) pos) σ B (rB.r (k || j)) := fun B1 H1 x i Q q =>
  W.of (pe_or peW peW) (h B1 H1 x i _ fun v B2 H2 f2 r => ⟨k, r, by
    cases k with
    | false => exact h2 rfl B2 H2 (x.trans f2.b) f2.i Q fun w B3 H3 f3 r3 => q w B3 H3 (f2.trans f3) r3
    | true => exact q _ B2 H2 f2 rfl⟩)
theorem g_not {k : Bool} (h : GE X e σ B (rB.r k)) : GE X (.UnaryOp .Not e pos) σ B (rB.r (!k)) := fun B1 H1 x i Q q => W.of (pe_not peW) (h B1 H1 x i _ fun v B2 H2 f2 r => ⟨k, r, q _ B2 H2 f2 rfl⟩)
theorem g_if {k : Bool} (h : GT X c σ B k) (h1 : k = true → GE X a σ B P) (h2 : k = false → GE X b σ B P) : GE X (.IfExp c a b pos) σ B P := fun B1 H1 x i Q q =>
  W.of (pe_ifExp ptW peW peW) (h B1 H1 x i _ fun B2 H2 f2 => by
    cases k with
    | true => exact h1 rfl B2 H2 (x.trans f2.b) f2.i Q fun w B3 H3 f3 r3 => q w B3 H3 (f2.trans f3) r3
    | false => exact h2 rfl B2 H2 (x.trans f2.b) f2.i Q fun w B3 H3 f3 r3 => q w B3 H3 (f2.trans f3) r3)
/-! ### argument lists, lists, tuples, dicts -/
theorem ga_nil : GA X [] σ B (fun vs _ => vs = []) := fun B1 H1 x i Q q => WA.of pa_nil (q [] B1 H1 (Fr.refl i) rfl)
theorem ga_cons {A : List V → Hp → Prop} (h : GE X e σ B (ρ.r x)) (h2 : GA X es σ B A) (hs : starEach (e :: es) X.env = (false, eval e X.env) :: starEach es X.env := by rfl) : GA X (e :: es) σ B (fun vs H1 => ∃ v r, vs = v :: r ∧ ρ.r x v H1 ∧ A r H1) := fun B1 H1 u i Q q =>
  WA.of (pa_cons peW paW hs) (h B1 H1 u i _ fun v B2 H2 f2 r => h2 B2 H2 (u.trans f2.b) f2.i _ fun vs B3 H3 f3 r3 => q _ B3 H3 (f2.trans f3) ⟨v, vs, rfl, ρ.ex f3.b r, r3⟩)
theorem ga1 (h : GE X e σ B (ρ.r x)) (hs : starEach [e] X.env = (false, eval e X.env) :: starEach [] X.env := by rfl) : GA X [e] σ B (fun vs H1 => ∃ v, vs = [v] ∧ ρ.r x v H1) := fun B1 H1 u i Q q =>
  ga_cons h ga_nil hs B1 H1 u i Q fun vs B2 H2 f2 ⟨v, r, e1, r1, e2⟩ => q vs B2 H2 f2 ⟨v, by rw [e1, e2], r1⟩
theorem ga2 (h : GE X a σ B (ρ.r x)) (h2 : GE X b σ B (τ.r y)) (hs : starEach [a, b] X.env = (false, eval a X.env) :: starEach [b] X.env := by rfl) (hs2 : starEach [b] X.env = (false, eval b X.env) :: starEach [] X.env := by rfl) :
    GA X [a, b] σ B (fun vs H1 => ∃ v w, vs = [v, w] ∧ ρ.r x v H1 ∧ τ.r y w H1) := fun B1 H1 u i Q q =>
  ga_cons h (ga1 h2 hs2) hs B1 H1 u i Q fun vs B2 H2 f2 ⟨v, r, e1, r1, w, e2, r2⟩ => q vs B2 H2 f2 ⟨v, w, by rw [e1, e2], r1, r2⟩
theorem ga3 (h : GE X a σ B (ρ.r x)) (h2 : GE X b σ B (τ.r y)) (h3 : GE X c σ B (υ.r z)) (hs : starEach [a, b, c] X.env = (false, eval a X.env) :: starEach [b, c] X.env := by rfl) (hs2 : starEach [b, c] X.env = (false, eval b X.env) :: starEach [c] X.env := by rfl)
    (hs3 : starEach [c] X.env = (false, eval c X.env) :: starEach [] X.env := by rfl) : GA X [a, b, c] σ B (fun vs H1 => ∃ v w u, vs = [v, w, u] ∧ ρ.r x v H1 ∧ τ.r y w H1 ∧ υ.r z u H1) := fun B1 H1 u i Q q =>
  ga_cons h (ga2 h2 h3 hs2 hs3) hs B1 H1 u i Q fun vs B2 H2 f2 ⟨v, r, e1, r1, w, w2, e2, r2, r3⟩ => q vs B2 H2 f2 ⟨v, w, w2, by rw [e1, e2], r1, r2, r3⟩
theorem g_pair {k : Nat} (h : GE X a σ B (ρ.r x)) (h2 : GE X b σ B (τ.r y)) (hs : starEach [a, b] X.env = (false, eval a X.env) :: starEach [b] X.env := by rfl) (hs2 : starEach [b] X.env = (false, eval b X.env) :: starEach [] X.env := by rfl) : GE X (.Tuple [a, b] k pos) σ B ((rP ρ τ).r (x, y)) := fun B1 H1 u i Q q =>
  W.of (pe_tup paW) (ga2 h h2 hs hs2 B1 H1 u i _ fun vs B2 H2 f2 ⟨v, w, e, r1, r2⟩ => by
    subst e
    exact ⟨show 2 ≤ sizeLine by decide, fun p hp => q _ _ _ (f2.trans (Fr.new f2.i hp)) ⟨p, v, w, rfl, upd_same, ρ.ex (Fr.new f2.i hp).b r1, τ.ex (Fr.new f2.i hp).b r2⟩⟩)
/-- a list of things told one by one -/
theorem g_lst {A : List V → Hp → Prop} {n : Nat} (h : GA X es σ B A) (hA : ∀ vs H1, A vs H1 → vs.length = n) (hn : n ≤ 1000) (st : ∀ vs H1 H2, Ex H1 H2 → A vs H1 → A vs H2) : GE X (.List es pos) σ B (fun v H1 => ∃ p vs, v = .ref p ∧ H1 p = some (.lst vs) ∧ A vs H1) := fun B1 H1 u i Q q =>
  W.of (pe_lst paW) (h B1 H1 u i _ fun vs B2 H2 f2 r => ⟨by rw [hA vs B2 r]; exact Nat.le_trans hn (by decide), fun p hp => q _ _ _ (f2.trans (Fr.new f2.i hp)) ⟨p, vs, rfl, upd_same, st vs B2 _ (Fr.new f2.i hp).b r⟩⟩)
theorem g_nil : GE X (.List [] pos) σ B ((rL ρ).r []) := fun B1 H1 u i Q q => W.of (pe_lst pa_nil) ⟨Nat.zero_le _, fun p hp => q _ _ _ (Fr.new i hp) ⟨p, [], rfl, upd_same, .nil⟩⟩
/-- .. a new one -/
theorem g_newL : ∀ H1, ∀ Q : VK, (∀ p, H1 p = none → Q (.ref p) (upd H1 p (.lst []))) → W X (.List [] pos) σ H1 Q := fun H1 Q q => W.of (pe_lst pa_nil) ⟨Nat.zero_le _, fun p hp => q p hp⟩
theorem g_newD : ∀ H1, ∀ Q : VK, (∀ p, H1 p = none → Q (.ref p) (upd H1 p (.dK []))) → W X (.Dict [] [] pos) σ H1 Q := fun H1 Q q => W.of pe_dnewK (fun p hp => q p hp)
theorem g_nilD : GE X (.Dict [] [] pos) σ B ((rD ρ).r []) := fun B1 H1 u i Q q => g_newD (X := X) (σ := σ) H1 Q fun p hp => q _ _ _ (Fr.new i hp) ⟨p, [], rfl, .inl upd_same, .nil⟩
theorem g_lst1 (h : GE X a σ B (ρ.r x)) (hs : starEach [a] X.env = (false, eval a X.env) :: starEach [] X.env := by rfl) : GE X (.List [a] pos) σ B ((rL ρ).r [x]) := fun B1 H1 u i Q q =>
  W.of (pe_lst paW) (ga1 h hs B1 H1 u i _ fun vs B2 H2 f2 ⟨v, e, r⟩ => by
    subst e
    exact ⟨show 1 ≤ sizeLine by decide, fun p hp => q _ _ _ (f2.trans (Fr.new f2.i hp)) ⟨p, _, rfl, upd_same, .cons (ρ.ex (Fr.new f2.i hp).b r) .nil⟩⟩)
theorem g_lst2 {x1 x2 : α} (h : GE X a σ B (ρ.r x1)) (h2 : GE X b σ B (ρ.r x2)) (hs : starEach [a, b] X.env = (false, eval a X.env) :: starEach [b] X.env := by rfl) (hs2 : starEach [b] X.env = (false, eval b X.env) :: starEach [] X.env := by rfl) : GE X (.List [a, b] pos) σ B ((rL ρ).r [x1, x2]) := fun B1 H1 u i Q q =>
  W.of (pe_lst paW) (ga2 h h2 hs hs2 B1 H1 u i _ fun vs B2 H2 e2 ⟨v, w, e, r, r'⟩ => by
    subst e
    exact ⟨show 2 ≤ sizeLine by decide, fun p hp => q _ _ _ (e2.trans (Fr.new e2.i hp)) ⟨p, _, rfl, upd_same, .cons (ρ.ex (Fr.new e2.i hp).b r) (.cons (ρ.ex (Fr.new e2.i hp).b r') .nil)⟩⟩)
/-! ### calls -/
theorem g_callB {id : String} {n : Str} {px : Pos} {r : List V → Hp → VK → Prop} {A : List V → Hp → Prop} (hc : CallR X (.builtin id) r) (hm : X.mg n = none) (ha : GA X (e :: es) σ B A) (hr : ∀ vs B1 H1, Ex B B1 → Ex B1 H1 → A vs B1 → ∀ Q : VK, Gv P B1 H1 Q → r vs H1 Q)
    (hv : bootBuiltins n = some (.builtin id) := by rfl) (hg : Gl X n := by rfl) (hn : n ≠ "__name__" := by decide) (hdb : (n == ("__debug__" : Str)) = false := by decide)
    (he : starEach (e :: es) X.env = (false, eval e X.env) :: starEach es X.env := by rfl) (hpl : (backTo pos (starEach es X.env)).any (·.1) = false := by rfl) : GE X (.Call (.Name n px) (e :: es) [] pos) σ B P := fun B1 H1 u i Q q =>
  W.of (pe_callB hc hg hm hv paW hn hdb he hpl) (ha B1 H1 u i _ fun vs B2 H2 f2 r2 => hr vs B2 H2 (u.trans f2.b) f2.i r2 Q (Gv.fr q f2))
theorem g_callTy {T : String} {n : Str} {px : Pos} {r : List V → Hp → VK → Prop} {A : List V → Hp → Prop} (hc : CallR X (.type T) r) (hm : X.mg n = none) (ha : GA X (e :: es) σ B A) (hr : ∀ vs B1 H1, Ex B B1 → Ex B1 H1 → A vs B1 → ∀ Q : VK, Gv P B1 H1 Q → r vs H1 Q)
    (hv : bootBuiltins n = some (.type T) := by rfl) (hg : Gl X n := by rfl) (hn : n ≠ "__name__" := by decide) (hdb : (n == ("__debug__" : Str)) = false := by decide)
    (he : starEach (e :: es) X.env = (false, eval e X.env) :: starEach es X.env := by rfl) (hpl : (backTo pos (starEach es X.env)).any (·.1) = false := by rfl) : GE X (.Call (.Name n px) (e :: es) [] pos) σ B P := fun B1 H1 u i Q q =>
  W.of (pe_callTy hc hg hm hv paW hn hdb he hpl) (ha B1 H1 u i _ fun vs B2 H2 f2 r2 => hr vs B2 H2 (u.trans f2.b) f2.i r2 Q (Gv.fr q f2))
/-- a def of the module -/
theorem g_call {k j : Nat} {n : Str} {px : Pos} {sp : Sp} {dvs : List V} {A : List V → Hp → Prop} (cl : C8.Cal X.prog X.w X.K X.mg X.base k n sp dvs) (hr : Room j X.A) (hk : k ≤ j) (ha : GA X (e :: es) σ B A)
    (hsp : ∀ vs B1 H1, Ex B B1 → Ex B1 H1 → A vs B1 → ∀ Q : VK, Gv P B1 H1 Q → sp (vs ++ dvs) H1 Q C8.E0) (hg : Gl X n := by rfl) (hdb : (n == ("__debug__" : Str)) = false := by decide)
    (he : starEach (e :: es) X.env = (false, eval e X.env) :: starEach es X.env := by rfl) (hpl : (backTo pos (starEach es X.env)).any (·.1) = false := by rfl) : GE X (.Call (.Name n px) (e :: es) [] pos) σ B P := fun B1 H1 u i Q q =>
  W.of (C8.pe_c cl hr hk hg paW hdb he hpl) (ha B1 H1 u i _ fun vs B2 H2 f2 r2 => hsp vs B2 H2 (u.trans f2.b) f2.i r2 Q (Gv.fr q f2))
/-- promises of one, two, .. arguments: what is asked, what comes -/
def sp1 (ρ : R α) (Pre : α → Prop) (T : α → As) : Sp := fun vs H Q _ => ∃ x v B, vs = [v] ∧ Ex B H ∧ ρ.r x v B ∧ Pre x ∧ Gv (T x) B H Q
def sp2 (ρ : R α) (τ : R β) (Pre : α → β → Prop) (T : α → β → As) : Sp := fun vs H Q _ => ∃ x y v w B, vs = [v, w] ∧ Ex B H ∧ ρ.r x v B ∧ τ.r y w B ∧ Pre x y ∧ Gv (T x y) B H Q
def sp3 (ρ : R α) (τ : R β) (υ : R γ) (Pre : α → β → γ → Prop) (T : α → β → γ → As) : Sp := fun vs H Q _ => ∃ x y z v w u B, vs = [v, w, u] ∧ Ex B H ∧ ρ.r x v B ∧ τ.r y w B ∧ υ.r z u B ∧ Pre x y z ∧ Gv (T x y z) B H Q
theorem g_call1 {k j : Nat} {n : Str} {px : Pos} {Pre : α → Prop} {T : α → As} (cl : C8.Cal X.prog X.w X.K X.mg X.base k n (sp1 ρ Pre T) []) (hr : Room j X.A) (hk : k ≤ j) (ha : GE X a σ B (ρ.r x)) (hp : Pre x) (hT : ∀ v H, T x v H → P v H := by exact fun _ _ h => h) (hg : Gl X n := by rfl) (hdb : (n == ("__debug__" : Str)) = false := by decide)
    (he : starEach [a] X.env = (false, eval a X.env) :: starEach [] X.env := by rfl) (hpl : (backTo pos (starEach [] X.env)).any (·.1) = false := by rfl) : GE X (.Call (.Name n px) [a] [] pos) σ B P :=
  g_call cl hr hk (ga1 ha he) (fun vs B1 H1 _ i ⟨v, e1, r1⟩ Q q => ⟨x, v, B1, by rw [e1]; rfl, i, r1, hp, fun u B2 H2 f2 p => q u B2 H2 f2 (hT u B2 p)⟩) hg hdb he hpl
theorem g_call2 {k j : Nat} {n : Str} {px : Pos} {Pre : α → β → Prop} {T : α → β → As} (cl : C8.Cal X.prog X.w X.K X.mg X.base k n (sp2 ρ τ Pre T) []) (hr : Room j X.A) (hk : k ≤ j) (ha : GE X a σ B (ρ.r x)) (hb : GE X b σ B (τ.r y)) (hp : Pre x y) (hT : ∀ v H, T x y v H → P v H := by exact fun _ _ h => h) (hg : Gl X n := by rfl) (hdb : (n == ("__debug__" : Str)) = false := by decide)
    (he : starEach [a, b] X.env = (false, eval a X.env) :: starEach [b] X.env := by rfl) (he2 : starEach [b] X.env = (false, eval b X.env) :: starEach [] X.env := by rfl) (hpl : (backTo pos (starEach [b] X.env)).any (·.1) = false := by rfl) : GE X (.Call (.Name n px) [a, b] [] pos) σ B P :=
  g_call cl hr hk (ga2 ha hb he he2) (fun vs B1 H1 _ i ⟨v, w, e1, r1, r2⟩ Q q => ⟨x, y, v, w, B1, by rw [e1]; rfl, i, r1, r2, hp, fun u B2 H2 f2 p => q u B2 H2 f2 (hT u B2 p)⟩) hg hdb he hpl
theorem g_call3 {k j : Nat} {n : Str} {px : Pos} {Pre : α → β → γ → Prop} {T : α → β → γ → As} (cl : C8.Cal X.prog X.w X.K X.mg X.base k n (sp3 ρ τ υ Pre T) []) (hr : Room j X.A) (hk : k ≤ j) (ha : GE X a σ B (ρ.r x)) (hb : GE X b σ B (τ.r y)) (hc : GE X c σ B (υ.r z)) (hp : Pre x y z) (hT : ∀ v H, T x y z v H → P v H := by exact fun _ _ h => h) (hg : Gl X n := by rfl) (hdb : (n == ("__debug__" : Str)) = false := by decide)
    (he : starEach [a, b, c] X.env = (false, eval a X.env) :: starEach [b, c] X.env := by rfl) (he2 : starEach [b, c] X.env = (false, eval b X.env) :: starEach [c] X.env := by rfl) (he3 : starEach [c] X.env = (false, eval c X.env) :: starEach [] X.env := by rfl) (hpl : (backTo pos (starEach [b, c] X.env)).any (·.1) = false := by rfl) : GE X (.Call (.Name n px) [a, b, c] [] pos) σ B P :=
  g_call cl hr hk (ga3 ha hb hc he he2 he3) (fun vs B1 H1 _ i ⟨v, w, u, e1, r1, r2, r3⟩ Q q => ⟨x, y, z, v, w, u, B1, by rw [e1]; rfl, i, r1, r2, r3, hp, fun u B2 H2 f2 p => q u B2 H2 f2 (hT u B2 p)⟩) hg hdb he hpl
/-- .. of four -/
theorem ga4 {δ : Type} {ω : R δ} {d : Expr} {w : δ} (h : GE X a σ B (ρ.r x)) (h2 : GE X b σ B (τ.r y)) (h3 : GE X c σ B (υ.r z)) (h4 : GE X d σ B (ω.r w)) (hs : starEach [a, b, c, d] X.env = (false, eval a X.env) :: starEach [b, c, d] X.env := by rfl) (hs2 : starEach [b, c, d] X.env = (false, eval b X.env) :: starEach [c, d] X.env := by rfl)
    (hs3 : starEach [c, d] X.env = (false, eval c X.env) :: starEach [d] X.env := by rfl) (hs4 : starEach [d] X.env = (false, eval d X.env) :: starEach [] X.env := by rfl) : GA X [a, b, c, d] σ B (fun vs H1 => ∃ v1 v2 v3 v4, vs = [v1, v2, v3, v4] ∧ ρ.r x v1 H1 ∧ τ.r y v2 H1 ∧ υ.r z v3 H1 ∧ ω.r w v4 H1) := fun B1 H1 u i Q q =>
  ga_cons h (ga3 h2 h3 h4 hs2 hs3 hs4) hs B1 H1 u i Q fun vs B2 H2 f2 ⟨v, r, e1, r1, w1, w2, w3, e2, r2, r3, r4⟩ => q vs B2 H2 f2 ⟨v, w1, w2, w3, by rw [e1, e2], r1, r2, r3, r4⟩
def sp4 {δ : Type} (ρ : R α) (τ : R β) (υ : R γ) (ω : R δ) (Pre : α → β → γ → δ → Prop) (T : α → β → γ → δ → As) : Sp := fun vs H Q _ => ∃ x y z t v1 v2 v3 v4 B, vs = [v1, v2, v3, v4] ∧ Ex B H ∧ ρ.r x v1 B ∧ τ.r y v2 B ∧ υ.r z v3 B ∧ ω.r t v4 B ∧ Pre x y z t ∧ Gv (T x y z t) B H Q
theorem g_call4 {δ : Type} {ω : R δ} {d : Expr} {w : δ} {k j : Nat} {n : Str} {px : Pos} {Pre : α → β → γ → δ → Prop} {T : α → β → γ → δ → As} (cl : C8.Cal X.prog X.w X.K X.mg X.base k n (sp4 ρ τ υ ω Pre T) []) (hr : Room j X.A) (hk : k ≤ j) (ha : GE X a σ B (ρ.r x)) (hb : GE X b σ B (τ.r y)) (hc : GE X c σ B (υ.r z)) (hd : GE X d σ B (ω.r w)) (hp : Pre x y z w) (hT : ∀ v H, T x y z w v H → P v H := by exact fun _ _ h => h) (hg : Gl X n := by rfl) (hdb : (n == ("__debug__" : Str)) = false := by decide)
    (he : starEach [a, b, c, d] X.env = (false, eval a X.env) :: starEach [b, c, d] X.env := by rfl) (he2 : starEach [b, c, d] X.env = (false, eval b X.env) :: starEach [c, d] X.env := by rfl) (he3 : starEach [c, d] X.env = (false, eval c X.env) :: starEach [d] X.env := by rfl) (he4 : starEach [d] X.env = (false, eval d X.env) :: starEach [] X.env := by rfl) (hpl : (backTo pos (starEach [b, c, d] X.env)).any (·.1) = false := by rfl) : GE X (.Call (.Name n px) [a, b, c, d] [] pos) σ B P :=
  g_call cl hr hk (ga4 ha hb hc hd he he2 he3 he4) (fun vs B1 H1 _ i ⟨v1, v2, v3, v4, e1, r1, r2, r3, r4⟩ Q q => ⟨x, y, z, w, v1, v2, v3, v4, B1, by rw [e1]; rfl, i, r1, r2, r3, r4, hp, fun u B2 H2 f2 p => q u B2 H2 f2 (hT u B2 p)⟩) hg hdb he hpl
end
end
end KB
end
section
set_option Elab.async false
set_option linter.all false
set_option maxRecDepth 100000
set_option maxHeartbeats 4000000
/-! KB3: subscripts, slices, built-in calls, methods. -/
namespace KB
open PySem PySem.Spec PyProof.Rows L2 KS
open SX (S)
section
variable {X : Cx} {e a b c : Expr} {es : List Expr} {σ : L2.St} {B B' : Hp} {pos px apos cpos : Pos}
variable {α β γ : Type} {ρ : R α} {τ : R β} {υ : R γ} {x : α} {y : β} {z : γ} {P : As}
theorem sz5 {n : Nat} (h : n ≤ 100000) : n ≤ sizeLine := Nat.le_trans h (by decide)
theorem sz5' {n : Nat} (h : n < 100000) : n < sizeLine := Nat.lt_of_lt_of_le h (by decide)
theorem p_get {F : α → V → Prop} : ∀ {xs : List α} {vs : List V} {i : Nat} {x : α}, Paired F xs vs → xs[i]? = some x → ∃ v, vs[i]? = some v ∧ F x v
  | _, _, _, _, .nil, h => by simp at h
  | _, _, 0, _, .cons r _, h => by
    simp at h
    subst h
    exact ⟨_, rfl, r⟩
  | _, _, i + 1, _, .cons _ t, h => by
    obtain ⟨v, h1, h2⟩ := p_get (i := i) t (by simpa using h)
    exact ⟨v, by simpa using h1, h2⟩
theorem p_take {F : α → V → Prop} : ∀ {xs : List α} {vs : List V} (n : Nat), Paired F xs vs → Paired F (xs.take n) (vs.take n)
  | _, _, 0, _ => by simp; exact .nil
  | _, _, n + 1, .nil => by simp; exact .nil
  | _, _, n + 1, .cons r t => .cons r (p_take n t)
theorem p_drop {F : α → V → Prop} : ∀ {xs : List α} {vs : List V} (n : Nat), Paired F xs vs → Paired F (xs.drop n) (vs.drop n)
  | _, _, 0, r => r
  | _, _, n + 1, .nil => .nil
  | _, _, n + 1, .cons _ t => p_drop n t
theorem p_rev {F : α → V → Prop} {xs : List α} {vs : List V} (h : Paired F xs vs) : Paired F xs.reverse vs.reverse := by
  induction h with
  | nil => exact .nil
  | cons r _ ih => rw [List.reverse_cons, List.reverse_cons]; exact p_app ih (.cons r .nil)
/-! ### subscripts -/
theorem g_sub2 {r : R2} (hr : IxR X r) (ha : GE X a σ B (ρ.r x)) (hb : GE X b σ B (τ.r y)) (h : ∀ v w B1 H1, Ex B B1 → Ex B1 H1 → ρ.r x v B1 → τ.r y w B1 → ∀ Q : VK, (∀ u, P u B1 → Q u H1) → r v w H1 Q) (hs : PlainIx b := by exact fun _ _ => rfl) : GE X (.Subscript a b pos) σ B P := fun B1 H1 q i Q k =>
  W.of (pe_ix hr peW peW hs) (ha B1 H1 q i _ fun v B2 H2 f2 rv => hb B2 H2 (q.trans f2.b) f2.i _ fun w B3 H3 f3 rw' => h v w B3 H3 ((q.trans f2.b).trans f3.b) f3.i (ρ.ex f3.b rv) rw' Q fun u p => k u B3 H3 (f2.trans f3) p)
/-- a list's item -/
theorem g_ixL {xs : List α} {i : Nat} (ha : GE X a σ B ((rL ρ).r xs)) (hb : GE X b σ B (rI.r (i : Int))) (hi : xs[i]? = some x) (hs : PlainIx b := by exact fun _ _ => rfl) : GE X (.Subscript a b pos) σ B (ρ.r x) :=
  g_sub2 (ρ := rL ρ) (τ := rI) ix_list ha hb (fun v w B1 H1 _ ih ⟨p, vs, e1, h1, pr⟩ rw' Q q => by
    obtain ⟨u, hu, ru⟩ := p_get pr hi
    exact ⟨p, vs, i, u, e1, rw', .inl (.inl (ih.lst h1)), atI_nat hu, q u ru⟩) hs
/-- .. by any place -/
theorem g_ixLi {xs : List α} {k : Int} {i : Nat} (ha : GE X a σ B ((rL ρ).r xs)) (hb : GE X b σ B (rI.r k)) (hk : k = (i : Int)) (hi : xs[i]? = some x) (hs : PlainIx b := by exact fun _ _ => rfl) : GE X (.Subscript a b pos) σ B (ρ.r x) :=
  g_ixL ha (by subst hk; exact hb) hi hs
theorem g_ixTu {xs : List α} {i : Nat} (ha : GE X a σ B ((rTu ρ).r xs)) (hb : GE X b σ B (rI.r (i : Int))) (hi : xs[i]? = some x) (hs : PlainIx b := by exact fun _ _ => rfl) : GE X (.Subscript a b pos) σ B (ρ.r x) :=
  g_sub2 (ρ := rTu ρ) (τ := rI) ix_tup ha hb (fun v w B1 H1 _ ih ⟨p, vs, e1, h1, pr⟩ rw' Q q => by
    obtain ⟨u, hu, ru⟩ := p_get pr hi
    exact ⟨p, vs, i, u, e1, rw', .inl (.inl (ih.keep h1 nf_tup)), atI_nat hu, q u ru⟩) hs
theorem g_fst (ha : GE X a σ B ((rP ρ τ).r (x, y))) (hb : GE X b σ B (rI.r 0)) (hs : PlainIx b := by exact fun _ _ => rfl) : GE X (.Subscript a b pos) σ B (ρ.r x) :=
  g_sub2 (ρ := rP ρ τ) (τ := rI) ix_tup ha hb (fun v w B1 H1 _ ih ⟨p, s, t, e1, h1, r1, r2⟩ rw' Q q => ⟨p, [s, t], 0, s, e1, rw', .inl (.inl (ih.keep h1 nf_tup)), rfl, q s r1⟩) hs
theorem g_snd (ha : GE X a σ B ((rP ρ τ).r (x, y))) (hb : GE X b σ B (rI.r 1)) (hs : PlainIx b := by exact fun _ _ => rfl) : GE X (.Subscript a b pos) σ B (τ.r y) :=
  g_sub2 (ρ := rP ρ τ) (τ := rI) ix_tup ha hb (fun v w B1 H1 _ ih ⟨p, s, t, e1, h1, r1, r2⟩ rw' Q q => ⟨p, [s, t], 1, t, e1, rw', .inl (.inl (ih.keep h1 nf_tup)), rfl, q t r2⟩) hs
/-- a text's sign -/
theorem g_ixS {l : List Nat} {i k : Nat} (ha : GE X a σ B (rT.r l)) (hb : GE X b σ B (rI.r (i : Int))) (hi : l[i]? = some k) (hz : l.length ≤ 100000) (hs : PlainIx b := by exact fun _ _ => rfl) : GE X (.Subscript a b pos) σ B (rT.r [k]) :=
  g_sub2 (ρ := rT) (τ := rI) ix_str ha hb (fun v w B1 H1 _ ih rv rw' Q q => ⟨S l, i, k, rv, rw', by rw [SX.S_len]; exact sz5 hz, atI_nat (xs := l) hi, q _ rfl⟩) hs
/-! ### slices -/
theorem cutV_to (xs : List V) (n : Nat) : cutV xs none (some (n : Int)) = xs.take n := by
  unfold cutV
  rw [HT.sIx_none, HT.sIx_nat, List.drop_zero, Nat.sub_zero]
  by_cases h : n ≤ xs.length
  · rw [Nat.min_eq_left h]
  · rw [Nat.min_eq_right (by omega), List.take_of_length_le (by omega), List.take_of_length_le (by omega)]
theorem sIx_neg (n d k : Nat) (h : 0 < k) : HT.sIx n d (some (-(k : Int))) = n - k := by
  show (if -(k : Int) < 0 then (-(k : Int) + (n : Int)).toNat else _) = _
  rw [if_pos (by omega)]
  omega
theorem cutV_last (xs : List V) {k : Nat} (h : 0 < k) : cutV xs (some (-(k : Int))) none = xs.drop (xs.length - k) := by
  unfold cutV
  rw [HT.sIx_none, sIx_neg _ _ _ h]
  exact List.take_of_length_le (by rw [List.length_drop]; omega)
theorem cutV_but (xs : List V) {k : Nat} (h : 0 < k) : cutV xs none (some (-(k : Int))) = xs.take (xs.length - k) := by
  unfold cutV
  rw [HT.sIx_none, sIx_neg _ _ _ h, List.drop_zero, Nat.sub_zero]
theorem g_slTo {l : List Nat} {i : Nat} {p2 : Pos} (ha : GE X a σ B (rT.r l)) (hb : GE X b σ B (rI.r (i : Int))) (hz : l.length ≤ 100000) : GE X (.Subscript a (.Slice none (some b) none p2) pos) σ B (rT.r (l.take i)) := fun B1 H1 q i0 Q k =>
  W.of (pe_slice C8.sl_txt peW po_none (po_some peW)) (ha B1 H1 q i0 _ fun v B2 H2 e2 rv => hb B2 H2 (q.trans e2.b) e2.i _ fun w B3 H3 e3 rw' => ⟨i, rw', S l, rv, by rw [SX.S_len]; exact sz5 hz, by rw [SX.slice_to (by omega)]; exact k _ B3 H3 (e2.trans e3) (by rw [Int.toNat_natCast]; rfl)⟩)
theorem g_slFrom {l : List Nat} {i : Nat} {p2 : Pos} (ha : GE X a σ B (rT.r l)) (hb : GE X b σ B (rI.r (i : Int))) (hz : l.length ≤ 100000) : GE X (.Subscript a (.Slice (some b) none none p2) pos) σ B (rT.r (l.drop i)) := fun B1 H1 q i0 Q k =>
  W.of (pe_slice C8.sl_txt peW (po_some peW) po_none) (ha B1 H1 q i0 _ fun v B2 H2 e2 rv => hb B2 H2 (q.trans e2.b) e2.i _ fun w B3 H3 e3 rw' => ⟨i, rw', S l, rv, by rw [SX.S_len]; exact sz5 hz, by rw [SX.slice_from (by omega)]; exact k _ B3 H3 (e2.trans e3) (by rw [Int.toNat_natCast]; rfl)⟩)
theorem g_slLTo {xs : List α} {i : Nat} {p2 : Pos} (ha : GE X a σ B ((rL ρ).r xs)) (hb : GE X b σ B (rI.r (i : Int))) : GE X (.Subscript a (.Slice none (some b) none p2) pos) σ B ((rL ρ).r (xs.take i)) := fun B1 H1 q i0 Q k =>
  W.of (pe_slice sl_list peW po_none (po_some peW)) (ha B1 H1 q i0 _ fun v B2 H2 e2 rv => hb B2 H2 (q.trans e2.b) e2.i _ fun w B3 H3 e3 rw' => by
    obtain ⟨p, vs, e1, h1, pr⟩ := (rL ρ).ex e3.b rv
    exact ⟨i, rw', p, vs, e1, .inl (.inl (e3.i.lst h1)), fun o ho => k _ _ _ ((e2.trans e3).trans (Fr.new e3.i ho)) ⟨o, _, rfl, by rw [upd_same, cutV_to], p_take i (pmap pr fun x v r => ρ.ex (Fr.new e3.i ho).b r)⟩⟩)
/-- the last k -/
theorem g_slLast {xs : List α} {i : Nat} {p2 : Pos} (ha : GE X a σ B ((rL ρ).r xs)) (hb : GE X b σ B (rI.r (-(i : Int)))) (hi : 0 < i) : GE X (.Subscript a (.Slice (some b) none none p2) pos) σ B ((rL ρ).r (xs.drop (xs.length - i))) := fun B1 H1 q i0 Q k =>
  W.of (pe_slice sl_list peW (po_some peW) po_none) (ha B1 H1 q i0 _ fun v B2 H2 e2 rv => hb B2 H2 (q.trans e2.b) e2.i _ fun w B3 H3 e3 rw' => by
    obtain ⟨p, vs, e1, h1, pr⟩ := (rL ρ).ex e3.b rv
    exact ⟨_, rw', p, vs, e1, .inl (.inl (e3.i.lst h1)), fun o ho => k _ _ _ ((e2.trans e3).trans (Fr.new e3.i ho)) ⟨o, _, rfl, by rw [upd_same, cutV_last _ hi, ← Paired.length pr], p_drop _ (pmap pr fun x v r => ρ.ex (Fr.new e3.i ho).b r)⟩⟩)
theorem g_slBut {xs : List α} {i : Nat} {p2 : Pos} (ha : GE X a σ B ((rL ρ).r xs)) (hb : GE X b σ B (rI.r (-(i : Int)))) (hi : 0 < i) : GE X (.Subscript a (.Slice none (some b) none p2) pos) σ B ((rL ρ).r (xs.take (xs.length - i))) := fun B1 H1 q i0 Q k =>
  W.of (pe_slice sl_list peW po_none (po_some peW)) (ha B1 H1 q i0 _ fun v B2 H2 e2 rv => hb B2 H2 (q.trans e2.b) e2.i _ fun w B3 H3 e3 rw' => by
    obtain ⟨p, vs, e1, h1, pr⟩ := (rL ρ).ex e3.b rv
    exact ⟨_, rw', p, vs, e1, .inl (.inl (e3.i.lst h1)), fun o ho => k _ _ _ ((e2.trans e3).trans (Fr.new e3.i ho)) ⟨o, _, rfl, by rw [upd_same, cutV_but _ hi, ← Paired.length pr], p_take _ (pmap pr fun x v r => ρ.ex (Fr.new e3.i ho).b r)⟩⟩)
theorem g_rev {xs : List α} {k} {p1 p2 p3 : Pos} (ha : GE X a σ B ((rL ρ).r xs)) : GE X (.Subscript a (.Slice none none (some (.UnaryOp .USub (.Constant (.int 1) k p1) p2)) p3) pos) σ B ((rL ρ).r xs.reverse) := fun B1 H1 q i0 Q k =>
  W.of (pe_revL peW) (ha B1 H1 q i0 _ fun v B2 H2 e2 rv => by
    obtain ⟨p, vs, e1, h1, pr⟩ := rv
    exact ⟨p, vs, e1, .inl (.inl (e2.i.lst h1)), fun o ho => k _ _ _ (e2.trans (Fr.new e2.i ho)) ⟨o, _, rfl, upd_same, p_rev (pmap pr fun x v r => ρ.ex (Fr.new e2.i ho).b r)⟩⟩)
theorem g_neg {i : Int} (ha : GE X a σ B (rI.r i)) : GE X (.UnaryOp .USub a pos) σ B (rI.r (-i)) := fun B1 H1 q i0 Q k =>
  W.of (pe_un un_neg peW) (ha B1 H1 q i0 _ fun v B2 H2 e2 rv => ⟨i, rv, k _ B2 H2 e2 rfl⟩)
/-! ### dicts -/
theorem kL_inj {c d : Nat} (h : kL c = kL d) : c = d := by
  have := SX.S_inj (Sum.inr.inj h)
  exact List.head_eq_of_cons_eq this
def look (xs : List (Nat × α)) (c : Nat) : Option α := (xs.find? fun p => decide (p.1 = c)).map (·.2)
theorem p_look {H : Hp} : ∀ {xs : List (Nat × α)} {kvs : List (Key × V)} {c : Nat}, Paired (fun x p => p.1 = kL x.1 ∧ ρ.r x.2 p.2 H) xs kvs → match look xs c with
    | none => valV kvs (kL c) = none
    | some x => ∃ v, valV kvs (kL c) = some v ∧ ρ.r x v H
  | _, _, c, .nil => rfl
  | x :: xs, p :: kvs, c, .cons r t => by
    by_cases e : x.1 = c
    · have : look (x :: xs) c = some x.2 := by simp [look, e]
      rw [this]
      exact ⟨p.2, valV_pos (by rw [r.1, e]), r.2⟩
    · have h1 : look (x :: xs) c = look xs c := by simp [look, e]
      rw [h1, valV_neg (fun q => e (kL_inj (r.1 ▸ q)))]
      exact p_look t
theorem rdx {B H : Hp} {d : Addr} {kvs : List (Key × V)} (i : Ex B H) (h : Rd B d (.dK kvs)) (n : ∀ p ∈ kvs, ∃ c, p.1 = kL c) : Rd H d (.dK kvs) := by
  rcases h with h | ⟨o, h⟩
  · exact .inl (i.keep h (nf_dK n))
  · exact .inr ⟨o, i.keep h nf_frz⟩
theorem g_dget {xs : List (Nat × α)} {c : Nat} (hu : X.A.units + 1 < cLine) (ha : GE X a σ B ((rD ρ).r xs)) (hb : GE X b σ B (rT.r [c])) (hi : look xs c = some x) (hs : NoSl b := by exact fun _ _ => rfl) : GE X (.Subscript a b pos) σ B (ρ.r x) := fun B1 H1 q i0 Q k =>
  W.of (pe_dget hu peW peW hs) (ha B1 H1 q i0 _ fun v B2 H2 e2 rv => hb B2 H2 (q.trans e2.b) e2.i _ fun w B3 H3 e3 rw' => by
    obtain ⟨d, kvs, e1, h1, pr⟩ := (rD ρ).ex e3.b rv
    have := p_look (c := c) pr
    rw [hi] at this
    obtain ⟨u, hu', ru⟩ := this
    exact ⟨d, u, e1, .inl ⟨kvs, kL c, rdx e3.i h1 (kd_allD pr).1, rw', hu'.symm⟩, k u B3 H3 (e2.trans e3) ru⟩)
/-- d.get(k, z) -/
theorem g_dget2 {xs : List (Nat × α)} {k : Nat} (hu : X.A.units + 1 < cLine) (ha : GE X a σ B ((rD ρ).r xs)) (hb : GE X b σ B (rT.r [k])) (hc : GE X c σ B (ρ.r x)) (m : M2 X a "get" apos b c cpos := by exact ⟨rfl, rfl, rfl, rfl⟩) :
    GE X (.Call (.Attribute a "get" apos) [b, c] [] cpos) σ B (ρ.r ((look xs k).getD x)) := fun B1 H1 q i0 Q kk =>
  W.of (pe_dget2 hu peW peW peW m) (ha B1 H1 q i0 _ fun v B2 H2 e2 rv => by
    obtain ⟨d, kvs, e1, h1, pr⟩ := rv
    refine ⟨d, e1, .inl ⟨kvs, rdx e2.i h1 (kd_allD pr).1⟩, hb B2 H2 (q.trans e2.b) e2.i _ fun w B3 H3 e3 rw' => hc B3 H3 ((q.trans e2.b).trans e3.b) e3.i _ fun u B4 H4 e4 ru => ?_⟩
    obtain ⟨d', kvs', e1', h1', pr'⟩ := (rD ρ).ex (e3.b.trans e4.b) (show (rD ρ).r xs v B2 from ⟨d, kvs, e1, h1, pr⟩)
    rw [e1] at e1'
    cases e1'
    have := p_look (c := k) pr'
    refine ⟨valV kvs' (kL k), .inl ⟨kvs', kL k, rdx e4.i h1' (kd_allD pr').1, rw', rfl⟩, ?_⟩
    cases hl : look xs k with
    | none =>
      rw [hl] at this
      have e : valV kvs' (kL k) = none := this
      rw [e]
      exact kk u B4 H4 ((e2.trans e3).trans e4) (by rw [hl]; exact ru)
    | some x2 =>
      rw [hl] at this
      obtain ⟨u2, h2, r2⟩ := this
      rw [h2]
      exact kk u2 B4 H4 ((e2.trans e3).trans e4) (by rw [hl]; exact r2))
theorem g_notinD {xs : List (Nat × α)} {k : Nat} (hu : X.A.units + 1 < cLine) (hb : GE X b σ B (rT.r [k])) (ha : GE X a σ B ((rD ρ).r xs)) (hm : behindInMarks .NotIn a = false := by rfl) : GE X (.Compare b [.NotIn] [a] pos) σ B (rB.r (!(look xs k).isSome)) := fun B1 H1 q i0 Q kk =>
  W.of (pe_cmp (pc_dnotin hu peW peW) hm) (hb B1 H1 q i0 _ fun w B2 H2 e2 rw' => ha B2 H2 (q.trans e2.b) e2.i _ fun v B3 H3 e3 rv => by
    obtain ⟨d, kvs, e1, h1, pr⟩ := rv
    have := p_look (c := k) pr
    refine ⟨d, valV kvs (kL k), e1, .inl ⟨kvs, kL k, rdx e3.i h1 (kd_allD pr).1, rw', rfl⟩, kk _ B3 H3 (e2.trans e3) ?_⟩
    cases hl : look xs k with
    | none =>
      rw [hl] at this
      have e : valV kvs (kL k) = none := this
      rw [e]
      rfl
    | some x2 =>
      rw [hl] at this
      obtain ⟨u2, h2, r2⟩ := this
      rw [h2]
      rfl)
end
end KB
end
section
set_option Elab.async false
set_option linter.all false
set_option maxRecDepth 100000
set_option maxHeartbeats 4000000
/-! KB4: built-in calls, methods. -/
namespace KB
open PySem PySem.Spec PyProof.Rows L2 KS MS
open SX (S)
theorem listS {X : Cx} (hc : X.calm = true) : CallR X (.type "list") (fun xs H Q => ∃ l : List Nat, xs = [tx l] ∧ l.length ≤ 100000 ∧ ∀ q, H q = none → Q (.ref q) (upd H q (.lst ((l.map fun c => [c]).map tx)))) := by
  intro pins s σ H xs us Q I r h
  obtain ⟨l, rfl, hz, q⟩ := h
  obtain ⟨u, rfl, ru⟩ := one_val r
  obtain ⟨t, rfl⟩ := ru
  refine PySem.call_list_str (I.ok.hd hc) (S l) t (fun h' tk acc c' hk e hi => ?_) (by show l.toArray.size ≤ sizeLine; rw [List.size_toArray]; exact sz5 hz)
  have hz' : ((l.map fun c => [c]).map tx).length ≤ sizeLine := by
    rw [List.length_map, List.length_map]
    exact sz5 hz
  refine ⟨.ref s.heap.objs.size, upd H s.heap.objs.size (.lst ((l.map fun c => [c]).map tx)), I.laid hk (Nat.le_refl _) ⟨hz', acc.toList, c', ?_, by rw [Array.toArray_toList]; exact e⟩, rfl, q _ (I.hok.fresh (Nat.le_refl _))⟩
  have h1 : acc.size = l.length := by
    rw [hi.1]
    exact List.size_toArray
  refine vals_of_idx _ _ (by rw [List.length_map, List.length_map, Array.length_toList, h1]) fun j u hj => ?_
  obtain ⟨c, t', hc, rfl⟩ := hi.2 j u (by rw [← Array.getElem?_toList]; exact hj)
  have hc' : l[j]? = some c := by simpa using hc
  exact ⟨tx [c], by simp [hc'], ⟨_, rfl⟩⟩
section
variable {X : Cx} {e a b c : Expr} {es : List Expr} {σ : L2.St} {B B' : Hp} {pos px p1 p2 p3 apos cpos : Pos}
variable {α β γ : Type} {ρ : R α} {τ : R β} {υ : R γ} {x : α} {y : β} {z : γ} {P : As}
theorem one_r {ρ : R α} {vs : List V} {H : Hp} (h : ∃ v r, vs = v :: r ∧ ρ.r x v H ∧ r = []) : ∃ v, vs = [v] ∧ ρ.r x v H := by
  obtain ⟨v, r, e, h, e2⟩ := h
  exact ⟨v, by rw [e, e2], h⟩
theorem g_lenL {xs : List α} (hm : X.mg "len" = none) (h : GE X e σ B ((rL ρ).r xs)) (he : starEach [e] X.env = (false, eval e X.env) :: starEach [] X.env := by rfl) (hg : Gl X "len" := by rfl) (hpl : (backTo pos (starEach [] X.env)).any (·.1) = false := by rfl) : GE X (.Call (.Name "len" px) [e] [] pos) σ B (rN.r xs.length) :=
  g_callB call_len_seq hm (ga1 h he) (fun vs B1 H1 _ ih ⟨v, e1, p, ws, e2, h2, pr⟩ Q q => ⟨p, ws, by rw [e1, e2], .inl (.inl (.inl (ih.lst h2))), q _ _ _ (Fr.refl ih) (by rw [Paired.length pr]; rfl)⟩) (by decide +kernel) hg (by decide) (by decide) he hpl
theorem g_lenTu {xs : List α} (hm : X.mg "len" = none) (h : GE X e σ B ((rTu ρ).r xs)) (he : starEach [e] X.env = (false, eval e X.env) :: starEach [] X.env := by rfl) (hg : Gl X "len" := by rfl) (hpl : (backTo pos (starEach [] X.env)).any (·.1) = false := by rfl) : GE X (.Call (.Name "len" px) [e] [] pos) σ B (rN.r xs.length) :=
  g_callB call_len_seq hm (ga1 h he) (fun vs B1 H1 _ ih ⟨v, e1, p, ws, e2, h2, pr⟩ Q q => ⟨p, ws, by rw [e1, e2], .inr (.inl (.inl (ih.keep h2 nf_tup))), q _ _ _ (Fr.refl ih) (by rw [Paired.length pr]; rfl)⟩) (by decide +kernel) hg (by decide) (by decide) he hpl
theorem g_lenS {l : List Nat} (hm : X.mg "len" = none) (h : GE X e σ B (rT.r l)) (hz : l.length ≤ 100000) (he : starEach [e] X.env = (false, eval e X.env) :: starEach [] X.env := by rfl) (hg : Gl X "len" := by rfl) (hpl : (backTo pos (starEach [] X.env)).any (·.1) = false := by rfl) : GE X (.Call (.Name "len" px) [e] [] pos) σ B (rN.r l.length) :=
  g_callB call_len_str hm (ga1 h he) (fun vs B1 H1 _ ih ⟨v, e1, e2⟩ Q q => ⟨S l, by rw [e1, e2], by rw [SX.S_len]; exact sz5 hz, q _ _ _ (Fr.refl ih) (by rw [SX.S_len]; rfl)⟩) (by decide +kernel) hg (by decide) (by decide) he hpl
theorem g_all {bs : List Bool} (hc : X.calm = true) (hm : X.mg "all" = none) (h : GE X e σ B ((rL rB).r bs)) (he : starEach [e] X.env = (false, eval e X.env) :: starEach [] X.env := by rfl) (hg : Gl X "all" := by rfl) (hpl : (backTo pos (starEach [] X.env)).any (·.1) = false := by rfl) : GE X (.Call (.Name "all" px) [e] [] pos) σ B (rB.r (bs.all id)) :=
  g_callB (cr_all hc) hm (ga1 h he) (fun vs B1 H1 _ ih ⟨v, e1, r⟩ Q q => by
    obtain ⟨p, e2, h2⟩ := lB.mp r
    exact ⟨p, bs, by rw [e1, e2], .inl (.inl (ih.lst h2)), q _ _ _ (Fr.refl ih) rfl⟩) (by decide +kernel) hg (by decide) (by decide) he hpl
theorem g_any {bs : List Bool} (hc : X.calm = true) (hm : X.mg "any" = none) (h : GE X e σ B ((rL rB).r bs)) (he : starEach [e] X.env = (false, eval e X.env) :: starEach [] X.env := by rfl) (hg : Gl X "any" := by rfl) (hpl : (backTo pos (starEach [] X.env)).any (·.1) = false := by rfl) : GE X (.Call (.Name "any" px) [e] [] pos) σ B (rB.r (bs.any id)) :=
  g_callB (cr_any hc) hm (ga1 h he) (fun vs B1 H1 _ ih ⟨v, e1, r⟩ Q q => by
    obtain ⟨p, e2, h2⟩ := lB.mp r
    exact ⟨p, bs, by rw [e1, e2], .inl (.inl (ih.lst h2)), q _ _ _ (Fr.refl ih) rfl⟩) (by decide +kernel) hg (by decide) (by decide) he hpl
theorem g_sum {ns : List Int} (hc : X.calm = true) (hm : X.mg "sum" = none) (h : GE X e σ B ((rL rI).r ns)) (he : starEach [e] X.env = (false, eval e X.env) :: starEach [] X.env := by rfl) (hg : Gl X "sum" := by rfl) (hpl : (backTo pos (starEach [] X.env)).any (·.1) = false := by rfl) : GE X (.Call (.Name "sum" px) [e] [] pos) σ B (rI.r ns.sum) :=
  g_callB (cr_sum hc) hm (ga1 h he) (fun vs B1 H1 _ ih ⟨v, e1, r⟩ Q q => by
    obtain ⟨p, e2, h2⟩ := lI.mp r
    exact ⟨p, ns, by rw [e1, e2], .inl (.inl (ih.lst h2)), q _ _ _ (Fr.refl ih) rfl⟩) (by decide +kernel) hg (by decide) (by decide) he hpl
/-- min of a list that is not empty -/
theorem g_min {ns : List Int} {m : Int} (hc : X.calm = true) (hm : X.mg "min" = none) (h : GE X e σ B ((rL rI).r ns)) (hmem : m ∈ ns) (hle : ∀ y ∈ ns, m ≤ y) (he : starEach [e] X.env = (false, eval e X.env) :: starEach [] X.env := by rfl) (hg : Gl X "min" := by rfl) (hpl : (backTo pos (starEach [] X.env)).any (·.1) = false := by rfl) : GE X (.Call (.Name "min" px) [e] [] pos) σ B (rI.r m) :=
  g_callB (cr_min hc) hm (ga1 h he) (fun vs B1 H1 _ ih ⟨v, e1, r⟩ Q q => by
    obtain ⟨p, e2, h2⟩ := lI.mp r
    refine ⟨p, ns, by rw [e1, e2], .inl (.inl (ih.lst h2)), List.length_pos_of_mem hmem, fun k hk hl => q _ _ _ (Fr.refl ih) ?_⟩
    have : k = m := by
      have h1 := hl m hmem
      have h2 := hle k hk
      omega
    rw [this]
    rfl) (by decide +kernel) hg (by decide) (by decide) he hpl
theorem g_sortT {ls : List (List Nat)} (hm : X.mg "sorted" = none) (h : GE X e σ B ((rL rT).r ls)) (he : starEach [e] X.env = (false, eval e X.env) :: starEach [] X.env := by rfl) (hg : Gl X "sorted" := by rfl) (hpl : (backTo pos (starEach [] X.env)).any (·.1) = false := by rfl) : GE X (.Call (.Name "sorted" px) [e] [] pos) σ B ((rL rT).r (ssort ltL ls)) :=
  g_callB cr_sortT hm (ga1 h he) (fun vs B1 H1 _ ih ⟨v, e1, r⟩ Q q => by
    obtain ⟨p, e2, h2⟩ := lT.mp r
    exact ⟨p, ls, by rw [e1, e2], .inl (.inl (ih.lst h2)), fun o ho => q _ _ _ (Fr.new ih ho) (lT.mpr ⟨o, rfl, upd_same⟩)⟩) (by decide +kernel) hg (by decide) (by decide) he hpl
/-- sorted(set(..)) -/
theorem w_set {A : V → Hp → Prop} {H1 : Hp} {Q : VK} (hc : X.calm = true) (hm : X.mg "set" = none) (h : W X e σ H1 fun v H2 => rSetS X [v] H2 Q)
    (he : starEach [e] X.env = (false, eval e X.env) :: starEach [] X.env := by rfl) (hg : Gl X "set" := by rfl) (hpl : (backTo pos (starEach [] X.env)).any (·.1) = false := by rfl) : W X (.Call (.Name "set" px) [e] [] pos) σ H1 Q :=
  W.of (pe_callTy (cr_setS hc) hg hm (by decide +kernel) (pa_cons peW pa_nil he) (by decide) (by decide) he hpl) h
theorem metS {ls : List (List Nat)} (hz : ls.length ≤ 4000) : (metK (ls.map S)).length + 1 < scanBound := by
  have h : (metK (ls.map S)).length ≤ ls.length := by
    have h1 := (nd_metK (ls.map S)).length_le_of_subset (l₂ := ls.map S) fun x hx => mem_metK.mp hx
    rw [List.length_map] at h1
    exact h1
  exact Nat.lt_of_le_of_lt (Nat.succ_le_succ (Nat.le_trans h hz)) (by decide)
theorem metI {ns : List Int} (hz : ns.length ≤ 4000) : (metK ns).length + 1 < scanBound := by
  have h : (metK ns).length ≤ ns.length := (nd_metK ns).length_le_of_subset fun x hx => mem_metK.mp hx
  exact Nat.lt_of_le_of_lt (Nat.succ_le_succ (Nat.le_trans h hz)) (by decide)
theorem g_sortSetT {ls : List (List Nat)} (hc : X.calm = true) (hm : X.mg "sorted" = none) (hm2 : X.mg "set" = none) (h : GE X e σ B ((rL rT).r ls)) (hz : (metK (ls.map S)).length + 1 < scanBound) (he : starEach [e] X.env = (false, eval e X.env) :: starEach [] X.env := by rfl) (hg2 : Gl X "set" := by rfl) (hpl2 : (backTo p2 (starEach [] X.env)).any (·.1) = false := by rfl)
    (he1 : starEach [Expr.Call (.Name "set" p1) [e] [] p2] X.env = (false, eval (.Call (.Name "set" p1) [e] [] p2) X.env) :: starEach [] X.env := by rfl) (hg : Gl X "sorted" := by rfl) (hpl : (backTo pos (starEach [] X.env)).any (·.1) = false := by rfl) : GE X (.Call (.Name "sorted" px) [.Call (.Name "set" p1) [e] [] p2] [] pos) σ B ((rL rT).r (usort ltL ls)) := fun B1 H1 u i0 Q q =>
  W.of (pe_callB (cr_sortSet hc) hg hm (by decide +kernel) (pa_cons peW pa_nil he1) (by decide) (by decide) he1 hpl)
    (w_set (A := fun _ _ => True) hc hm2 (h B1 H1 u i0 _ fun v B2 H2 x2 r => by
      obtain ⟨p, rfl, hp⟩ := lT.mp r
      exact .inl ⟨p, ls, rfl, .inl (.inl (x2.i.lst hp)), hz, fun s hs => .inl ⟨s, ls, rfl, upd_same, fun o ho => q _ _ _ (x2.trans ((Fr.mut (Fr.refl x2.i) hs (x2.i.fresh hs)).trans (Fr.new (x2.i.mut (x2.i.fresh hs)) ho))) (lT.mpr ⟨o, rfl, upd_same⟩)⟩⟩) he hg2 hpl2)
theorem g_sortSetS {l : List Nat} (hc : X.calm = true) (hm : X.mg "sorted" = none) (hm2 : X.mg "set" = none) (h : GE X e σ B (rT.r l)) (hz : l.length ≤ 4000) (he : starEach [e] X.env = (false, eval e X.env) :: starEach [] X.env := by rfl) (hg2 : Gl X "set" := by rfl) (hpl2 : (backTo p2 (starEach [] X.env)).any (·.1) = false := by rfl)
    (he1 : starEach [Expr.Call (.Name "set" p1) [e] [] p2] X.env = (false, eval (.Call (.Name "set" p1) [e] [] p2) X.env) :: starEach [] X.env := by rfl) (hg : Gl X "sorted" := by rfl) (hpl : (backTo pos (starEach [] X.env)).any (·.1) = false := by rfl) : GE X (.Call (.Name "sorted" px) [.Call (.Name "set" p1) [e] [] p2] [] pos) σ B ((rL rT).r (usort ltL (l.map fun c => [c]))) := fun B1 H1 u i0 Q q =>
  W.of (pe_callB (cr_sortSet hc) hg hm (by decide +kernel) (pa_cons peW pa_nil he1) (by decide) (by decide) he1 hpl)
    (w_set (A := fun _ _ => True) hc hm2 (h B1 H1 u i0 _ fun v B2 H2 x2 r => by
      cases r
      refine .inr (.inl ⟨l, rfl, ?_, fun s hs => .inl ⟨s, l.map fun c => [c], rfl, ?_, fun o ho => q _ _ _ (x2.trans ((Fr.mut (Fr.refl x2.i) hs (x2.i.fresh hs)).trans (Fr.new (x2.i.mut (x2.i.fresh hs)) ho))) (lT.mpr ⟨o, rfl, upd_same⟩)⟩⟩)
      · have := metS (ls := l.map fun c => [c]) (by rw [List.length_map]; exact hz)
        rw [List.map_map] at this
        exact this
      · rw [upd_same, List.map_map]
        rfl) he hg2 hpl2)
theorem g_sortSetI {ls : List Int} (hc : X.calm = true) (hm : X.mg "sorted" = none) (hm2 : X.mg "set" = none) (h : GE X e σ B ((rL rI).r ls)) (hz : (metK ls).length + 1 < scanBound) (he : starEach [e] X.env = (false, eval e X.env) :: starEach [] X.env := by rfl) (hg2 : Gl X "set" := by rfl) (hpl2 : (backTo p2 (starEach [] X.env)).any (·.1) = false := by rfl)
    (he1 : starEach [Expr.Call (.Name "set" p1) [e] [] p2] X.env = (false, eval (.Call (.Name "set" p1) [e] [] p2) X.env) :: starEach [] X.env := by rfl) (hg : Gl X "sorted" := by rfl) (hpl : (backTo pos (starEach [] X.env)).any (·.1) = false := by rfl) : GE X (.Call (.Name "sorted" px) [.Call (.Name "set" p1) [e] [] p2] [] pos) σ B ((rL rI).r (usort ltI ls)) := fun B1 H1 u i0 Q q =>
  W.of (pe_callB (cr_sortSet hc) hg hm (by decide +kernel) (pa_cons peW pa_nil he1) (by decide) (by decide) he1 hpl)
    (w_set (A := fun _ _ => True) hc hm2 (h B1 H1 u i0 _ fun v B2 H2 x2 r => by
      obtain ⟨p, rfl, hp⟩ := lI.mp r
      exact .inr (.inr ⟨p, ls, rfl, .inl (.inl (x2.i.lst hp)), hz, fun s hs => .inr ⟨s, ls, rfl, upd_same, fun o ho => q _ _ _ (x2.trans ((Fr.mut (Fr.refl x2.i) hs (x2.i.fresh hs)).trans (Fr.new (x2.i.mut (x2.i.fresh hs)) ho))) (lI.mpr ⟨o, rfl, upd_same⟩)⟩⟩)) he hg2 hpl2)
theorem g_listS {l : List Nat} (hc : X.calm = true) (hm : X.mg "list" = none) (h : GE X e σ B (rT.r l)) (hz : l.length ≤ 100000) (he : starEach [e] X.env = (false, eval e X.env) :: starEach [] X.env := by rfl) (hg : Gl X "list" := by rfl) (hpl : (backTo pos (starEach [] X.env)).any (·.1) = false := by rfl) : GE X (.Call (.Name "list" px) [e] [] pos) σ B ((rL rT).r (l.map fun c => [c])) :=
  g_callTy (listS hc) hm (ga1 h he) (fun vs B1 H1 _ ih ⟨v, e1, r⟩ Q q => ⟨l, by rw [e1, r], hz, fun o ho => q _ _ _ (Fr.new ih ho) (lT.mpr ⟨o, rfl, upd_same⟩)⟩) (by decide +kernel) hg (by decide) (by decide) he hpl
theorem g_listL {xs : List α} (hm : X.mg "list" = none) (h : GE X e σ B ((rL ρ).r xs)) (he : starEach [e] X.env = (false, eval e X.env) :: starEach [] X.env := by rfl) (hg : Gl X "list" := by rfl) (hpl : (backTo pos (starEach [] X.env)).any (·.1) = false := by rfl) : GE X (.Call (.Name "list" px) [e] [] pos) σ B ((rL ρ).r xs) :=
  g_callTy call_list_of hm (ga1 h he) (fun vs B1 H1 _ ih ⟨v, e1, p, ws, e2, h2, pr⟩ Q q => ⟨p, ws, by rw [e1, e2], .inl (.inl (.inl (ih.lst h2))), fun o ho => q _ _ _ (Fr.new ih ho) ⟨o, ws, rfl, upd_same, pmap pr fun x v r => ρ.ex (Fr.new ih ho).b r⟩⟩) (by decide +kernel) hg (by decide) (by decide) he hpl
theorem g_listTu {xs : List α} (hm : X.mg "list" = none) (h : GE X e σ B ((rTu ρ).r xs)) (he : starEach [e] X.env = (false, eval e X.env) :: starEach [] X.env := by rfl) (hg : Gl X "list" := by rfl) (hpl : (backTo pos (starEach [] X.env)).any (·.1) = false := by rfl) : GE X (.Call (.Name "list" px) [e] [] pos) σ B ((rL ρ).r xs) :=
  g_callTy call_list_of hm (ga1 h he) (fun vs B1 H1 _ ih ⟨v, e1, p, ws, e2, h2, pr⟩ Q q => ⟨p, ws, by rw [e1, e2], .inr (.inl (.inl (ih.keep h2 nf_tup))), fun o ho => q _ _ _ (Fr.new ih ho) ⟨o, ws, rfl, upd_same, pmap pr fun x v r => ρ.ex (Fr.new ih ho).b r⟩⟩) (by decide +kernel) hg (by decide) (by decide) he hpl
theorem g_tupleL {xs : List α} (hm : X.mg "tuple" = none) (h : GE X e σ B ((rL ρ).r xs)) (he : starEach [e] X.env = (false, eval e X.env) :: starEach [] X.env := by rfl) (hg : Gl X "tuple" := by rfl) (hpl : (backTo pos (starEach [] X.env)).any (·.1) = false := by rfl) : GE X (.Call (.Name "tuple" px) [e] [] pos) σ B ((rTu ρ).r xs) :=
  g_callTy call_tuple_of hm (ga1 h he) (fun vs B1 H1 _ ih ⟨v, e1, p, ws, e2, h2, pr⟩ Q q => ⟨p, ws, by rw [e1, e2], .inl ⟨.inl (.inl (ih.lst h2)), fun o ho => q _ _ _ (Fr.new ih ho) ⟨o, ws, rfl, upd_same, pmap pr fun x v r => ρ.ex (Fr.new ih ho).b r⟩⟩⟩) (by decide +kernel) hg (by decide) (by decide) he hpl
theorem g_intI {i : Int} (hm : X.mg "int" = none) (h : GE X e σ B (rI.r i)) (he : starEach [e] X.env = (false, eval e X.env) :: starEach [] X.env := by rfl) (hg : Gl X "int" := by rfl) (hpl : (backTo pos (starEach [] X.env)).any (·.1) = false := by rfl) : GE X (.Call (.Name "int" px) [e] [] pos) σ B (rI.r i) :=
  g_callTy call_int1 hm (ga1 h he) (fun vs B1 H1 _ ih ⟨v, e1, r⟩ Q q => .inl ⟨i, by rw [e1, r], q _ _ _ (Fr.refl ih) rfl⟩) (by decide +kernel) hg (by decide) (by decide) he hpl
theorem g_intS {l : List Nat} {n : Int} (hm : X.mg "int" = none) (h : GE X e σ B (rT.r l)) (hi : PySem.intText? (S l) = some n) (hz : l.length ≤ 640) (he : starEach [e] X.env = (false, eval e X.env) :: starEach [] X.env := by rfl) (hg : Gl X "int" := by rfl) (hpl : (backTo pos (starEach [] X.env)).any (·.1) = false := by rfl) : GE X (.Call (.Name "int" px) [e] [] pos) σ B (rI.r n) :=
  g_callTy call_int_str hm (ga1 h he) (fun vs B1 H1 _ ih ⟨v, e1, r⟩ Q q => ⟨S l, n, by rw [e1, r], hi, by rw [SX.S_len]; exact hz, q _ _ _ (Fr.refl ih) rfl⟩) (by decide +kernel) hg (by decide) (by decide) he hpl
/-! ### methods of texts -/
/-- ''.join(a list of texts) -/
theorem map_S (ls : List (List Nat)) : ls.map tx = (ls.map S).map V.str := by rw [List.map_map]; rfl
theorem joinL_nil : ∀ ls : List (List Nat), TL.joinL [] ls = ls.flatten
  | [] => rfl
  | [l] => by simp [TL.joinL]
  | l :: m :: r => by
    have ih := joinL_nil (m :: r)
    simp only [TL.joinL] at ih ⊢
    rw [ih]
    simp
theorem sum_lens (ls : List (List Nat)) : ((ls.map S).map (·.length)).sum + (ls.map S).length * (S []).length = (ls.map (·.length)).sum := by
  rw [SX.lens, SX.S_len]
  simp
theorem g_join {ls : List (List Nat)} {j} (h : GE X e σ B ((rL rT).r ls)) (hz : (ls.map (·.length)).sum ≤ 100000) (hs : starEach [e] X.env = [(false, eval e X.env)] := by rfl) (hline : (apos.endLine == pos.line) = true := by rfl)
    (hbase : attributeBase (.Constant (.str "") j p1) "join" X.env (eval (.Constant (.str "") j p1) X.env) = eval (.Constant (.str "") j p1) X.env := by rfl) : GE X (.Call (.Attribute (.Constant (.str "") j p1) "join" apos) [e] [] pos) σ B (rT.r ls.flatten) := fun B1 H1 u i0 Q q =>
  W.of (pe_join pe_str peW hs hbase hline) ⟨⟨_, rfl⟩, h B1 H1 u i0 _ fun v B2 H2 x2 r => by
    obtain ⟨p, e1, hp⟩ := lT.mp r
    refine ⟨S [], p, ls.map S, rfl, by rw [e1], .inl (.inl (.inl (by rw [← map_S]; exact x2.i.lst hp))), ?_, ?_⟩
    · rw [sum_lens]
      exact Nat.le_trans hz (by decide)
    · rw [SX.join_S, joinL_nil]
      exact q _ B2 H2 x2 rfl⟩
theorem g_joinTu {ls : List (List Nat)} {j} (h : GE X e σ B ((rTu rT).r ls)) (hz : (ls.map (·.length)).sum ≤ 100000) (hs : starEach [e] X.env = [(false, eval e X.env)] := by rfl) (hline : (apos.endLine == pos.line) = true := by rfl)
    (hbase : attributeBase (.Constant (.str "") j p1) "join" X.env (eval (.Constant (.str "") j p1) X.env) = eval (.Constant (.str "") j p1) X.env := by rfl) : GE X (.Call (.Attribute (.Constant (.str "") j p1) "join" apos) [e] [] pos) σ B (rT.r ls.flatten) := fun B1 H1 u i0 Q q =>
  W.of (pe_join pe_str peW hs hbase hline) ⟨⟨_, rfl⟩, h B1 H1 u i0 _ fun v B2 H2 x2 r => by
    obtain ⟨p, e1, hp⟩ := uT.mp r
    refine ⟨S [], p, ls.map S, rfl, by rw [e1], .inr (.inl (.inl (by rw [← map_S]; exact x2.i.keep hp nf_tup))), ?_, ?_⟩
    · rw [sum_lens]
      exact Nat.le_trans hz (by decide)
    · rw [SX.join_S, joinL_nil]
      exact q _ B2 H2 x2 rfl⟩
theorem count_S (l : List Nat) (k : Nat) : Txt.count (S l) (S [k]) = (l.count k : Nat) := by
  rw [show S [k] = ⟨#[k]⟩ from rfl, count_is]
  show cnt k l = _
  induction l with
  | nil => rfl
  | cons n r ih =>
    rw [cnt_cons, ih, List.count_cons]
    by_cases h : n = k
    · simp [h]; omega
    · simp [h]
theorem g_count {l : List Nat} {k : Nat} (ha : GE X a σ B (rT.r l)) (h : GE X e σ B (rT.r [k])) (hs : starEach [e] X.env = [(false, eval e X.env)] := by rfl) (hline : (apos.endLine == pos.line) = true := by rfl)
    (hbase : attributeBase a "count" X.env (eval a X.env) = eval a X.env := by rfl) : GE X (.Call (.Attribute a "count" apos) [e] [] pos) σ B (rN.r (l.count k)) := fun B1 H1 u i0 Q q =>
  W.of (pe_m1 F.slot_str_count F.type_str_count mt_count peW peW hs hbase hline) (ha B1 H1 u i0 _ fun v B2 H2 x2 r => ⟨⟨S l, r⟩, h B2 H2 (u.trans x2.b) x2.i _ fun w B3 H3 x3 rw' => ⟨S l, S [k], r, by rw [rw'], by rw [count_S]; exact q _ B3 H3 (x2.trans x3) rfl⟩⟩)
theorem g_split {l sep : List Nat} (ha : GE X a σ B (rT.r l)) (h : GE X e σ B (rT.r sep)) (h0 : sep ≠ []) (hk : sep.all (· < 256) = true) (hz : l.length ≤ 100000) (hs : starEach [e] X.env = [(false, eval e X.env)] := by rfl) (hline : (apos.endLine == pos.line) = true := by rfl)
    (hbase : attributeBase a "split" X.env (eval a X.env) = eval a X.env := by rfl) : GE X (.Call (.Attribute a "split" apos) [e] [] pos) σ B ((rL rT).r (TL.spl sep 0 [] l)) := fun B1 H1 u i0 Q q =>
  W.of (pe_split peW peW hs hbase hline) (ha B1 H1 u i0 _ fun v B2 H2 x2 r => ⟨⟨S l, r⟩, h B2 H2 (u.trans x2.b) x2.i _ fun w B3 H3 x3 rw' => ⟨S l, S sep, r, by rw [rw'], by
    rw [SX.S_len]
    cases sep with
    | nil => exact absurd rfl h0
    | cons _ _ => rfl, by rw [SX.S_len]; exact Nat.le_trans (Nat.add_le_add_right hz 2) (by decide), fun o ho => by
      rw [SX.split_S h0 hk, ← map_S]
      exact q _ _ _ ((x2.trans x3).trans (Fr.new x3.i ho)) (lT.mpr ⟨o, rfl, upd_same⟩)⟩⟩)
end
end KB
end
section
set_option Elab.async false
set_option linter.all false
set_option maxRecDepth 100000
set_option maxHeartbeats 4000000
/-! KB5: sources, comprehensions, blocks. -/
namespace KB
open PySem PySem.Spec PyProof.Rows L2 KS MS
open SX (S)
/-- what is walked -/
def GI {α : Type} (X : Cx) (tg iter : Expr) (σ : L2.St) (B : Hp) (ρ : R α) (xs : List α) : Prop := ∀ B1 H, Ex B B1 → Ex B1 H → ∀ Rr : It → Hp → Prop,
  (∀ (J : It) (B2 H2 : Hp) (G : Hp → Prop), Fr B1 H B2 H2 → (∀ H3, Ex B2 H3 → G H3) → Walk J xs.length G (fun i Ha x Hb => ∀ Bj, Ex B2 Bj → Ex Bj Ha → ∃ Bb, Fr Bj Ha Bb Hb ∧ ∀ a, xs[i]? = some a → ρ.r a x Bb) → Rr J H2) → WI X tg iter σ H Rr
abbrev Blk (X : Cx) (scope : Scope) (s : Shared) (H0 : Hp) (C : Addr) (cl : List (Str × Addr)) (fp : List Addr) : Cx := X.blk s H0 scope (compEnvC scope cl C X.env) fp
def WTs (X : Cx) (ifs : List Expr) : TT := fun σ H Q => ∀ (pins : List (Addr × Obj)) (s : Shared), Inv X pins σ H s →
  wpAny (model X.prog X.w) X.A (forIn ifs true fun c r => if r = true then do let ok ← isTrue c X.env (eval c X.env); pure (ForInStep.yield ok) else pure (ForInStep.yield r)) (TP X pins σ Q) X.xe s
theorem ptsW {X : Cx} {ifs : List Expr} : PTs X ifs (WTs X ifs) := ⟨fun pins s _ _ _ I h => h pins s I⟩
def GTs (X : Cx) (ifs : List Expr) (σ : L2.St) (B : Hp) (k : Bool) : Prop := ∀ B1 H, Ex B B1 → Ex B1 H → ∀ Q : Bool → Hp → Prop, (∀ B2 H2, Fr B1 H B2 H2 → Q k H2) → WTs X ifs σ H Q
def BW (X : Cx) (sc : Scope) (e : Expr) : TE := fun σ H Q => ∀ (s : Shared) (H0 : Hp) (C : Addr) (cl : List (Str × Addr)) (fp : List Addr), W (Blk X sc s H0 C cl fp) e σ H Q
def BWTs (X : Cx) (sc : Scope) (ifs : List Expr) : TT := fun σ H Q => ∀ (s : Shared) (H0 : Hp) (C : Addr) (cl : List (Str × Addr)) (fp : List Addr), WTs (Blk X sc s H0 C cl fp) ifs σ H Q
def BWI (X : Cx) (sc : Scope) (tg e : Expr) : TI := fun σ H Q => ∀ (s : Shared) (H0 : Hp) (C : Addr) (cl : List (Str × Addr)) (fp : List Addr), WI (Blk X sc s H0 C cl fp) tg e σ H Q
section
variable {X : Cx} {e a b c tg iter elt : Expr} {es ifs : List Expr} {σ : L2.St} {B B' : Hp} {pos px p1 p2 p3 apos cpos : Pos}
variable {α β γ : Type} {ρ : R α} {τ : R β} {υ : R γ} {x : α} {y : β} {z : γ} {P : As}
theorem ts_nil : GTs X [] σ B true := fun B1 H1 u i Q q => fun pins s I => pts_nil.run pins s σ H1 Q I (q B1 H1 (Fr.refl i))
theorem ts_one {k : Bool} (h : GT X c σ B k) : GTs X [c] σ B k := fun B1 H1 u i Q q => fun pins s I => (pts_one (X := X) (c := c) ptW).run pins s σ H1 Q I (h B1 H1 u i Q q)
/-! ### sources -/
theorem gi_list {xs : List α} (h : GE X e σ B ((rL ρ).r xs)) : GI X tg e σ B ρ xs := fun B1 H1 u i0 Rr k =>
  WI.of (pi_list peW) (h B1 H1 u i0 _ fun v B2 H2 x2 ⟨p, vs, e1, h1, pr⟩ => ⟨p, e1, ⟨vs, .inl (.inl (x2.i.lst h1))⟩, k _ B2 H2 (fun H => SqL X.K H p vs) x2 (fun H3 x3 => .inl (.inl (x3.lst h1))) (by
    rw [Paired.length pr]
    refine walk_list.mono (fun _ h => h) fun i Ha x Hb hi _ ⟨e2, hx⟩ => ?_
    subst e2
    refine fun Bj x4 x5 => ⟨Bj, Fr.refl x5, fun a ha => ?_⟩
    obtain ⟨w, hw, rw'⟩ := p_get pr ha
    rw [hx] at hw
    cases hw
    exact ρ.ex x4 rw')⟩)
theorem gi_tup {xs : List α} (h : GE X e σ B ((rTu ρ).r xs)) : GI X tg e σ B ρ xs := fun B1 H1 u i0 Rr k =>
  WI.of (pi_tup peW) (h B1 H1 u i0 _ fun v B2 H2 x2 ⟨p, vs, e1, h1, pr⟩ => ⟨p, e1, ⟨vs, .inl (.inl (x2.i.keep h1 nf_tup))⟩, k _ B2 H2 (fun H => SqT X.K H p vs) x2 (fun H3 x3 => .inl (.inl (x3.keep h1 nf_tup))) (by
    rw [Paired.length pr]
    refine walk_tup.mono (fun _ h => h) fun i Ha x Hb hi _ ⟨e2, hx⟩ => ?_
    subst e2
    refine fun Bj x4 x5 => ⟨Bj, Fr.refl x5, fun a ha => ?_⟩
    obtain ⟨w, hw, rw'⟩ := p_get pr ha
    rw [hx] at hw
    cases hw
    exact ρ.ex x4 rw')⟩)
def sg (l : List Nat) : List (List Nat) := l.map fun c => [c]
theorem sg_get {l : List Nat} {i : Nat} {a : List Nat} (h : (sg l)[i]? = some a) : ∃ c, l[i]? = some c ∧ a = [c] := by
  unfold sg at h
  rw [List.getElem?_map] at h
  cases hl : l[i]? with
  | none => rw [hl] at h; cases h
  | some c => rw [hl] at h; exact ⟨c, rfl, (Option.some.inj h).symm⟩
theorem gi_str {l : List Nat} (h : GE X e σ B (rT.r l)) : GI X tg e σ B rT (sg l) := fun B1 H1 u i0 Rr k =>
  WI.of (pi_str peW) (h B1 H1 u i0 _ fun v B2 H2 x2 r => ⟨S l, r, k _ B2 H2 (fun _ => True) x2 (fun _ _ => trivial) (by
    have hl : (sg l).length = (S l).cps.size := by
      show (sg l).length = l.toArray.size
      unfold sg
      rw [List.length_map, List.size_toArray]
    rw [hl]
    refine walk_str.mono (fun _ h => h) fun i Ha x Hb hi _ ⟨e2, c, hc, hx⟩ => ?_
    subst e2
    refine fun Bj x4 x5 => ⟨Bj, Fr.refl x5, fun a ha => ?_⟩
    obtain ⟨c', h1, h2⟩ := sg_get ha
    have h3 : l[i]? = some c := by simpa using hc
    rw [h1] at h3
    cases h3
    rw [h2]
    exact hx)⟩)
theorem gi_range {n : Nat} (hm : X.mg "range" = none) (h : GE X e σ B (rI.r (n : Int))) (hn : n ≤ 100000) (hs : starEach [e] X.env = [(false, eval e X.env)] := by rfl) (hg : Gl X "range" := by rfl) : GI X tg (.Call (.Name "range" px) [e] [] pos) σ B rN (List.range n) := fun B1 H1 u i0 Rr k =>
  WI.of (pi_range1 hg hm paW hs) (ga1 h hs B1 H1 u i0 _ fun vs B2 H2 x2 ⟨v, e1, r⟩ => ⟨n, by rw [e1, r], by omega, by omega, k _ B2 H2 (fun _ => True) x2 (fun _ _ => trivial) (by
    rw [List.length_range, Int.toNat_natCast]
    refine walk_range.mono (fun _ h => h) fun i Ha x Hb hi _ ⟨e2, hx⟩ => ?_
    subst e2
    refine fun Bj x4 x5 => ⟨Bj, Fr.refl x5, fun a ha => ?_⟩
    rw [List.getElem?_range hi] at ha
    cases ha
    rw [hx]
    show V.int (0 + (i : Int)) = nI i
    rw [Int.zero_add])⟩)
/-- range(n - 1, -1, -1) -/
theorem gi_down {n : Nat} (hm : X.mg "range" = none) (h : GE X a σ B (rI.r ((n : Int) - 1))) (hb : GE X b σ B (rI.r (-1))) (hc : GE X c σ B (rI.r (-1))) (hn : n ≤ 100000) (hs : starEach [a, b, c] X.env = (false, eval a X.env) :: starEach [b, c] X.env := by rfl) (hs2 : starEach [b, c] X.env = (false, eval b X.env) :: starEach [c] X.env := by rfl) (hs3 : starEach [c] X.env = (false, eval c X.env) :: starEach [] X.env := by rfl)
    (hg : Gl X "range" := by rfl) (hpl : (backTo pos (starEach [b, c] X.env)).any (·.1) = false := by rfl) : GI X tg (.Call (.Name "range" px) [a, b, c] [] pos) σ B rN (List.range n).reverse := fun B1 H1 u i0 Rr k =>
  WI.of (pi_range3 hg hm paW hs hpl) (ga3 h hb hc hs hs2 hs3 B1 H1 u i0 _ fun vs B2 H2 x2 ⟨v, w, t, e1, r1, r2, r3⟩ => ⟨(n : Int) - 1, -1, -1, n, by rw [e1, r1, r2, r3], by
    have := RgC.neg (i := (n : Int) - 1) (j := -1) (by omega) (by omega) (by omega) (by omega)
    rw [show ((n : Int) - 1 - (-1)).toNat = n by omega] at this
    exact this, k _ B2 H2 (fun _ => True) x2 (fun _ _ => trivial) (by
    rw [List.length_reverse, List.length_range]
    refine walk_rangeC.mono (fun _ h => h) fun i Ha x Hb hi _ ⟨e2, hx⟩ => ?_
    subst e2
    refine fun Bj x4 x5 => ⟨Bj, Fr.refl x5, fun a ha => ?_⟩
    rw [List.getElem?_reverse (by rw [List.length_range]; exact hi), List.length_range, List.getElem?_range (by omega)] at ha
    cases ha
    rw [hx]
    show V.int ((n : Int) - 1 + (i : Int) * -1) = V.int _
    congr 1
    omega)⟩)
/-- a pair's first and second source -/
def IsSr (X : Cx) (ρ : R α) (xs : List α) (v : V) (B : Hp) : Prop := ∃ u : Sr, u.v = v ∧ u.items.length = xs.length ∧ (∀ H2, Ex B H2 → u.G X.K H2) ∧ ∀ H2, Ex B H2 → ∀ (i : Nat) (a : α), xs[i]? = some a → ∃ w, u.items[i]? = some w ∧ ρ.r a w H2
theorem sr_list {xs : List α} {v : V} (h : (rL ρ).r xs v B) : IsSr X ρ xs v B := by
  obtain ⟨p, vs, e1, h1, pr⟩ := h
  refine ⟨.li p vs, e1.symm, (Paired.length pr).symm, fun H2 x2 => .inl (.inl (x2.lst h1)), fun H2 x2 i a ha => ?_⟩
  obtain ⟨w, hw, r⟩ := p_get pr ha
  exact ⟨w, hw, ρ.ex x2 r⟩
theorem sr_str {l : List Nat} {v : V} (h : rT.r l v B) : IsSr X rT (sg l) v B := by
  refine ⟨.te l, h.symm, by unfold sg; simp [Sr.items], fun H2 x2 => trivial, fun H2 x2 i a ha => ?_⟩
  obtain ⟨c, h1, h2⟩ := sg_get ha
  exact ⟨tx [c], by simp [Sr.items, h1], by rw [h2]; rfl⟩
theorem gi_zip0 {A A2 : As} {xs : List α} {ys : List β} {elts : List Expr} {kk : Nat} {tpos : Pos} (hm : X.mg "zip" = none) (ha : GE X a σ B A) (hb : GE X b σ B A2) (fa : ∀ v B1, Ex B B1 → A v B1 → ∀ B2, Ex B1 B2 → IsSr X ρ xs v B2) (fb : ∀ v B1, Ex B B1 → A2 v B1 → IsSr X τ ys v B1) (hl : xs.length = ys.length)
    (hs : starEach [a, b] X.env = (false, eval a X.env) :: starEach [b] X.env := by rfl) (hs2 : starEach [b] X.env = (false, eval b X.env) :: starEach [] X.env := by rfl) (hg : Gl X "zip" := by rfl) (hpl : (backTo pos (starEach [b] X.env)).any (·.1) = false := by rfl) : GI X (.Tuple elts kk tpos) (.Call (.Name "zip" px) [a, b] [] pos) σ B (rP ρ τ) (xs.zip ys) := fun B1 H1 u i0 Rr k => by
  refine WI.of (pi_zipS hg hm paW hs hpl) ?_
  refine WA.of (pa_cons peW (pa_cons peW pa_nil hs2) hs) (ha B1 H1 u i0 _ fun v B2 H2 x2 r => hb B2 H2 (u.trans x2.b) x2.i _ fun w B3 H3 x3 r3 => ?_)
  obtain ⟨s1, e1, l1, k1, f1⟩ := fa v B2 (u.trans x2.b) r B3 x3.b
  obtain ⟨s2, e2, l2, k2, f2⟩ := fb w B3 ((u.trans x2.b).trans x3.b) r3
  refine ⟨s1, s2, by rw [e1, e2], k1 H3 x3.i, k2 H3 x3.i, by omega, k _ B3 H3 (fun H => s1.G X.K H ∧ s2.G X.K H) (x2.trans x3) (fun H4 x4 => ⟨k1 H4 x4, k2 H4 x4⟩) ?_⟩
  have hz : (xs.zip ys).length = s1.items.length := by rw [List.length_zip]; omega
  rw [hz]
  refine walkP.mono (fun _ h => h) fun i Ha x Hb hi _ ⟨T, vx, vy, e3, hT, e4, h1, h2⟩ => ?_
  subst e4
  refine fun Bj x4 x5 => ⟨upd Bj T (.tup [vx, vy]), Fr.new x5 hT, fun p hp => ?_⟩
  obtain ⟨q1, q2⟩ := List.getElem?_zip_eq_some.mp hp
  obtain ⟨w1, g1, r1⟩ := f1 _ (x4.trans (Ex.new (o := .tup [vx, vy]) (x5.fresh hT))) i _ q1
  obtain ⟨w2, g2, r2⟩ := f2 _ (x4.trans (Ex.new (o := .tup [vx, vy]) (x5.fresh hT))) i _ q2
  have h1 : s1.items[i]? = some vx := h1
  have h2 : s2.items[i]? = some vy := h2
  rw [h1] at g1
  rw [h2] at g2
  cases g1
  cases g2
  exact ⟨T, vx, vy, e3, upd_same, r1, r2⟩
theorem gi_zipLL {xs : List α} {ys : List β} {elts : List Expr} {kk : Nat} {tpos : Pos} (hm : X.mg "zip" = none) (ha : GE X a σ B ((rL ρ).r xs)) (hb : GE X b σ B ((rL τ).r ys)) (hl : xs.length = ys.length)
    (hs : starEach [a, b] X.env = (false, eval a X.env) :: starEach [b] X.env := by rfl) (hs2 : starEach [b] X.env = (false, eval b X.env) :: starEach [] X.env := by rfl) (hg : Gl X "zip" := by rfl) (hpl : (backTo pos (starEach [b] X.env)).any (·.1) = false := by rfl) : GI X (.Tuple elts kk tpos) (.Call (.Name "zip" px) [a, b] [] pos) σ B (rP ρ τ) (xs.zip ys) :=
  gi_zip0 hm ha hb (fun v B1 _ r B2 x => sr_list ((rL ρ).ex x r)) (fun v B1 _ r => sr_list r) hl hs hs2 hg hpl
theorem gi_zipLS {xs : List α} {l : List Nat} {elts : List Expr} {kk : Nat} {tpos : Pos} (hm : X.mg "zip" = none) (ha : GE X a σ B ((rL ρ).r xs)) (hb : GE X b σ B (rT.r l)) (hl : xs.length = l.length)
    (hs : starEach [a, b] X.env = (false, eval a X.env) :: starEach [b] X.env := by rfl) (hs2 : starEach [b] X.env = (false, eval b X.env) :: starEach [] X.env := by rfl) (hg : Gl X "zip" := by rfl) (hpl : (backTo pos (starEach [b] X.env)).any (·.1) = false := by rfl) : GI X (.Tuple elts kk tpos) (.Call (.Name "zip" px) [a, b] [] pos) σ B (rP ρ rT) (xs.zip (sg l)) :=
  gi_zip0 hm ha hb (fun v B1 _ r B2 x => sr_list ((rL ρ).ex x r)) (fun v B1 _ r => sr_str r) (by unfold sg; rw [List.length_map]; exact hl) hs hs2 hg hpl
theorem gi_zipSL {xs : List α} {l : List Nat} {elts : List Expr} {kk : Nat} {tpos : Pos} (hm : X.mg "zip" = none) (ha : GE X a σ B (rT.r l)) (hb : GE X b σ B ((rL ρ).r xs)) (hl : l.length = xs.length)
    (hs : starEach [a, b] X.env = (false, eval a X.env) :: starEach [b] X.env := by rfl) (hs2 : starEach [b] X.env = (false, eval b X.env) :: starEach [] X.env := by rfl) (hg : Gl X "zip" := by rfl) (hpl : (backTo pos (starEach [b] X.env)).any (·.1) = false := by rfl) : GI X (.Tuple elts kk tpos) (.Call (.Name "zip" px) [a, b] [] pos) σ B (rP rT ρ) ((sg l).zip xs) :=
  gi_zip0 hm ha hb (fun v B1 _ r B2 x => sr_str (rT.ex x r)) (fun v B1 _ r => sr_list r) (by unfold sg; rw [List.length_map]; exact hl) hs hs2 hg hpl
theorem gi_enum0 {A : As} {xs : List α} {elts : List Expr} {kk : Nat} {tpos : Pos} (hm : X.mg "enumerate" = none) (ha : GE X a σ B A) (fa : ∀ v B1, Ex B B1 → A v B1 → IsSr X ρ xs v B1) (hs : starEach [a] X.env = [(false, eval a X.env)] := by rfl) (hg : Gl X "enumerate" := by rfl) :
    GI X (.Tuple elts kk tpos) (.Call (.Name "enumerate" px) [a] [] pos) σ B (rP rN ρ) ((List.range xs.length).zip xs) := fun B1 H1 u i0 Rr k => by
  refine WI.of (pi_enumS hg hm paW hs) ?_
  refine WA.of (pa_cons peW pa_nil hs) (ha B1 H1 u i0 _ fun v B2 H2 x2 r => ?_)
  obtain ⟨s1, e1, l1, k1, f1⟩ := fa v B2 (u.trans x2.b) r
  refine ⟨s1, by rw [e1], k1 H2 x2.i, k _ B2 H2 (fun H => s1.G X.K H) x2 (fun H4 x4 => k1 H4 x4) ?_⟩
  have hz : ((List.range xs.length).zip xs).length = (nums s1.items.length).length := by rw [List.length_zip, List.length_range, nums_len]; omega
  rw [hz]
  refine walkP.mono (fun _ h => h) fun i Ha x Hb hi _ ⟨T, vx, vy, e3, hT, e4, h1, h2⟩ => ?_
  subst e4
  refine fun Bj x4 x5 => ⟨upd Bj T (.tup [vx, vy]), Fr.new x5 hT, fun p hp => ?_⟩
  obtain ⟨q1, q2⟩ := List.getElem?_zip_eq_some.mp hp
  rw [nums_len] at hi
  obtain ⟨w2, g2, r2⟩ := f1 _ (x4.trans (Ex.new (o := .tup [vx, vy]) (x5.fresh hT))) i _ q2
  have h1 : (nums s1.items.length)[i]? = some vx := h1
  have h2 : s1.items[i]? = some vy := h2
  rw [nums_at hi] at h1
  rw [h2] at g2
  cases g2
  cases h1
  rw [List.getElem?_range (by omega)] at q1
  refine ⟨T, .int (i : Int), vy, e3, upd_same, ?_, r2⟩
  show V.int (i : Int) = nI p.1
  rw [← Option.some.inj q1]
theorem gi_enumL {xs : List α} {elts : List Expr} {kk : Nat} {tpos : Pos} (hm : X.mg "enumerate" = none) (ha : GE X a σ B ((rL ρ).r xs)) (hs : starEach [a] X.env = [(false, eval a X.env)] := by rfl) (hg : Gl X "enumerate" := by rfl) :
    GI X (.Tuple elts kk tpos) (.Call (.Name "enumerate" px) [a] [] pos) σ B (rP rN ρ) ((List.range xs.length).zip xs) := gi_enum0 hm ha (fun v H1 _ r => sr_list r) hs hg
theorem gi_enumS {l : List Nat} {elts : List Expr} {kk : Nat} {tpos : Pos} (hm : X.mg "enumerate" = none) (ha : GE X a σ B (rT.r l)) (hs : starEach [a] X.env = [(false, eval a X.env)] := by rfl) (hg : Gl X "enumerate" := by rfl) :
    GI X (.Tuple elts kk tpos) (.Call (.Name "enumerate" px) [a] [] pos) σ B (rP rN rT) ((List.range l.length).zip (sg l)) := by
  have h := gi_enum0 (xs := sg l) (elts := elts) (kk := kk) (tpos := tpos) (px := px) (pos := pos) hm ha (fun v H1 _ r => sr_str r) hs hg
  rw [show (sg l).length = l.length by unfold sg; rw [List.length_map]] at h
  exact h
/-- the keys, the items of a locked dict -/
theorem gi_keysF {d : Addr} {o : Obj} {kvs : List (Key × V)} {xs : List (Nat × α)} {ok : V → Nat × α → Prop} (h : GE X e σ B (rV.r (.ref d))) (hd : B d = some (.frz o (.dK kvs))) (hp : Paired (fun x p => p.1 = kL x.1 ∧ ok p.2 x) xs kvs) : GI X tg e σ B rT (xs.map fun p => [p.1]) := fun B1 H1 u i0 Rr k =>
  WI.of (pi_keys peW) (h B1 H1 u i0 _ fun v B2 H2 x2 r => ⟨d, o, r, .inl ⟨kvs, ((u.trans x2.b).trans x2.i).keep hd nf_frz, k _ B2 H2 (fun H => H d = some (.frz o (.dK kvs))) x2 (fun H3 x3 => ((u.trans x2.b).trans x3).keep hd nf_frz) (by
    rw [List.length_map, Paired.length hp]
    refine walk_keys.mono (fun _ h => h) fun i Ha x Hb hi _ ⟨e2, kk, v, hk, hx⟩ => ?_
    subst e2
    refine fun Bj x4 x5 => ⟨Bj, Fr.refl x5, fun a ha => ?_⟩
    rw [List.getElem?_map] at ha
    cases hz : xs[i]? with
    | none => rw [hz] at ha; cases ha
    | some q =>
      rw [hz] at ha
      cases ha
      have : ∀ {xs : List (Nat × α)} {kvs : List (Key × V)} {i : Nat} {q : Nat × α}, Paired (fun x p => p.1 = kL x.1 ∧ ok p.2 x) xs kvs → xs[i]? = some q → ∃ p, kvs[i]? = some p ∧ p.1 = kL q.1 := by
        intro xs kvs i q pr
        induction pr generalizing i with
        | nil => intro h; simp at h
        | cons r t ih =>
          intro h
          cases i with
          | zero =>
            simp at h
            subst h
            exact ⟨_, rfl, r.1⟩
          | succ i => exact ih (by simpa using h)
      obtain ⟨p, h1, h2⟩ := this hp hz
      rw [hk] at h1
      cases h1
      have h3 : kk = kL q.1 := h2
      rw [hx, h3]
      rfl)⟩⟩)
theorem p_getD {H : Hp} {xs : List (Nat × α)} {kvs : List (Key × V)} {i : Nat} {q : Nat × α} (pr : Paired (fun x p => p.1 = kL x.1 ∧ ρ.r x.2 p.2 H) xs kvs) : xs[i]? = some q → ∃ p, kvs[i]? = some p ∧ p.1 = kL q.1 ∧ ρ.r q.2 p.2 H := by
  induction pr generalizing i with
  | nil => intro h; simp at h
  | cons r t ih =>
    intro h
    cases i with
    | zero =>
      simp at h
      subst h
      exact ⟨_, rfl, r.1, r.2⟩
    | succ i => exact ih (by simpa using h)
theorem gi_itemsF {d : Addr} {o : Obj} {kvs : List (Key × V)} {xs : List (Nat × α)} {elts : List Expr} {kk : Nat} {tpos : Pos} (h : GE X e σ B (rV.r (.ref d))) (hd : B d = some (.frz o (.dK kvs))) (hp : Paired (fun x p => p.1 = kL x.1 ∧ ρ.r x.2 p.2 B) xs kvs)
    (hbase : attributeBase e "items" X.env (eval e X.env) = eval e X.env := by rfl) (hline : (apos.endLine == cpos.line) = true := by rfl) : GI X (.Tuple elts kk tpos) (.Call (.Attribute e "items" apos) [] [] cpos) σ B (rP rT ρ) (xs.map fun p => ([p.1], p.2)) := fun B1 H1 u i0 Rr k =>
  WI.of (pi_items peW hbase hline) (h B1 H1 u i0 _ fun v B2 H2 x2 r => ⟨d, o, kvs, r, ((u.trans x2.b).trans x2.i).keep hd nf_frz, k _ B2 H2 (fun H => H d = some (.frz o (.dK kvs))) x2 (fun H3 x3 => ((u.trans x2.b).trans x3).keep hd nf_frz) (by
    rw [List.length_map, Paired.length hp]
    refine walk_items.mono (fun _ h => h) fun i Ha x Hb hi _ ⟨T, vx, vy, e3, hT, e4, h1, h2⟩ => ?_
    subst e4
    refine fun Bj x4 x5 => ⟨upd Bj T (.tup [vx, vy]), Fr.new x5 hT, fun a ha => ?_⟩
    rw [List.getElem?_map] at ha
    cases hz : xs[i]? with
    | none => rw [hz] at ha; cases ha
    | some q =>
      rw [hz] at ha
      cases ha
      obtain ⟨p, g1, g2, g3⟩ := p_getD hp hz
      have h1 : kvs[i]?.map (fun kv => kV kv.1) = some vx := h1
      have h2 : kvs[i]?.map Prod.snd = some vy := h2
      rw [g1] at h1 h2
      cases h1
      cases h2
      refine ⟨T, _, _, e3, upd_same, ?_, ρ.ex (((u.trans x2.b).trans x4).trans (Ex.new (x5.fresh hT))) g3⟩
      show kV p.1 = tx [q.1]
      rw [g2]
      rfl)⟩)
/-- a pair goes to two names -/
theorem g_pr {j k : Nat} {v : V} {H : Hp} {Q : L2.St → Hp → Prop} (i : Ex B H) (r : (rP ρ τ).r (x, y) v B) (h : ∀ vx vy, ρ.r x vx B → τ.r y vy B → Q ((σ.set j (some vx)).set k (some vy)) H) : gTup X.K 2 (gCons (gName j) (gCons (gName k) gNil)) v σ H Q := by
  obtain ⟨p, vx, vy, e1, h1, r1, r2⟩ := r
  exact ⟨p, [vx, vy], e1, .inl (.inl (i.keep h1 nf_tup)), rfl, vx, [vy], rfl, vy, [], rfl, rfl, h vx vy r1 r2⟩
theorem tlc_ok {xs : List α} {f : α → β} {p : α → Bool} {vs : List Nat} {g : TG} {sc : Scope} (gi : GI X tg iter σ B ρ xs) (hz : xs.length ≤ 100000)
    (hgm : ∀ v σ H (Q Q' : L2.St → Hp → Prop), (∀ σ H, Q σ H → Q' σ H) → g v σ H Q → g v σ H Q')
    (hb : ∀ a v B1 H1, a ∈ xs → Ex B B1 → Ex B1 H1 → ρ.r a v B1 → g v (wipe σ vs) H1 fun σ2 H2 => wipe σ2 vs = wipe σ vs ∧ H2 = H1 ∧ ∀ (s : Shared) (H0 : Hp) (C : Addr) (cl : List (Str × Addr)) (fp : List Addr), GTs (Blk X sc s H0 C cl fp) ifs σ2 B1 (p a) ∧ (p a = true → GE (Blk X sc s H0 C cl fp) elt σ2 B1 (τ.r (f a)))) :
    ∀ B1 H1, Ex B B1 → Ex B1 H1 → ∀ Q : VK, Gv ((rL τ).r ((xs.filter p).map f)) B1 H1 Q → tLc (WI X tg iter) g (BWTs X sc ifs) (BW X sc elt) vs σ H1 Q := fun B1 H1 u i0 Q q =>
  gi B1 H1 u i0 _ fun J B2 H2 G x2 hG w D hD => lc_it w (fun i H3 => ∃ Bj, Fr B2 H2 Bj H3 ∧ Bj D = none ∧ ∃ ws, H3 D = some (.lst ws) ∧ Paired (fun x v => τ.r x v Bj) (((xs.take i).filter p).map f) ws)
    ⟨B2, (Fr.refl x2.i).mut hD (x2.i.fresh hD), x2.i.fresh hD, [], upd_same, by simp; exact .nil⟩ (fun i H3 _ ⟨Bj, f3, _⟩ => hG H3 (f3.b.trans f3.i)) (fun i v H3 H4 hi ⟨Bj, f3, dj, ws, hw, pr⟩ hy => by
      have ha : xs[i]? = some xs[i] := List.getElem?_eq_getElem hi
      obtain ⟨Bb, f4, ra⟩ := hy Bj f3.b f3.i
      have rv := ra _ ha
      have lw : ws.length ≤ i := by
        rw [← Paired.length pr, List.length_map]
        exact Nat.le_trans (List.length_filter_le ..) (by rw [List.length_take]; omega)
      refine hgm v _ _ _ _ (fun σ2 H5 ⟨k1, k2, k3⟩ => ?_) (hb _ v Bb H4 (List.getElem_mem hi) (((u.trans x2.b).trans f3.b).trans f4.b) f4.i rv)
      subst k2
      refine ⟨k1, fun s H0 C cl fp => (k3 s H0 C cl fp).1 Bb H5 (Ex.refl Bb) f4.i _ fun B6 H6 f6 => ?_⟩
      have step : ((xs.take (i + 1)).filter p).map f = ((xs.take i).filter p).map f ++ (if p xs[i] = true then [f xs[i]] else []) := by
        rw [List.take_add_one, ha, List.filter_append, List.map_append]
        show _ ++ (List.filter p [xs[i]]).map f = _
        cases hp : p xs[i] <;> simp [hp]
      have f46 := f4.trans f6
      cases hp : p xs[i] with
      | false =>
        show ∃ Bj, _
        refine ⟨B6, f3.trans f46, f46.out dj hw, ws, f46.h.lst hw, ?_⟩
        rw [step, hp]
        show Paired _ (_ ++ []) ws
        rw [List.append_nil]
        exact pmap pr fun x v r => τ.ex f46.b r
      | true =>
        show BW X sc elt σ2 H6 _
        intro s H0 C cl fp
        refine (k3 s H0 C cl fp).2 hp B6 H6 f6.b f6.i _ fun y B7 H7 f7 ry => ?_
        have f47 := f46.trans f7
        have d7 := f47.out dj hw
        refine ⟨ws, f47.h.lst hw, sz5' (by omega), B7, (f3.trans f47).mut hD d7, d7, ws ++ [y], upd_same, ?_⟩
        rw [step, hp]
        exact p_app (pmap pr fun x v r => τ.ex f47.b r) (.cons ry .nil)) fun H3 ⟨Bj, f3, dj, ws, hw, pr⟩ => by
      rw [List.take_length] at pr
      have fa := f3.add hD dj hw
      exact q _ _ H3 (x2.trans fa) ⟨D, ws, rfl, upd_same, pmap pr fun x v r => τ.ex (Ex.new dj) r⟩
/-- new things, one a turn -/
theorem tlc_fresh {xs : List α} {vs : List Nat} {g : TG} {sc : Scope} {o0 : HO} (hm0 : NF o0) (gi : GI X tg iter σ B ρ xs) (hz : xs.length ≤ 100000)
    (hgm : ∀ v σ H (Q Q' : L2.St → Hp → Prop), (∀ σ H, Q σ H → Q' σ H) → g v σ H Q → g v σ H Q')
    (hb : ∀ a v B1 H1, a ∈ xs → Ex B B1 → Ex B1 H1 → ρ.r a v B1 → g v (wipe σ vs) H1 fun σ2 H2 => wipe σ2 vs = wipe σ vs ∧ H2 = H1)
    (he : ∀ (s : Shared) (H0 : Hp) (C : Addr) (cl : List (Str × Addr)) (fp : List Addr) σ2 H1 (Q : VK), (∀ p, H1 p = none → Q (.ref p) (upd H1 p o0)) → W (Blk X sc s H0 C cl fp) elt σ2 H1 Q) :
    ∀ B1 H1, Ex B B1 → Ex B1 H1 → ∀ Q : VK, (∀ p (ps : List Addr) B2 H2, Fr B1 H1 B2 H2 → H1 p = none → B2 p = none → H2 p = some (.lst (ps.map V.ref)) → ps.length = xs.length → ps.Nodup → (∀ a ∈ ps, a ≠ p ∧ H1 a = none ∧ B2 a = none ∧ H2 a = some o0) → Q (.ref p) H2) → tLc (WI X tg iter) g (BWTs X sc []) (BW X sc elt) vs σ H1 Q := fun B1 H1 u i0 Q q =>
  gi B1 H1 u i0 _ fun J B2 H2 G x2 hG w D hD => lc_it w (fun i H3 => ∃ Bj, Fr B2 H2 Bj H3 ∧ Bj D = none ∧ ∃ ps : List Addr, H3 D = some (.lst (ps.map V.ref)) ∧ ps.length = i ∧ ps.Nodup ∧ ∀ a ∈ ps, a ≠ D ∧ H2 a = none ∧ Bj a = none ∧ H3 a = some o0)
    ⟨B2, (Fr.refl x2.i).mut hD (x2.i.fresh hD), x2.i.fresh hD, [], upd_same, rfl, List.nodup_nil, fun a h => nomatch h⟩ (fun i H3 _ ⟨Bj, f3, _⟩ => hG H3 (f3.b.trans f3.i)) (fun i v H3 H4 hi ⟨Bj, f3, dj, ps, hw, hl, nd, hps⟩ hy => by
      have ha : xs[i]? = some xs[i] := List.getElem?_eq_getElem hi
      obtain ⟨Bb, f4, ra⟩ := hy Bj f3.b f3.i
      have rv := ra _ ha
      refine hgm v _ _ _ _ (fun σ2 H5 ⟨k1, k2⟩ => ?_) (hb _ v Bb H4 (List.getElem_mem hi) (((u.trans x2.b).trans f3.b).trans f4.b) f4.i rv)
      subst k2
      refine ⟨k1, fun s H0 C cl fp => ts_nil Bb H5 (Ex.refl Bb) f4.i _ fun B6 H6 f6 => ?_⟩
      show BW X sc elt σ2 H6 _
      intro s H0 C cl fp
      refine he s H0 C cl fp σ2 H6 _ fun p hp => ?_
      have f46 := f4.trans f6
      have h6D : H6 D = some (.lst (ps.map V.ref)) := f46.h.lst hw
      have neD : D ≠ p := ne_of_none h6D hp
      have b6p : B6 p = none := f46.i.fresh hp
      have hp2 : H2 p = none := (f3.trans f46).h.fresh hp
      refine ⟨ps.map V.ref, by rw [upd_ne neD]; exact h6D, sz5' (by rw [List.length_map]; omega), B6, ((f3.trans f46).mut hp2 b6p).mut hD (f46.out dj hw), f46.out dj hw, ps ++ [p], by rw [upd_same, List.map_append]; rfl, by rw [List.length_append, hl]; rfl, ?_, fun a hm => ?_⟩
      · refine List.nodup_append.mpr ⟨nd, by simp, fun a h1 b h2 e => ?_⟩
        rw [List.mem_singleton] at h2
        subst h2
        subst e
        have := f46.h.keep (hps a h1).2.2.2 hm0
        rw [hp] at this
        cases this
      · rcases List.mem_append.mp hm with hm | hm
        · obtain ⟨h1, h2, h3, h4⟩ := hps a hm
          refine ⟨h1, h2, f46.out h3 h4, ?_⟩
          have h5 := f46.h.keep h4 hm0
          rw [upd_ne h1, upd_ne (ne_of_none h5 hp)]
          exact h5
        · rw [List.mem_singleton] at hm
          subst hm
          refine ⟨neD.symm, hp2, b6p, ?_⟩
          rw [upd_ne neD.symm, upd_same]) fun H3 ⟨Bj, f3, dj, ps, hw, hl, nd, hps⟩ =>
      q D ps Bj H3 (x2.trans f3) (x2.h.fresh hD) dj hw hl nd fun a ha => ⟨(hps a ha).1, x2.h.fresh (hps a ha).2.1, (hps a ha).2.2⟩
theorem gm_name {j : Nat} : ∀ v σ H (Q Q' : L2.St → Hp → Prop), (∀ σ H, Q σ H → Q' σ H) → gName j v σ H Q → gName j v σ H Q' := fun _ _ _ _ _ h k => h _ _ k
theorem gm_pair {K : PySem.W.Frag} {j k : Nat} : ∀ v σ H (Q Q' : L2.St → Hp → Prop), (∀ σ H, Q σ H → Q' σ H) → gTup K 2 (gCons (gName j) (gCons (gName k) gNil)) v σ H Q → gTup K 2 (gCons (gName j) (gCons (gName k) gNil)) v σ H Q' :=
  fun _ _ _ _ _ h ⟨a, xs, e, s, l, v, r, e1, w, r2, e2, e3, q⟩ => ⟨a, xs, e, s, l, v, r, e1, w, r2, e2, e3, h _ _ q⟩
abbrev BlkPG (X : Cx) (sc : Scope) (tg : Expr) (g : TG) : Prop := ∀ (s : Shared) (H : Hp) (C : Addr) (cl : List (Str × Addr)) (fp : List Addr), PG (X.blk s H sc (compEnvC sc cl C X.env) fp) tg g
/-- a list comprehension, as a value -/
theorem g_lcv {own : List (Str × Nat)} {g : TG} {sc : Scope} (hc : X.calm = true) (hN : X.N.Nodup) (ok : BlkOk X.N X.env.scope sc own) (hg : BlkPG X sc tg g)
    (h : ∀ B1 H1, Ex B B1 → Ex B1 H1 → ∀ Q : VK, Gv P B1 H1 Q → tLc (WI X tg iter) g (BWTs X sc ifs) (BW X sc elt) (own.map (·.2)) σ H1 Q) (hs : ∀ x, foldedSetIterable iter X.env x = pure x := by intro _; rfl) :
    GE X (.ListComp elt [⟨tg, iter, ifs, 0⟩] sc pos) σ B P := fun B1 H1 u i0 Q q =>
  W.of (pe_lc hc hN piW ok hg (fun s H C cl fp => ⟨fun pins s' σ H1 Q I h => h s H C cl fp pins s' I⟩) (fun s H C cl fp => ⟨fun pins s' σ H1 Q I h => h s H C cl fp pins s' I⟩) hs) (h B1 H1 u i0 Q q)
/-- what a turn of a comprehension gives: one name, two names -/
abbrev Turn1 (X : Cx) (sc : Scope) (ifs : List Expr) (elt : Expr) (σ : L2.St) (own : List (Str × Nat)) (j : Nat) (B : Hp) (ρ : R α) (xs : List α) (p : α → Bool) (τ : R β) (f : α → β) : Prop :=
  ∀ a v B1, a ∈ xs → Ex B B1 → ρ.r a v B1 → ∀ (s : Shared) (H0 : Hp) (C : Addr) (cl : List (Str × Addr)) (fp : List Addr), GTs (Blk X sc s H0 C cl fp) ifs ((wipe σ (own.map (·.2))).set j (some v)) B1 (p a) ∧ (p a = true → GE (Blk X sc s H0 C cl fp) elt ((wipe σ (own.map (·.2))).set j (some v)) B1 (τ.r (f a)))
abbrev Turn2 (X : Cx) (sc : Scope) (ifs : List Expr) (elt : Expr) (σ : L2.St) (own : List (Str × Nat)) (j k : Nat) (B : Hp) (ρ : R α) (τ : R β) (xs : List (α × β)) (p : α × β → Bool) (υ : R γ) (f : α × β → γ) : Prop :=
  ∀ x y v w B1, (x, y) ∈ xs → Ex B B1 → ρ.r x v B1 → τ.r y w B1 → ∀ (s : Shared) (H0 : Hp) (C : Addr) (cl : List (Str × Addr)) (fp : List Addr), GTs (Blk X sc s H0 C cl fp) ifs (((wipe σ (own.map (·.2))).set j (some v)).set k (some w)) B1 (p (x, y)) ∧ (p (x, y) = true → GE (Blk X sc s H0 C cl fp) elt (((wipe σ (own.map (·.2))).set j (some v)).set k (some w)) B1 (υ.r (f (x, y))))
theorem tlc1 {own : List (Str × Nat)} {j : Nat} {sc : Scope} {xs : List α} {f : α → β} {p : α → Bool} (gi : GI X tg iter σ B ρ xs) (hz : xs.length ≤ 100000) (hb : Turn1 X sc ifs elt σ own j B ρ xs p τ f)
    (hw : ∀ x, wipe ((wipe σ (own.map (·.2))).set j (some x)) (own.map (·.2)) = wipe σ (own.map (·.2))) : ∀ B1 H1, Ex B B1 → Ex B1 H1 → ∀ Q : VK, Gv ((rL τ).r ((xs.filter p).map f)) B1 H1 Q → tLc (WI X tg iter) (gName j) (BWTs X sc ifs) (BW X sc elt) (own.map (·.2)) σ H1 Q :=
  tlc_ok gi hz gm_name fun a v B1 H1 ha x _ r => ⟨hw v, rfl, hb a v B1 ha x r⟩
theorem tlc2 {own : List (Str × Nat)} {j k : Nat} {sc : Scope} {xs : List (α × β)} {f : α × β → γ} {p : α × β → Bool} (gi : GI X tg iter σ B (rP ρ τ) xs) (hz : xs.length ≤ 100000) (hb : Turn2 X sc ifs elt σ own j k B ρ τ xs p υ f)
    (hw : ∀ x y, wipe (((wipe σ (own.map (·.2))).set j (some x)).set k (some y)) (own.map (·.2)) = wipe σ (own.map (·.2))) : ∀ B1 H1, Ex B B1 → Ex B1 H1 → ∀ Q : VK, Gv ((rL υ).r ((xs.filter p).map f)) B1 H1 Q → tLc (WI X tg iter) (gTup X.K 2 (gCons (gName j) (gCons (gName k) gNil))) (BWTs X sc ifs) (BW X sc elt) (own.map (·.2)) σ H1 Q :=
  tlc_ok gi hz gm_pair fun a v B1 H1 ha x i r => g_pr i r fun vx vy rx ry => ⟨hw vx vy, rfl, hb a.1 a.2 vx vy B1 ha x rx ry⟩
/-- .. with a name as its target -/
theorem g_lc {own : List (Str × Nat)} {j : Nat} {sc : Scope} {xs : List α} (p : α → Bool) (f : α → β) (hc : X.calm = true) (hN : X.N.Nodup) (ok : BlkOk X.N X.env.scope sc own) (hg : BlkPG X sc tg (gName j)) (gi : GI X tg iter σ B ρ xs) (hz : xs.length ≤ 100000) (hb : Turn1 X sc ifs elt σ own j B ρ xs p τ f)
    (hw : ∀ x, wipe ((wipe σ (own.map (·.2))).set j (some x)) (own.map (·.2)) = wipe σ (own.map (·.2)) := by intro _; rfl) (hs : ∀ x, foldedSetIterable iter X.env x = pure x := by intro _; rfl) :
    GE X (.ListComp elt [⟨tg, iter, ifs, 0⟩] sc pos) σ B ((rL τ).r ((xs.filter p).map f)) := g_lcv hc hN ok hg (tlc1 gi hz hb hw) hs
theorem g_lc2 {own : List (Str × Nat)} {j k : Nat} {sc : Scope} {xs : List (α × β)} (p : α × β → Bool) (f : α × β → γ) (hc : X.calm = true) (hN : X.N.Nodup) (ok : BlkOk X.N X.env.scope sc own) (hg : BlkPG X sc tg (gTup X.K 2 (gCons (gName j) (gCons (gName k) gNil)))) (gi : GI X tg iter σ B (rP ρ τ) xs) (hz : xs.length ≤ 100000) (hb : Turn2 X sc ifs elt σ own j k B ρ τ xs p υ f)
    (hw : ∀ x y, wipe (((wipe σ (own.map (·.2))).set j (some x)).set k (some y)) (own.map (·.2)) = wipe σ (own.map (·.2)) := by intro _ _; rfl) (hs : ∀ x, foldedSetIterable iter X.env x = pure x := by intro _; rfl) :
    GE X (.ListComp elt [⟨tg, iter, ifs, 0⟩] sc pos) σ B ((rL υ).r ((xs.filter p).map f)) := g_lcv hc hN ok hg (tlc2 gi hz hb hw) hs
/-! ### dict comprehensions -/
theorem putK_new {kvs : List (Key × V)} {k : Key} {v : V} (h : ∀ p ∈ kvs, p.1 ≠ k) : putK kvs k v = kvs ++ [(k, v)] := by
  unfold putK
  rw [if_neg (by
    rw [List.any_eq_true]
    rintro ⟨p, hp, e⟩
    exact h p hp (of_decide_eq_true e))]
theorem tdc_ok {xs : List α} {kf : α → Nat} {f : α → β} {vs : List Nat} {g : TG} {sc : Scope} {kx vx : Expr} (gi : GI X tg iter σ B ρ xs) (hz : xs.length ≤ 100000) (hnd : (xs.map kf).Nodup)
    (hgm : ∀ v σ H (Q Q' : L2.St → Hp → Prop), (∀ σ H, Q σ H → Q' σ H) → g v σ H Q → g v σ H Q')
    (hb : ∀ a v B1 H1, a ∈ xs → Ex B B1 → Ex B1 H1 → ρ.r a v B1 → g v (wipe σ vs) H1 fun σ2 H2 => wipe σ2 vs = wipe σ vs ∧ H2 = H1 ∧ ∀ (s : Shared) (H0 : Hp) (C : Addr) (cl : List (Str × Addr)) (fp : List Addr), GE (Blk X sc s H0 C cl fp) kx σ2 B1 (rT.r [kf a]) ∧ GE (Blk X sc s H0 C cl fp) vx σ2 B1 (τ.r (f a))) :
    ∀ B1 H1, Ex B B1 → Ex B1 H1 → ∀ Q : VK, Gv ((rD τ).r (xs.map fun a => (kf a, f a))) B1 H1 Q → tDc (WI X tg iter) g (BWTs X sc []) (BW X sc kx) (BW X sc vx) vs σ H1 Q := fun B1 H1 u i0 Q q =>
  gi B1 H1 u i0 _ fun J B2 H2 G x2 hG w D hD => by
    refine ⟨fun i m H => m = xs.length - i ∧ i ≤ xs.length ∧ ∃ Bj, Fr B2 H2 Bj H ∧ Bj D = none ∧ ∃ ws, H D = some (.dK ws) ∧ Paired (fun x p => p.1 = kL x.1 ∧ τ.r x.2 p.2 Bj) ((xs.take i).map fun a => (kf a, f a)) ws,
      ⟨xs.length, by simp, Nat.zero_le _, B2, (Fr.refl x2.i).mut hD (x2.i.fresh hD), x2.i.fresh hD, [], upd_same, by simp; exact .nil⟩, ?_⟩
    rintro i m H3 ⟨rfl, hi, Bj, f3, dj, ws, hw, pr⟩
    have g3 := hG H3 (f3.b.trans f3.i)
    by_cases hlt : i < xs.length
    · refine .inr ⟨w.goes i H3 hlt g3, fun H => ∃ Bj, Fr B2 H2 Bj H ∧ Bj D = none ∧ ∃ ws, H D = some (.dK ws) ∧ Paired (fun x p => p.1 = kL x.1 ∧ τ.r x.2 p.2 Bj) ((xs.take (i + 1)).map fun a => (kf a, f a)) ws, fun H' p' => ⟨xs.length - (i + 1), by omega, rfl, hlt, p'⟩, fun v H4 y => ?_⟩
      have ha : xs[i]? = some xs[i] := List.getElem?_eq_getElem hlt
      obtain ⟨Bb, f4, ra⟩ := w.yields i H3 v H4 hlt g3 y Bj f3.b f3.i
      have rv := ra _ ha
      refine hgm v _ _ _ _ (fun σ2 H5 ⟨k1, k2, k3⟩ => ?_) (hb _ v Bb H4 (List.getElem_mem hlt) (((u.trans x2.b).trans f3.b).trans f4.b) f4.i rv)
      subst k2
      refine ⟨k1, fun s H0 C cl fp => ts_nil Bb H5 (Ex.refl Bb) f4.i _ fun B6 H6 f6 => ?_⟩
      show BW X sc kx σ2 H6 _
      intro s H0 C cl fp
      refine (k3 s H0 C cl fp).1 B6 H6 f6.b f6.i _ fun y1 B7 H7 f7 ry => ?_
      show BW X sc vx σ2 H7 _
      intro s H0 C cl fp
      refine (k3 s H0 C cl fp).2 B7 H7 (f6.b.trans f7.b) f7.i _ fun y2 B8 H8 f8 ry2 => ?_
      have f48 := ((f4.trans f6).trans f7).trans f8
      have hn : NF (.dK ws) := nf_dK (kd_allD pr).1
      have d8 : B8 D = none := f48.out dj hw
      have nk : ∀ p ∈ ws, p.1 ≠ kL (kf xs[i]) := fun p hp e => by
        have : ∀ {l : List α} {ws : List (Key × V)}, Paired (fun x p => p.1 = kL x.1 ∧ τ.r x.2 p.2 Bj) (l.map fun a => (kf a, f a)) ws → ∀ p ∈ ws, ∃ a ∈ l, p.1 = kL (kf a) := by
          intro l
          induction l with
          | nil =>
            intro ws h p hp
            cases h
            cases hp
          | cons a l ih =>
            intro ws h p hp
            cases h with
            | cons r t =>
              rcases List.mem_cons.mp hp with rfl | hp
              · exact ⟨a, List.mem_cons_self .., r.1⟩
              · obtain ⟨b, h1, h2⟩ := ih t p hp
                exact ⟨b, List.mem_cons_of_mem _ h1, h2⟩
        obtain ⟨b, h1, h2⟩ := this pr p hp
        have h3 : kf b = kf xs[i] := kL_inj (h2.symm.trans e)
        obtain ⟨j, hj, e2⟩ := List.mem_take_iff_getElem.mp h1
        have hj' : j < i := by omega
        have h5 := List.pairwise_iff_getElem.mp hnd j i (by rw [List.length_map]; omega) (by rw [List.length_map]; omega) hj'
        rw [List.getElem_map, List.getElem_map, e2] at h5
        exact h5 h3
      refine ⟨ws, kL (kf xs[i]), ry, f48.h.keep hw hn, ?_, B8, (f3.trans f48).mut hD d8, d8, ws ++ [(kL (kf xs[i]), y2)], by rw [upd_same, putK_new nk], ?_⟩
      · have := Paired.length pr
        rw [List.length_map, List.length_take] at this
        exact sz5' (by omega)
      · rw [List.take_add_one, ha, List.map_append]
        exact p_app (pmap pr fun x v r => ⟨r.1, τ.ex f48.b r.2⟩) (.cons ⟨rfl, ry2⟩ .nil)
    · have ei : i = xs.length := by omega
      subst ei
      rw [List.take_length] at pr
      refine .inl ⟨w.stops H3 g3, q _ _ H3 (x2.trans (f3.add hD dj hw)) ⟨D, ws, rfl, .inl upd_same, pmap pr fun x v r => ⟨r.1, τ.ex (Ex.new dj) r.2⟩⟩⟩
theorem g_dcv {own : List (Str × Nat)} {g : TG} {sc : Scope} {kx vx : Expr} (hc : X.calm = true) (hN : X.N.Nodup) (ok : BlkOk X.N X.env.scope sc own) (hg : BlkPG X sc tg g)
    (h : ∀ B1 H1, Ex B B1 → Ex B1 H1 → ∀ Q : VK, Gv P B1 H1 Q → tDc (WI X tg iter) g (BWTs X sc []) (BW X sc kx) (BW X sc vx) (own.map (·.2)) σ H1 Q) (hs : ∀ x, foldedSetIterable iter X.env x = pure x := by intro _; rfl) :
    GE X (.DictComp kx vx [⟨tg, iter, [], 0⟩] sc pos) σ B P := fun B1 H1 u i0 Q q =>
  W.of (pe_dc hc hN piW ok hg (fun s H C cl fp => ⟨fun pins s' σ H1 Q I h => h s H C cl fp pins s' I⟩) (fun s H C cl fp => ⟨fun pins s' σ H1 Q I h => h s H C cl fp pins s' I⟩) (fun s H C cl fp => ⟨fun pins s' σ H1 Q I h => h s H C cl fp pins s' I⟩) hs) (h B1 H1 u i0 Q q)
theorem g_dc {own : List (Str × Nat)} {j : Nat} {sc : Scope} {kx vx : Expr} {xs : List α} (kf : α → Nat) (f : α → β) (hc : X.calm = true) (hN : X.N.Nodup) (ok : BlkOk X.N X.env.scope sc own) (hg : BlkPG X sc tg (gName j)) (gi : GI X tg iter σ B ρ xs) (hz : xs.length ≤ 100000) (hnd : (xs.map kf).Nodup)
    (hb : ∀ a v B1, a ∈ xs → Ex B B1 → ρ.r a v B1 → ∀ (s : Shared) (H0 : Hp) (C : Addr) (cl : List (Str × Addr)) (fp : List Addr), GE (Blk X sc s H0 C cl fp) kx ((wipe σ (own.map (·.2))).set j (some v)) B1 (rT.r [kf a]) ∧ GE (Blk X sc s H0 C cl fp) vx ((wipe σ (own.map (·.2))).set j (some v)) B1 (τ.r (f a)))
    (hw : ∀ x, wipe ((wipe σ (own.map (·.2))).set j (some x)) (own.map (·.2)) = wipe σ (own.map (·.2)) := by intro _; rfl) (hs : ∀ x, foldedSetIterable iter X.env x = pure x := by intro _; rfl) :
    GE X (.DictComp kx vx [⟨tg, iter, [], 0⟩] sc pos) σ B ((rD τ).r (xs.map fun a => (kf a, f a))) :=
  g_dcv hc hN ok hg (tdc_ok gi hz hnd gm_name fun a v B1 H1 ha x _ r => ⟨hw v, rfl, hb a v B1 ha x r⟩) hs
theorem g_dc2 {own : List (Str × Nat)} {j k : Nat} {sc : Scope} {kx vx : Expr} {xs : List (α × β)} (kf : α × β → Nat) (f : α × β → γ) (hc : X.calm = true) (hN : X.N.Nodup) (ok : BlkOk X.N X.env.scope sc own) (hg : BlkPG X sc tg (gTup X.K 2 (gCons (gName j) (gCons (gName k) gNil)))) (gi : GI X tg iter σ B (rP ρ τ) xs) (hz : xs.length ≤ 100000) (hnd : (xs.map kf).Nodup)
    (hb : ∀ x y v w B1, (x, y) ∈ xs → Ex B B1 → ρ.r x v B1 → τ.r y w B1 → ∀ (s : Shared) (H0 : Hp) (C : Addr) (cl : List (Str × Addr)) (fp : List Addr), GE (Blk X sc s H0 C cl fp) kx (((wipe σ (own.map (·.2))).set j (some v)).set k (some w)) B1 (rT.r [kf (x, y)]) ∧ GE (Blk X sc s H0 C cl fp) vx (((wipe σ (own.map (·.2))).set j (some v)).set k (some w)) B1 (υ.r (f (x, y))))
    (hw : ∀ x y, wipe (((wipe σ (own.map (·.2))).set j (some x)).set k (some y)) (own.map (·.2)) = wipe σ (own.map (·.2)) := by intro _ _; rfl) (hs : ∀ x, foldedSetIterable iter X.env x = pure x := by intro _; rfl) :
    GE X (.DictComp kx vx [⟨tg, iter, [], 0⟩] sc pos) σ B ((rD υ).r (xs.map fun a => (kf a, f a))) :=
  g_dcv hc hN ok hg (tdc_ok gi hz hnd gm_pair fun a v B1 H1 ha x i r => g_pr i r fun vx vy rx ry => ⟨hw vx vy, rfl, hb a.1 a.2 vx vy B1 ha x rx ry⟩) hs
end
end KB
end
section
set_option Elab.async false
set_option linter.all false
set_option maxRecDepth 100000
set_option maxHeartbeats 4000000
/-! KB6: blocks. -/
namespace KB
open PySem PySem.Spec PyProof.Rows L2 KS MS
open SX (S)
section
variable {X : Cx} {e a b c tg iter elt : Expr} {es ifs : List Expr} {sts rest body : List Stmt} {st : Stmt} {σ : L2.St} {B B' H : Hp} {D : Ends} {pos px p1 p2 p3 apos cpos : Pos}
variable {α β γ : Type} {ρ : R α} {τ : R β} {υ : R γ} {x : α} {y : β} {z : γ} {P : As}
theorem wp_nil (h : D.nx σ H) : WP X [] D σ H := WP.of pss_nil h
def WS (X : Cx) (st : Stmt) : TS := fun D σ H => ∀ (pins : List (Addr × Obj)) (s : Shared), Inv X pins σ H s → wpAny (model X.prog X.w) X.A (exec st X.env) (SP X pins D) X.xe s
theorem psW : PS X st (WS X st) := ⟨fun pins s _ _ _ I h => h pins s I⟩
theorem WS.of {t : TS} (h : PS X st t) (q : t D σ H) : WS X st D σ H := fun pins s I => h.run pins s σ H D I q
theorem WP.cons {t : TS} (h : PS X st t) (q : t { D with nx := WP X rest D } σ H) : WP X (st :: rest) D σ H := WP.of (pss_cons h pssW) q
/-- the part B of H; what comes is told from there -/
abbrev K1 (B H : Hp) (P : As) (k : V → Hp → Hp → Prop) : Prop := ∀ v B1 H1, Fr B H B1 H1 → P v B1 → k v B1 H1
theorem wp_ret (i : Ex B H) (h : GE X e σ B P) (k : ∀ v B1 H1, Fr B H B1 H1 → P v B1 → D.rt v H1) : WP X (.Return (some e) pos :: rest) D σ H := WP.cons (ps_ret peW) (h B H (Ex.refl B) i _ fun v B1 H1 f r => k v B1 H1 f r)
/-- name = e -/
theorem wp_set (j : Nat) {n : Str} (i : Ex B H) (h : GE X e σ B P) (k : ∀ v B1 H1, Fr B H B1 H1 → P v B1 → WP X rest D (σ.set j (some v)) H1) (hN : X.N.Nodup) (hi : X.N[j]? = some n := by rfl) (hx : Loc X.env.scope n := by first | exact Or.inl rfl | exact Or.inr rfl) (hs : swapsWith e (some (.Name n p1)) pos.line X.env = pure false := by rfl) (hf : X.fn n = true ∨ X.env.scope.names.lookup n = some .local := by first | exact Or.inl rfl | exact Or.inr rfl) :
    WP X (.Assign [.Name n p1] e pos :: rest) D σ H := WP.cons (ps_set hN hi hx peW hs hf) (h B H (Ex.refl B) i _ fun v B1 H1 f r => k v B1 H1 f r)
/-- name = e by any reading -/
theorem wp_setW (j : Nat) {n : Str} {A : V → Hp → Prop} (h : ∀ Q : VK, (∀ v H1, A v H1 → Q v H1) → W X e σ H Q) (k : ∀ v H1, A v H1 → WP X rest D (σ.set j (some v)) H1) (hN : X.N.Nodup) (hi : X.N[j]? = some n := by rfl) (hx : Loc X.env.scope n := by first | exact Or.inl rfl | exact Or.inr rfl) (hs : swapsWith e (some (.Name n p1)) pos.line X.env = pure false := by rfl) (hf : X.fn n = true ∨ X.env.scope.names.lookup n = some .local := by first | exact Or.inl rfl | exact Or.inr rfl) :
    WP X (.Assign [.Name n p1] e pos :: rest) D σ H := WP.cons (ps_set hN hi hx peW hs hf) (h _ fun v H1 r => k v H1 r)
/-- name = [], a new list that is going to be changed -/
theorem wp_setN (j : Nat) {n : Str} (k : ∀ p, H p = none → WP X rest D (σ.set j (some (.ref p))) (upd H p (.lst []))) (hN : X.N.Nodup) (hi : X.N[j]? = some n := by rfl) (hx : Loc X.env.scope n := by first | exact Or.inl rfl | exact Or.inr rfl) (hs : swapsWith (.List [] p2) (some (.Name n p1)) pos.line X.env = pure false := by rfl) (hf : X.fn n = true ∨ X.env.scope.names.lookup n = some .local := by first | exact Or.inl rfl | exact Or.inr rfl) :
    WP X (.Assign [.Name n p1] (.List [] p2) pos :: rest) D σ H := WP.cons (ps_set hN hi hx peW hs hf) (g_newL (X := X) (σ := σ) H (fun v H1 => WP X rest D (σ.set j (some v)) H1) k)
theorem wp_setD (j : Nat) {n : Str} (k : ∀ p, H p = none → WP X rest D (σ.set j (some (.ref p))) (upd H p (.dK []))) (hN : X.N.Nodup) (hi : X.N[j]? = some n := by rfl) (hx : Loc X.env.scope n := by first | exact Or.inl rfl | exact Or.inr rfl) (hs : swapsWith (.Dict [] [] p2) (some (.Name n p1)) pos.line X.env = pure false := by rfl) (hf : X.fn n = true ∨ X.env.scope.names.lookup n = some .local := by first | exact Or.inl rfl | exact Or.inr rfl) :
    WP X (.Assign [.Name n p1] (.Dict [] [] p2) pos :: rest) D σ H := WP.cons (ps_set hN hi hx pe_dnewK hs hf) (fun p hp => k p hp)
/-- name = [..], the name a local -/
theorem wp_setLc (j : Nat) {n : Str} {own : List (Str × Nat)} {g : TG} {sc : Scope} {A : V → Hp → Prop} (h : ∀ Q : VK, (∀ v H1, A v H1 → Q v H1) → tLc (WI X tg iter) g (BWTs X sc ifs) (BW X sc elt) (own.map (·.2)) σ H Q) (k : ∀ v H1, A v H1 → WP X rest D (σ.set j (some v)) H1) (hc : X.calm = true) (hN : X.N.Nodup) (ok : BlkOk X.N X.env.scope sc own) (hg : BlkPG X sc tg g)
    (hsw : swapsWith (.ListComp elt [⟨tg, iter, ifs, 0⟩] sc p2) (some (.Name n p1)) pos.line X.env = pure true) (hi : X.N[j]? = some n := by rfl) (hx : X.env.scope.names.lookup n = some .local := by rfl) (hs : ∀ x, foldedSetIterable iter X.env x = pure x := by intro _; rfl) :
    WP X (.Assign [.Name n p1] (.ListComp elt [⟨tg, iter, ifs, 0⟩] sc p2) pos :: rest) D σ H :=
  WP.cons (ps_setLc hc hN hi hx hsw piW ok hg (fun s H C cl fp => ⟨fun pins s' σ H1 Q I h => h s H C cl fp pins s' I⟩) (fun s H C cl fp => ⟨fun pins s' σ H1 Q I h => h s H C cl fp pins s' I⟩) hs) (h _ fun v H1 r => k v H1 r)
/-- a, b = e -/
theorem wp_pair (i j : Nat) {n m : Str} {kk : Nat} (ih : Ex B H) (h : GE X e σ B ((rP ρ τ).r (x, y))) (k : ∀ v w B1 H1, Fr B H B1 H1 → ρ.r x v B1 → τ.r y w B1 → WP X rest D ((σ.set i (some v)).set j (some w)) H1) (hc : X.calm = true) (hN : X.N.Nodup) (hi : X.N[i]? = some n := by rfl) (hj : X.N[j]? = some m := by rfl) (hx : Loc X.env.scope n := by first | exact Or.inl rfl | exact Or.inr rfl) (hy : Loc X.env.scope m := by first | exact Or.inl rfl | exact Or.inr rfl)
    (hs : swapsWithSole [.Tuple [.Name n p1, .Name m p2] kk p3] e pos.line X.env = pure false := by rfl) (hw : swappedStores [.Tuple [.Name n p1, .Name m p2] kk p3] e X.env = pure none := by rfl) (h1 : (assignEach [.Tuple [.Name n p1, .Name m p2] kk p3] X.env).map (·.2) = [assign (.Tuple [.Name n p1, .Name m p2] kk p3) X.env] := by rfl)
    (hf : X.fn n = true ∨ X.env.scope.names.lookup n = some .local := by first | exact Or.inl rfl | exact Or.inr rfl) (hf2 : X.fn m = true ∨ X.env.scope.names.lookup m = some .local := by first | exact Or.inl rfl | exact Or.inr rfl)
    (hn : (assignEach [.Name n p1, .Name m p2] X.env).length = 2 := by rfl) (hst : (assignEach [.Name n p1, .Name m p2] X.env).findIdx? (·.1) = none := by rfl)
    (hss : (assignEach ([.Name n p1, .Name m p2]) X.env).map (·.2) = assign (.Name n p1) X.env :: (assignEach [.Name m p2] X.env).map (·.2) := by rfl) (hss2 : (assignEach ([.Name m p2]) X.env).map (·.2) = assign (.Name m p2) X.env :: (assignEach [] X.env).map (·.2) := by rfl) :
    WP X (.Assign [.Tuple [.Name n p1, .Name m p2] kk p3] e pos :: rest) D σ H :=
  WP.cons (ps_asg peW (pg_tup hc (pgs_cons (pg_name hN hi hx hf) (pgs_cons (pg_name hN hj hy hf2) pgs_nil hss2) hss) hn hst) hs hw h1) (h B H (Ex.refl B) ih _ fun v B1 H1 u r => g_pr u.i r fun vx vy rx ry => k vx vy B1 H1 u rx ry)
/-- a, b = x, y, both names local -/
theorem wp_par (i j : Nat) {n m : Str} {kk k2 : Nat} {pt : Pos} (ih : Ex B H) (ha : GE X a σ B (ρ.r x)) (hb : GE X b σ B (τ.r y)) (k : ∀ v w B1 H1, Fr B H B1 H1 → ρ.r x v B1 → τ.r y w B1 → WP X rest D ((σ.set i (some v)).set j (some w)) H1) (hc : X.calm = true) (hN : X.N.Nodup) (hij : i ≠ j := by decide) (hi : X.N[i]? = some n := by rfl) (hj : X.N[j]? = some m := by rfl) (hx : X.env.scope.names.lookup n = some .local := by rfl) (hy : X.env.scope.names.lookup m = some .local := by rfl)
    (hw : swappedStores [.Tuple [.Name n p1, .Name m p2] kk p3] (.Tuple [a, b] k2 pt) X.env = pure (some [n, m]) := by rfl) (hs : swapsWithSole [.Tuple [.Name n p1, .Name m p2] kk p3] (.Tuple [a, b] k2 pt) pos.line X.env = pure false := by rfl)
    (hs1 : starEach [a, b] X.env = (false, eval a X.env) :: starEach [b] X.env := by rfl) (hs2 : starEach [b] X.env = (false, eval b X.env) :: starEach [] X.env := by rfl) :
    WP X (.Assign [.Tuple [.Name n p1, .Name m p2] kk p3] (.Tuple [a, b] k2 pt) pos :: rest) D σ H :=
  WP.cons (ps_par hc hN hi hj hij hx hy paW hw hs) (ga2 ha hb hs1 hs2 B H (Ex.refl B) ih _ fun vs B1 H1 u ⟨v, w, e1, r1, r2⟩ => ⟨v, w, e1, k v w B1 H1 u r1 r2⟩)
theorem wp_if {k : Bool} (i : Ex B H) (h : GT X c σ B k) (h1 : k = true → ∀ B1 H1, Fr B H B1 H1 → WP X body { D with nx := WP X rest D } σ H1) (h2 : k = false → ∀ B1 H1, Fr B H B1 H1 → WP X sts { D with nx := WP X rest D } σ H1) : WP X (.If c body sts pos :: rest) D σ H :=
  WP.cons (ps_if ptW pssW pssW) (h B H (Ex.refl B) i _ fun B1 H1 u => by
    cases k with
    | true => exact h1 rfl B1 H1 u
    | false => exact h2 rfl B1 H1 u)
theorem wp_expr (i : Ex B H) (h : GE X e σ B P) (k : ∀ v B1 H1, Fr B H B1 H1 → P v B1 → WP X rest D σ H1) (hs : swapsWith e none pos.line X.env = pure false := by rfl) : WP X (.Expr e pos :: rest) D σ H := WP.cons (ps_expr peW hs) (h B H (Ex.refl B) i _ fun v B1 H1 x r => k v B1 H1 x r)
/-- name += e -/
theorem wp_augI (j : Nat) {n : Str} {u w : Int} (i : Ex B H) (hv : σ[j]? = some (some (.int u))) (h : GE X e σ B (rI.r w)) (k : ∀ B1 H1, Fr B H B1 H1 → WP X rest D (σ.set j (some (.int (u + w)))) H1) (hN : X.N.Nodup) (hi : X.N[j]? = some n := by rfl) (hx : Loc X.env.scope n := by first | exact Or.inl rfl | exact Or.inr rfl) (hf : X.fn n = true ∨ X.env.scope.names.lookup n = some .local := by first | exact Or.inl rfl | exact Or.inr rfl) :
    WP X (.AugAssign (.Name n p1) .Add e pos :: rest) D σ H := WP.cons (ps_aug hN hi hx peW ip_add hf) ⟨_, hv, h B H (Ex.refl B) i _ fun v B1 H1 x r => ⟨u, w, rfl, r, k B1 H1 x⟩⟩
/-! ### lists that change -/
/-- o.append(e) -/
theorem wp_app {p : Addr} {xs : List V} (i : Ex B H) (ho : GE X a σ B (rV.r (.ref p))) (he : GE X e σ B P) (hp : H p = some (.lst xs)) (hz : xs.length < 100000) (k : ∀ w B2 H2, Fr B H B2 H2 → P w B2 → H2 p = some (.lst xs) → WP X rest D σ (upd H2 p (.lst (xs ++ [w])))) (hss : swapsWith (.Call (.Attribute a "append" apos) [e] [] cpos) none pos.line X.env = pure false := by rfl) (hbase : attributeBase a "append" X.env (eval a X.env) = eval a X.env := by rfl)
    (hfew : ((backTo cpos (starEach [e] X.env)).all (fun x => !x.1) && (backToKw cpos (keywordEach [] X.env)).all (fun x => x.1.isSome) && decide (([e] : List Expr).length + ([] : List Keyword).length + (if ([] : List Keyword).isEmpty then 0 else 1) < 30)) = true := by rfl)
    (hline : (apos.endLine == cpos.line) = true := by rfl) (hs : starEach [e] X.env = (false, eval e X.env) :: starEach [] X.env := by rfl) (hpl : (backTo cpos (starEach [] X.env)).any (·.1) = false := by rfl) :
    WP X (.Expr (.Call (.Attribute a "append" apos) [e] [] cpos) pos :: rest) D σ H := WP.cons (ps_expr peW hss)
  (W.of (pe_bm PySem.F.plainAttrs_list PySem.F.slot_list_append PySem.F.type_list_append mt_append peW (pa_cons peW pa_nil hs) hbase hfew hline hs hpl) (ho B H (Ex.refl B) i _ fun v B1 H1 x1 r => ⟨by cases r; exact .inl ⟨rfl, _, .inl (.inl (x1.h.lst hp))⟩, he B1 H1 x1.b x1.i _ fun w B2 H2 x2 r2 => ⟨p, xs, w, r, rfl, (x1.trans x2).h.lst hp, sz5' hz, k w B2 H2 (x1.trans x2) r2 ((x1.trans x2).h.lst hp)⟩⟩))
/-- o.extend(e) -/
theorem wp_ext {p : Addr} {xs : List V} {ys : List α} (i : Ex B H) (ho : GE X a σ B (rV.r (.ref p))) (he : GE X e σ B ((rL ρ).r ys)) (hp : H p = some (.lst xs)) (hz : xs.length + ys.length ≤ 100000) (k : ∀ ws B2 H2, Fr B H B2 H2 → Paired (fun x v => ρ.r x v B2) ys ws → H2 p = some (.lst xs) → WP X rest D σ (upd H2 p (.lst (xs ++ ws)))) (hss : swapsWith (.Call (.Attribute a "extend" apos) [e] [] cpos) none pos.line X.env = pure false := by rfl) (hbase : attributeBase a "extend" X.env (eval a X.env) = eval a X.env := by rfl)
    (hfew : ((backTo cpos (starEach [e] X.env)).all (fun x => !x.1) && (backToKw cpos (keywordEach [] X.env)).all (fun x => x.1.isSome) && decide (([e] : List Expr).length + ([] : List Keyword).length + (if ([] : List Keyword).isEmpty then 0 else 1) < 30)) = true := by rfl)
    (hline : (apos.endLine == cpos.line) = true := by rfl) (hs : starEach [e] X.env = (false, eval e X.env) :: starEach [] X.env := by rfl) (hpl : (backTo cpos (starEach [] X.env)).any (·.1) = false := by rfl) :
    WP X (.Expr (.Call (.Attribute a "extend" apos) [e] [] cpos) pos :: rest) D σ H := WP.cons (ps_expr peW hss)
  (W.of (pe_bm PySem.F.plainAttrs_list PySem.F.slot_list_extend PySem.F.type_list_extend mt_extend peW (pa_cons peW pa_nil hs) hbase hfew hline hs hpl) (ho B H (Ex.refl B) i _ fun v B1 H1 x1 r => ⟨by cases r; exact .inl ⟨rfl, _, .inl (.inl (x1.h.lst hp))⟩, he B1 H1 x1.b x1.i _ fun w B2 H2 x2 ⟨q, ws, e1, h1, pr⟩ =>
    ⟨p, q, xs, ws, r, by rw [e1], (x1.trans x2).h.lst hp, x2.i.lst h1, by rw [← Paired.length pr]; exact sz5 hz, k ws B2 H2 (x1.trans x2) pr ((x1.trans x2).h.lst hp)⟩⟩))
/-- o[i] = e, o a list -/
theorem wp_setix {p : Addr} {xs : List V} {n : Nat} (i : Ex B H) (he : GE X e σ B (ρ.r x)) (ho : GE X a σ B (rV.r (.ref p))) (hb : GE X b σ B (rI.r (n : Int))) (hp : H p = some (.lst xs)) (hi : n < xs.length) (k : ∀ w B2 H2, Fr B H B2 H2 → ρ.r x w B2 → H2 p = some (.lst xs) → WP X rest D σ (upd H2 p (.lst (xs.set n w))))
    (hs : swapsWithSole [.Subscript a b p1] e pos.line X.env = pure false := by rfl) (hw : swappedStores [.Subscript a b p1] e X.env = pure none := by rfl) (h1 : (assignEach [.Subscript a b p1] X.env).map (·.2) = [assign (.Subscript a b p1) X.env] := by rfl)
    (hA : ∀ v, assign (.Subscript a b p1) X.env v = (do
      let ov ← holding [v] (eval a X.env)
      let iv ← holding [v, ov] (eval b X.env)
      standAt p1
      holding [v, ov, iv] (setItem ov iv v)
      release [v, ov, iv] []) := by intro _; rfl) : WP X (.Assign [.Subscript a b p1] e pos :: rest) D σ H :=
  WP.cons (ps_asg peW (pg_sub peW peW set_list hA) hs hw h1) (he B H (Ex.refl B) i _ fun w B1 H1 x1 r1 => ho B1 H1 x1.b x1.i _ fun v B2 H2 x2 r2 => hb B2 H2 (x1.trans x2).b x2.i _ fun u B3 H3 x3 r3 =>
    ⟨p, xs, n, n, r2, r3, ((x1.trans x2).trans x3).h.lst hp, Evl.ixN_nat hi, k w B3 H3 ((x1.trans x2).trans x3) (ρ.ex (x2.trans x3).b r1) (((x1.trans x2).trans x3).h.lst hp)⟩)
/-- o[i] = e, o a dict -/
theorem wp_dput {p : Addr} {kvs : List (Key × V)} {kk : Key} (hu : X.A.units + 1 < cLine) (i : Ex B H) (he : GE X e σ B (ρ.r x)) (ho : GE X a σ B (rV.r (.ref p))) (hb : GE X b σ B (rV.r (kV kk))) (hp : H p = some (.dK kvs)) (hn : NF (.dK kvs)) (hz : kvs.length < 100000) (k : ∀ w B2 H2, Fr B H B2 H2 → ρ.r x w B2 → H2 p = some (.dK kvs) → WP X rest D σ (upd H2 p (.dK (putK kvs kk w))))
    (hs : swapsWith e (some (.Subscript a b p1)) pos.line X.env = pure false := by rfl) : WP X (.Assign [.Subscript a b p1] e pos :: rest) D σ H :=
  WP.cons (ps_dput hu peW peW peW hs) (he B H (Ex.refl B) i _ fun w B1 H1 x1 r1 => ho B1 H1 x1.b x1.i _ fun v B2 H2 x2 r2 => hb B2 H2 (x1.trans x2).b x2.i _ fun u B3 H3 x3 r3 =>
    ⟨p, _, r2, .inl ⟨kvs, kk, ((x1.trans x2).trans x3).h.keep hp hn, r3, sz5' hz, rfl⟩, k w B3 H3 ((x1.trans x2).trans x3) (ρ.ex (x2.trans x3).b r1) (((x1.trans x2).trans x3).h.keep hp hn)⟩)
/-! ### loops -/
/-- J: by the items done, the slots, the part, the heap -/
theorem ws_for {g : TG} {xs : List α} (J : List α → L2.St → Hp → Hp → Prop) (i : Ex B H) (gi : GI X tg iter σ B ρ xs) (hg : PG X tg g) (h0 : ∀ B1 H1, Fr B H B1 H1 → J [] σ B1 H1)
    (hs : ∀ pre a post v σ' Bj H1 Bb H2, xs = pre ++ a :: post → Ex B Bj → Ex Bj H1 → J pre σ' Bj H1 → Fr Bj H1 Bb H2 → ρ.r a v Bb → g v σ' H2 fun σ2 H3 => WP X body { D with nx := fun σ H => ∃ B3, Ex Bb B3 ∧ Ex B3 H ∧ J (pre ++ [a]) σ B3 H, ct := fun σ H => ∃ B3, Ex Bb B3 ∧ Ex B3 H ∧ J (pre ++ [a]) σ B3 H, bk := D.nx } σ2 H3)
    (hd : ∀ σ' B1 H1, Ex B B1 → Ex B1 H1 → J xs σ' B1 H1 → D.nx σ' H1) (hc : X.calm = true) (hp : PassesOwn (model X.prog X.w) X.A X.env X.xe := by exact PassesOwn.never) (hf : ∀ x, foldedSetIterable iter X.env x = pure x := by intro _; rfl)
    (hgm : ∀ v σ H (Q Q' : L2.St → Hp → Prop), (∀ σ H, Q σ H → Q' σ H) → g v σ H Q → g v σ H Q') : WS X (.For tg iter body [] pos) D σ H :=
  WS.of (ps_for hp hc piW hg pssW hf) (gi B H (Ex.refl B) i _ fun Jt B2 H2 G x2 hG w => for_it w (fun n σ' H' => ∃ Bj, Ex B2 Bj ∧ Ex Bj H' ∧ J (xs.take n) σ' Bj H')
    ⟨B2, Ex.refl B2, x2.i, by rw [List.take_zero]; exact h0 B2 H2 x2⟩ (fun n σ' H' _ ⟨Bj, x3, x4, _⟩ => hG H' (x3.trans x4)) (fun n v σ' H3 H4 hn ⟨Bj, x3, x4, j⟩ hy => by
      obtain ⟨Bb, f4, ra⟩ := hy Bj x3 x4
      have ha : xs[n]? = some xs[n] := List.getElem?_eq_getElem hn
      have sp : xs = xs.take n ++ xs[n] :: xs.drop (n + 1) := by rw [← List.drop_eq_getElem_cons hn, List.take_append_drop]
      have st : xs.take (n + 1) = xs.take n ++ [xs[n]] := by rw [List.take_add_one, ha]; rfl
      refine hgm v σ' H4 _ _ (fun σ2 H5 h => ?_) (hs _ _ _ v σ' Bj H3 Bb H4 sp (x2.b.trans x3) x4 j f4 (ra _ ha))
      rw [st]
      refine fun pins s I => thn (h pins s I) fun f s1 q => ?_
      cases f with
      | next =>
        obtain ⟨σ7, H7, I7, B7, y1, y2, y3⟩ := q
        exact ⟨σ7, H7, I7, B7, (x3.trans f4.b).trans y1, y2, y3⟩
      | cont =>
        obtain ⟨σ7, H7, I7, B7, y1, y2, y3⟩ := q
        exact ⟨σ7, H7, I7, B7, (x3.trans f4.b).trans y1, y2, y3⟩
      | brk => exact q
      | ret v => exact q) (fun σ' H' ⟨Bj, x3, x4, j⟩ => hd σ' Bj H' (x2.b.trans x3) x4 (by rw [List.take_length] at j; exact j)))
/-- J: by the items done, the slots, the part, the heap -/
theorem wp_for {g : TG} {xs : List α} (J : List α → L2.St → Hp → Hp → Prop) (i : Ex B H) (gi : GI X tg iter σ B ρ xs) (hg : PG X tg g) (h0 : ∀ B1 H1, Fr B H B1 H1 → J [] σ B1 H1)
    (hs : ∀ pre a post v σ' Bj H1 Bb H2, xs = pre ++ a :: post → Ex B Bj → Ex Bj H1 → J pre σ' Bj H1 → Fr Bj H1 Bb H2 → ρ.r a v Bb → g v σ' H2 fun σ2 H3 => WP X body { D with nx := fun σ H => ∃ B3, Ex Bb B3 ∧ Ex B3 H ∧ J (pre ++ [a]) σ B3 H, ct := fun σ H => ∃ B3, Ex Bb B3 ∧ Ex B3 H ∧ J (pre ++ [a]) σ B3 H, bk := WP X rest D } σ2 H3)
    (hd : ∀ σ' B1 H1, Ex B B1 → Ex B1 H1 → J xs σ' B1 H1 → WP X rest D σ' H1) (hc : X.calm = true) (hp : PassesOwn (model X.prog X.w) X.A X.env X.xe := by exact PassesOwn.never) (hf : ∀ x, foldedSetIterable iter X.env x = pure x := by intro _; rfl)
    (hgm : ∀ v σ H (Q Q' : L2.St → Hp → Prop), (∀ σ H, Q σ H → Q' σ H) → g v σ H Q → g v σ H Q') : WP X (.For tg iter body [] pos :: rest) D σ H :=
  WP.cons psW (ws_for (D := { D with nx := WP X rest D }) J i gi hg h0 hs hd hc hp hf hgm)
/-! ### dicts that are walked -/
/-- H2 is H with the dict at d locked -/
structure Lk (d : Addr) (kvs : List (Key × V)) (o : Obj) (H H2 : Hp) : Prop where
  at2 : H2 d = some (.frz o (.dK kvs))
  is : H2 = H ∨ (H2 = upd H d (.frz o (.dK kvs)) ∧ H d = some (.dK kvs))
theorem Lk.r {d : Addr} {kvs : List (Key × V)} {o : Obj} {H H2 : Hp} (L : Lk d kvs o H H2) (hn : NF (.dK kvs)) (ρ : R α) {x : α} {v : V} (h : ρ.r x v H) : ρ.r x v H2 := by
  rcases L.is with e | ⟨e, h1⟩
  · rw [e]; exact h
  · rw [e]; exact ρ.lock h1 hn h
theorem nf_ne {o : HO} {c : Addr} (h : NF o) (f : Fd c o) : False := h c f
/-- the walk goes on locked; what it gives holds when it is unlocked -/
theorem g_lock {δ : Type} {ω : R δ} {kv : List (Nat × δ)} {v : V} (hd : (rD ω).r kv v B)
    (body : ∀ d kvs o B2, v = .ref d → B2 d = some (.frz o (.dK kvs)) → Paired (fun x p => p.1 = kL x.1 ∧ ω.r x.2 p.2 B2) kv kvs → (∀ {α : Type} (ρ : R α) {x : α} {v : V}, ρ.r x v B → ρ.r x v B2) → GE X e σ B2 (ρ.r x)) : GE X e σ B (ρ.r x) := fun B1 H1 u i0 Q q => by
  obtain ⟨d, kvs, e1, h1, pr⟩ := (rD ω).ex u hd
  have hn : NF (.dK kvs) := nf_dK (kd_allD pr).1
  rcases h1 with h1 | ⟨o, h1⟩
  · refine W.of (pe_lock peW) ⟨d, .dK kvs, i0.keep h1 hn, trivial, fun od => ?_⟩
    have lk : ∀ {α : Type} (ρ : R α) {x : α} {v : V}, ρ.r x v B → ρ.r x v (upd B1 d (.frz od (.dK kvs))) := fun {_} ρ {x v} r => ρ.lock h1 hn (ρ.ex u r)
    refine body d kvs od (upd B1 d (.frz od (.dK kvs))) e1 upd_same (pmap pr fun x p r => ⟨r.1, ω.lock h1 hn r.2⟩) lk _ (upd H1 d (.frz od (.dK kvs))) (Ex.refl _) (ex_upd2 i0) _ fun w B3 H3 f3 rw' => ?_
    have g1 : B3 d = some (.frz od (.dK kvs)) := f3.b.keep upd_same nf_frz
    have g2 : H3 d = some (.frz od (.dK kvs)) := f3.h.keep upd_same nf_frz
    refine ⟨g2, q w (upd B3 d (.dK kvs)) _ ⟨?_, ?_, ex_upd2 f3.i, ?_⟩ (ρ.unlock g1 rw')⟩
    · intro a o' ha
      by_cases e : a = d
      · subst e
        rw [i0.keep h1 hn] at ha
        cases ha
        exact ⟨_, upd_same, .inl rfl⟩
      · obtain ⟨o2, k1, k2⟩ := f3.h a o' (by rw [upd_ne e]; exact ha)
        exact ⟨o2, by rw [upd_ne e]; exact k1, k2⟩
    · intro a o' ha
      by_cases e : a = d
      · subst e
        rw [h1] at ha
        cases ha
        exact ⟨_, upd_same, .inl rfl⟩
      · obtain ⟨o2, k1, k2⟩ := f3.b a o' (by rw [upd_ne e]; exact ha)
        exact ⟨o2, by rw [upd_ne e]; exact k1, k2⟩
    · intro a ha
      by_cases e : a = d
      · subst e
        exact .inl (by rw [h1]; exact fun z => nomatch z)
      · rw [upd_ne e] at ha
        rcases f3.f a ha with z | z
        · rw [upd_ne e] at z
          exact .inl z
        · rw [upd_ne e] at z
          exact .inr z
  · exact body d kvs o B1 e1 h1 pr (fun {_} ρ {x v} r => ρ.ex u r) B1 H1 (Ex.refl _) i0 Q q
/-- locking and unlocking, told of any heap -/
structure Lck (d : Addr) (kvs : List (Key × V)) (o : Obj) (H : Hp) (L U : Hp → Hp) : Prop where
  lm : ∀ {A A'}, Ex A A' → Ex (L A) (L A')
  um : ∀ {A A'}, Ex A A' → Ex (U A) (U A')
  ln : ∀ {A a}, L A a = none ↔ A a = none
  un : ∀ {A a}, U A a = none ↔ A a = none
  lo : ∀ {A a}, a ≠ d → L A a = A a
  uo : ∀ {A a}, a ≠ d → U A a = A a
  lr : ∀ {α : Type} (ρ : R α) {x : α} {v : V} {A}, ρ.r x v A → ρ.r x v (L A)
  ur : ∀ {α : Type} (ρ : R α) {x : α} {v : V} {A}, ρ.r x v A → ρ.r x v (U A)
  ul : ∀ {A}, Ex A H → U (L A) = A
  at' : ∀ {A}, Rd A d (.dK kvs) → Ex A H → L A d = some (.frz o (.dK kvs))
open Classical in
noncomputable def swp (d : Addr) (x y : HO) (A : Hp) : Hp := if A d = some x then upd A d y else A
theorem swp_yes {d : Addr} {x y : HO} {A : Hp} (h : A d = some x) : swp d x y A = upd A d y := by unfold swp; rw [if_pos h]
theorem swp_no {d : Addr} {x y : HO} {A : Hp} (h : A d ≠ some x) : swp d x y A = A := by unfold swp; rw [if_neg h]
theorem swp_ex {d : Addr} {x y : HO} {A A' : Hp} (hx : NF x) (e : Ex A A') : Ex (swp d x y A) (swp d x y A') := by
  by_cases h : A d = some x
  · rw [swp_yes h, swp_yes (e.keep h hx)]
    exact ex_upd2 e
  · rw [swp_no h]
    by_cases h' : A' d = some x
    · rw [swp_yes h']
      intro a o ha
      by_cases ea : a = d
      · subst ea
        obtain ⟨o', k1, k2⟩ := e a o ha
        rw [h'] at k1
        cases k1
        rcases k2 with k2 | ⟨c, k2, k3⟩
        · rw [k2] at h
          exact absurd ha h
        · exact absurd k3 (hx c)
      · rw [upd_ne ea]
        exact e a o ha
    · rw [swp_no h']
      exact e
theorem swp_none {d a : Addr} {x y : HO} {A : Hp} : swp d x y A a = none ↔ A a = none := by
  by_cases h : A d = some x
  · rw [swp_yes h]
    by_cases e : a = d
    · subst e
      rw [upd_same, h]
      exact ⟨fun z => (nomatch z), fun z => nomatch z⟩
    · rw [upd_ne e]
  · rw [swp_no h]
theorem swp_o {d a : Addr} {x y : HO} {A : Hp} (e : a ≠ d) : swp d x y A a = A a := by
  by_cases h : A d = some x
  · rw [swp_yes h, upd_ne e]
  · rw [swp_no h]
/-- .. a statement -/
theorem wp_lock {δ : Type} {ω : R δ} {kv : List (Nat × δ)} {v : V} (i : Ex B H) (hd : (rD ω).r kv v B)
    (body : ∀ d kvs o (L U : Hp → Hp) (D2 : Ends), Lck d kvs o H L U → v = .ref d → Rd B d (.dK kvs) → Paired (fun x p => p.1 = kL x.1 ∧ ω.r x.2 p.2 B) kv kvs → (∀ σ' H3, H3 d = some (.frz o (.dK kvs)) → WP X rest D σ' (U H3) → D2.nx σ' H3) → WS X st D2 σ (L H)) : WP X (st :: rest) D σ H := by
  obtain ⟨d, kvs, e1, h1, pr⟩ := hd
  have hn : NF (.dK kvs) := nf_dK (kd_allD pr).1
  have h1' := h1
  rcases h1 with h1 | ⟨o, h1⟩
  · refine WP.cons (ps_lock psW) ⟨d, .dK kvs, i.keep h1 hn, trivial, fun od => ?_⟩
    rw [← swp_yes (y := .frz od (.dK kvs)) (i.keep h1 hn)]
    refine body d kvs od (swp d (.dK kvs) (.frz od (.dK kvs))) (swp d (.frz od (.dK kvs)) (.dK kvs)) _ ⟨swp_ex hn, swp_ex nf_frz, swp_none, swp_none, swp_o, swp_o, fun {_} ρ {x v A} r => ?_, fun {_} ρ {x v A} r => ?_, fun {A} e => ?_, fun {A} r e => ?_⟩ e1 h1' pr (fun σ' H3 g q => ⟨g, by rw [swp_yes g] at q; exact q⟩)
    · by_cases h : A d = some (.dK kvs)
      · rw [swp_yes h]; exact ρ.lock h hn r
      · rw [swp_no h]; exact r
    · by_cases h : A d = some (.frz od (.dK kvs))
      · rw [swp_yes h]; exact ρ.unlock h r
      · rw [swp_no h]; exact r
    · have nf : A d ≠ some (.frz od (.dK kvs)) := fun z => by
        have := e.keep z nf_frz
        rw [i.keep h1 hn] at this
        cases this
      by_cases h : A d = some (.dK kvs)
      · rw [swp_yes h, swp_yes upd_same, upd_upd]
        funext b
        by_cases eb : b = d
        · subst eb
          rw [upd_same, h]
        · rw [upd_ne eb]
      · rw [swp_no h, swp_no nf]
    · rcases r with r | ⟨o', r⟩
      · rw [swp_yes r, upd_same]
      · have := e.keep r nf_frz
        rw [i.keep h1 hn] at this
        cases this
  · have g := i.keep h1 nf_frz
    refine WP.cons psW (body d kvs o id id { D with nx := WP X rest D } ⟨fun e => e, fun e => e, Iff.rfl, Iff.rfl, fun _ => rfl, fun _ => rfl, fun {_} _ {_ _ _} r => r, fun {_} _ {_ _ _} r => r, fun _ => rfl, fun {A} r e => ?_⟩ e1 h1' pr (fun σ' H3 _ q => q))
    rcases r with r | ⟨o', r⟩
    · have := e.keep r hn
      rw [g] at this
      cases this
    · have := e.keep r nf_frz
      rw [g] at this
      cases this
      exact r
end
end KB
end
section
set_option Elab.async false
set_option linter.all false
set_option maxRecDepth 100000
set_option maxHeartbeats 4000000
/-! KB7: more rules. -/
namespace KB
open PySem PySem.Spec PyProof.Rows L2 KS MS
open SX (S)
theorem fold_rep (c : Nat) : ∀ (m : Nat) (a : Array Nat), (List.replicate m (#[c] : Array Nat)).foldl (· ++ ·) a = a ++ (List.replicate m c).toArray
  | 0, a => by simp
  | m + 1, a => by
    rw [List.replicate_succ, List.foldl_cons, fold_rep c m, List.replicate_succ]
    apply Array.ext'
    simp
theorem mul_S (c n : Nat) : Txt.mul (S [c]) (n : Int) = S (List.replicate n c) := by
  unfold Txt.mul
  by_cases h : (n : Int) < 1
  · have e : n = 0 := by omega
    subst e
    rw [if_pos h]
    rfl
  · rw [if_neg h]
    by_cases h1 : n = 1
    · subst h1
      rfl
    · rw [if_neg]
      · rw [Int.toNat_natCast]
        show (⟨(List.replicate n #[c]).foldl (· ++ ·) #[]⟩ : Str) = _
        rw [fold_rep]
        simp [S]
      · rw [Bool.or_eq_true, not_or]
        constructor
        · intro z
          have z := eq_of_beq z
          omega
        · intro z
          have z : (S [c]).length = 0 := eq_of_beq z
          rw [SX.S_len] at z
          exact absurd z (by simp)
section
variable {X : Cx} {e a b c tg iter elt : Expr} {es ifs : List Expr} {sts rest body : List Stmt} {st : Stmt} {σ : L2.St} {B B' H : Hp} {D : Ends} {pos px p1 p2 p3 apos cpos : Pos}
variable {α β γ : Type} {ρ : R α} {τ : R β} {υ : R γ} {x : α} {y : β} {z : γ} {P : As}
theorem op_repS : OpR X (binaryOp .Mult) (fun x y H Q => ∃ (c n : Nat), x = tx [c] ∧ y = nI n ∧ n ≤ 1000 ∧ Q (tx (List.replicate n c)) H) := by
  intro pins s σ H x y v u Q I rx ry h
  obtain ⟨c, n, rfl, rfl, hn, q⟩ := h
  obtain ⟨t, rfl⟩ := rx
  obtain ⟨t', rfl⟩ := ry
  refine SB.mul ⟨?_, ?_, ?_⟩ fun t2 k => ⟨tx (List.replicate n c), H, I.tok _, ⟨t2, by rw [mul_S]⟩, q⟩
  · rw [Bool.or_eq_false_iff]
    exact ⟨decide_eq_false (by omega), decide_eq_false (by omega)⟩
  · intro h _ z
    rw [SX.S_len] at z
    have h3 : (1 : Int) ≤ (2 ^ 63 - 1 : Int) / (n : Int) := Int.le_ediv_of_mul_le (by omega) (by omega)
    have : ((List.length [c] : Nat) : Int) = 1 := rfl
    rw [this] at z
    omega
  · intro h _
    rw [SX.S_len, Int.toNat_natCast]
    exact decide_eq_false (by
      have : sizeLine ≥ 100000 := by decide
      have e : List.length [c] * n = n := by simp
      rw [e]
      omega)
theorem g_repS {k n : Nat} (ha : GE X a σ B (rT.r [k])) (hb : GE X b σ B (rI.r (n : Int))) (hn : n ≤ 1000) : GE X (.BinOp a .Mult b pos) σ B (rT.r (List.replicate n k)) :=
  g_op op_repS ha hb fun v w B1 H1 _ ih rv rw' Q q => ⟨k, n, rv, rw', hn, q.val ih rfl⟩
/-- a list's tail -/
theorem cutV_from (xs : List V) (n : Nat) : cutV xs (some (n : Int)) none = xs.drop n := by
  unfold cutV
  rw [HT.sIx_none, HT.sIx_nat]
  by_cases h : n ≤ xs.length
  · rw [Nat.min_eq_left h]
    exact List.take_of_length_le (by rw [List.length_drop]; omega)
  · rw [Nat.min_eq_right (by omega), List.drop_eq_nil_of_le (Nat.le_refl _), List.drop_eq_nil_of_le (by omega), List.take_nil]
theorem g_slLFrom {xs : List α} {i : Nat} {p2 : Pos} (ha : GE X a σ B ((rL ρ).r xs)) (hb : GE X b σ B (rI.r (i : Int))) : GE X (.Subscript a (.Slice (some b) none none p2) pos) σ B ((rL ρ).r (xs.drop i)) := fun B1 H1 q i0 Q k =>
  W.of (pe_slice sl_list peW (po_some peW) po_none) (ha B1 H1 q i0 _ fun v B2 H2 e2 rv => hb B2 H2 (q.trans e2.b) e2.i _ fun w B3 H3 e3 rw' => by
    obtain ⟨p, vs, e1, h1, pr⟩ := (rL ρ).ex e3.b rv
    exact ⟨_, rw', p, vs, e1, .inl (.inl (e3.i.lst h1)), fun o ho => k _ _ _ ((e2.trans e3).trans (Fr.new e3.i ho)) ⟨o, _, rfl, by rw [upd_same, cutV_from], p_drop i (pmap pr fun x v r => ρ.ex (Fr.new e3.i ho).b r)⟩⟩)
/-! ### a list beside the empty one -/
/-- values that are flat data -/
def Dat (ρ : R α) (x : α) : Prop := ∀ (K : PySem.W.Frag) (v : V) (B H : Hp), Ex B H → ρ.r x v B → ∃ d : PyData, Dp K H v d ∧ d.canLay0 = true ∧ d.depth = 0
theorem dat_T {l : List Nat} (h : PyData.strOk (S l) = true) : Dat rT l := fun K v B H i r => by cases r; exact ⟨.str (S l), .str _, by simp only [PyData.canLay0]; exact h, by simp only [PyData.depth]⟩
theorem dat_I {n : Int} : Dat rI n := fun K v B H i r => by cases r; exact ⟨.int n, .int _, by simp only [PyData.canLay0], by simp only [PyData.depth]⟩
theorem dat_N {n : Nat} : Dat rN n := fun K v B H i r => by cases r; exact ⟨.int n, .int _, by simp only [PyData.canLay0], by simp only [PyData.depth]⟩
theorem dat_all {K : PySem.W.Frag} {B H : Hp} (i : Ex B H) : ∀ {xs : List α} {vs : List V}, (∀ x ∈ xs, Dat ρ x) → Paired (fun x v => ρ.r x v B) xs vs → ∃ ds, DpAll K H vs ds ∧ ds.length = xs.length ∧ PyData.canLayAll0 ds = true ∧ PyData.depthAll ds = 0
  | _, _, _, .nil => ⟨[], .nil, rfl, by simp only [PyData.canLayAll0], by simp only [PyData.depthAll]⟩
  | _, _, h, .cons r t => by
    obtain ⟨d, hd, h1, h2⟩ := h _ (List.mem_cons_self ..) K _ B H i r
    obtain ⟨ds, hds, hl, h3, h4⟩ := dat_all i (fun x hx => h x (List.mem_cons_of_mem _ hx)) t
    exact ⟨d :: ds, .cons hd hds, by rw [List.length_cons, List.length_cons, hl], by simp only [PyData.canLayAll0]; rw [h1, h3]; rfl, by simp only [PyData.depthAll]; rw [h2, h4]; rfl⟩
theorem shp {ds : List PyData} (h3 : PyData.canLayAll0 ds = true) (h4 : PyData.depthAll ds = 0) : SeqAt.shaped (.list ds) = true := by
  refine Bool.and_eq_true_iff.mpr ⟨by simp only [PyData.canLay0]; exact h3, decide_eq_true ?_⟩
  simp only [PyData.depth]
  omega
theorem eqv_nil : ∀ ds : List PyData, PyData.eqv (.list ds) (.list []) = ds.isEmpty
  | [] => by simp [PyData.eqv, PyData.eqvAll]
  | d :: ds => by simp [PyData.eqv, PyData.eqvAll]
theorem rb_eqNil {K : PySem.W.Frag} {xs : List α} (h : ∀ x ∈ xs, Dat ρ x) : RB (rEqD K) (rL ρ) xs (rL τ) [] B xs.isEmpty := fun v w B1 H1 _ ih ⟨a, vs, e1, h1, p1⟩ ⟨b, ws, e2, h2, p2⟩ Q q => by
  cases p2
  obtain ⟨ds, hd, hl, h3, h4⟩ := dat_all (K := K) ih h p1
  refine ⟨.list ds, .list [], by rw [e1]; exact .lst (.inl (.inl (ih.lst h1))) hd, by rw [e2]; exact .lst (.inl (.inl (ih.lst h2))) .nil, shp h3 h4, rfl, ?_⟩
  rw [eqv_nil]
  have : ds.isEmpty = xs.isEmpty := by
    cases xs <;> cases ds <;> first | rfl | (simp at hl)
  rw [this]
  exact q
theorem rb_neNil {K : PySem.W.Frag} {xs : List α} (h : ∀ x ∈ xs, Dat ρ x) : RB (rNeD K) (rL ρ) xs (rL τ) [] B (!xs.isEmpty) := fun v w B1 H1 _ ih ⟨a, vs, e1, h1, p1⟩ ⟨b, ws, e2, h2, p2⟩ Q q => by
  cases p2
  obtain ⟨ds, hd, hl, h3, h4⟩ := dat_all (K := K) ih h p1
  refine ⟨.list ds, .list [], by rw [e1]; exact .lst (.inl (.inl (ih.lst h1))) hd, by rw [e2]; exact .lst (.inl (.inl (ih.lst h2))) .nil, shp h3 h4, rfl, ?_⟩
  rw [eqv_nil]
  have : ds.isEmpty = xs.isEmpty := by
    cases xs <;> cases ds <;> first | rfl | (simp at hl)
  rw [this]
  exact q
/-! ### text.index(sign) -/
theorem g_index {l : List Nat} {k i : Nat} (ha : GE X a σ B (rT.r l)) (h : GE X e σ B (rT.r [k])) (hi : ∃ rest, Builtin.Str.occurrences (S l) (S [k]) 0 (S l).length 1 = i :: rest) (hs : starEach [e] X.env = [(false, eval e X.env)] := by rfl) (hline : (apos.endLine == pos.line) = true := by rfl)
    (hbase : attributeBase a "index" X.env (eval a X.env) = eval a X.env := by rfl) : GE X (.Call (.Attribute a "index" apos) [e] [] pos) σ B (rN.r i) := fun B1 H1 u i0 Q q =>
  W.of (pe_m1 F.slot_str_index F.type_str_index mt_sindex peW peW hs hbase hline) (ha B1 H1 u i0 _ fun v B2 H2 x2 r => ⟨⟨S l, r⟩, h B2 H2 (u.trans x2.b) x2.i _ fun w B3 H3 x3 rw' => by
    obtain ⟨rest, hr⟩ := hi
    exact ⟨S l, S [k], i, rest, r, by rw [rw'], hr, q _ B3 H3 (x2.trans x3) rfl⟩⟩)
/-! ### d[k] for a dict of one pair; isinstance -/
theorem g_isi {T : String} {n : Str} {k : Bool} (hm : X.mg "isinstance" = none) (hmT : X.mg n = none) (hv : bootBuiltins n = some (.type T)) (ha : GE X a σ B (ρ.r x)) (ty : ∀ v H, ρ.r x v H → ∃ t, TyX X.K H v (.type t) ∧ kitB t T = some k) (hy : ∀ v H H', ρ.r x v H → ρ.r x v H')
    (hs : starEach [a, Expr.Name n p1] X.env = (false, eval a X.env) :: starEach [.Name n p1] X.env := by rfl) (hs2 : starEach [Expr.Name n p1] X.env = (false, eval (.Name n p1) X.env) :: starEach [] X.env := by rfl) (hg : Gl X "isinstance" := by rfl) (hg2 : Gl X n := by rfl) (hpl : (backTo pos (starEach [Expr.Name n p1] X.env)).any (·.1) = false := by rfl)
    (hn : n ≠ "__name__" := by decide) (hd : (n == ("__debug__" : Str)) = false := by decide) : GE X (.Call (.Name "isinstance" px) [a, .Name n p1] [] pos) σ B (rB.r k) :=
  g_callB call_isi hm (ga2 (τ := rV) (y := V.ty T) ha (ge_const (pe_bltn (v := V.ty T) hg2 hmT hv rfl hn hd) fun _ => rfl) hs hs2) (fun vs B1 H1 _ ih ⟨v, w, e1, r, r2⟩ Q q => by
    obtain ⟨t, h1, h2⟩ := ty v H1 (hy v B1 H1 r)
    exact ⟨v, .ty T, .type t, .type T, k, by rw [e1, r2], .ty T, h1, kit_ty h2, q _ _ _ (Fr.refl ih) rfl⟩) (by decide +kernel) hg (by decide) (by decide) hs hpl
/-! ### three names at once -/
theorem wp_par3 (i j l : Nat) {n m o : Str} {kk k2 : Nat} {pt pz : Pos} (ih : Ex B H) (ha : GE X a σ B (ρ.r x)) (hb : GE X b σ B (τ.r y)) (hc' : GE X c σ B (υ.r z)) (k : ∀ v w u B1 H1, Fr B H B1 H1 → ρ.r x v B1 → τ.r y w B1 → υ.r z u B1 → WP X rest D (((σ.set i (some v)).set j (some w)).set l (some u)) H1) (hc : X.calm = true) (hN : X.N.Nodup) (hij : i ≠ j := by decide) (hil : i ≠ l := by decide) (hjl : j ≠ l := by decide) (hi : X.N[i]? = some n := by rfl) (hj : X.N[j]? = some m := by rfl) (hl : X.N[l]? = some o := by rfl) (hx : X.env.scope.names.lookup n = some .local := by rfl) (hy : X.env.scope.names.lookup m = some .local := by rfl) (hz : X.env.scope.names.lookup o = some .local := by rfl)
    (hw : swappedStores [.Tuple [.Name n p1, .Name m p2, .Name o pz] kk p3] (.Tuple [a, b, c] k2 pt) X.env = pure (some [n, m, o]) := by rfl) (hs : swapsWithSole [.Tuple [.Name n p1, .Name m p2, .Name o pz] kk p3] (.Tuple [a, b, c] k2 pt) pos.line X.env = pure false := by rfl)
    (hs1 : starEach [a, b, c] X.env = (false, eval a X.env) :: starEach [b, c] X.env := by rfl) (hs2 : starEach [b, c] X.env = (false, eval b X.env) :: starEach [c] X.env := by rfl) (hs3 : starEach [c] X.env = (false, eval c X.env) :: starEach [] X.env := by rfl) :
    WP X (.Assign [.Tuple [.Name n p1, .Name m p2, .Name o pz] kk p3] (.Tuple [a, b, c] k2 pt) pos :: rest) D σ H :=
  WP.cons (ps_par3 hc hN hi hj hl hij hil hjl hx hy hz paW hw hs) (ga3 ha hb hc' hs1 hs2 hs3 B H (Ex.refl B) ih _ fun vs B1 H1 u ⟨v, w, t, e1, r1, r2, r3⟩ => ⟨v, w, t, e1, k v w t B1 H1 u r1 r2 r3⟩)
end
end KB
end
section
set_option Elab.async false
set_option linter.all false
set_option maxRecDepth 100000
set_option maxHeartbeats 4000000
/-! KB8: things that change while a body runs. -/
namespace KB
open PySem PySem.Spec PyProof.Rows L2 KS MS
open SX (S)
section
variable {B H B1 H1 B2 H2 Bc Hc : Hp} {p r : Addr} {o o' o2 : HO}
theorem Fr.un (f : Fr (upd B p o) H B1 H1) (b : B p = none) : Fr B H (del B1 p) H1 := ⟨f.h, fun a u q => by
  have e : a ≠ p := fun e => by rw [e, b] at q; cases q
  obtain ⟨u', h1, h2⟩ := f.b a u (by rw [upd_ne e]; exact q)
  exact ⟨u', by rw [del_ne e]; exact h1, h2⟩, fun a u q => f.i a u (del_some q).2, fun a q => by
  have e : a ≠ p := fun e => by rw [e, del_same] at q; exact q rfl
  rw [del_ne e] at q
  rcases f.f a q with z | z
  · rw [upd_ne e] at z
    exact .inl z
  · exact .inr z⟩
/-- one thing that changes: not told of in Bc, but known in Hc -/
structure One (B H : Hp) (p : Addr) (o : HO) (Bc Hc : Hp) : Prop where
  F : Fr B H Bc Hc
  b : Bc p = none
  h : Hc p = some o
  n : H p = none
  nf : NF o
theorem One.new (F : Fr B H B1 H1) (h : H1 p = none) (nf : NF o) : One B H p o B1 (upd H1 p o) := ⟨F.mut (F.h.fresh h) (F.i.fresh h), F.i.fresh h, upd_same, F.h.fresh h, nf⟩
theorem One.step (m : One B H p o Bc Hc) (f : Fr Bc Hc B1 H1) : One B H p o B1 H1 := ⟨m.F.trans f, f.out m.b m.h, f.h.keep m.h m.nf, m.n, m.nf⟩
theorem One.put (m : One B H p o Bc Hc) (nf : NF o') : One B H p o' Bc (upd Hc p o') := ⟨m.F.mut m.n m.b, m.b, upd_same, m.n, nf⟩
theorem One.fin (m : One B H p o Bc Hc) : Fr B H (upd Bc p o) Hc := m.F.add m.n m.b m.h
theorem One.un (m : One B H p o Bc Hc) (f : Fr (upd Bc p o) Hc B1 H1) : One B H p o (del B1 p) H1 := ⟨m.F.trans (f.un m.b), del_same, f.h.keep m.h m.nf, m.n, m.nf⟩
theorem One.up (m : One B H p o Bc Hc) : Ex Bc (upd Bc p o) := Ex.new m.b
theorem One.other (m : One B H p o Bc Hc) (k : One B H r o2 Bc Hc) (ne : p ≠ r) : One B H p o Bc (upd Hc r o') := ⟨k.F.mut k.n k.b, m.b, by rw [upd_ne ne]; exact m.h, m.n, m.nf⟩
theorem One.fr (m : One B H p o Bc Hc) (F : Fr B H B1 H1) (b : B1 p = none) (h : H1 p = some o) : One B H p o B1 H1 := ⟨F, b, h, m.n, m.nf⟩
end
section
variable {X : Cx} {e a b c tg iter elt tg1 iter1 : Expr} {es ifs ifs1 : List Expr} {sts rest body : List Stmt} {st : Stmt} {σ : L2.St} {B B' H : Hp} {D : Ends} {pos px p1 p2 p3 apos cpos : Pos}
variable {α β γ : Type} {ρ : R α} {τ : R β} {υ : R γ} {x : α} {y : β} {z : γ} {P : As}
/-- n, m = o.pop(), a pair is popped -/
theorem wp_popPair (i j : Nat) {n m : Str} {kk : Nat} {p t : Addr} {vx vy : V} {xs : List V} (ih : Ex B H) (ho : GE X a σ B (rV.r (.ref p))) (hp : H p = some (.lst xs)) (hx : xs[xs.length - 1]? = some (.ref t)) (ht : H t = some (.tup [vx, vy]))
    (k : ∀ B1 H1, Fr B H B1 H1 → WP X rest D ((σ.set i (some vx)).set j (some vy)) (upd H1 p (.lst xs.dropLast))) (hc : X.calm = true) (hN : X.N.Nodup) (hi : X.N[i]? = some n := by rfl) (hj : X.N[j]? = some m := by rfl) (hx' : Loc X.env.scope n := by first | exact Or.inl rfl | exact Or.inr rfl) (hy : Loc X.env.scope m := by first | exact Or.inl rfl | exact Or.inr rfl)
    (hbase : attributeBase a "pop" X.env (eval a X.env) = eval a X.env := by rfl) (hline : (apos.endLine == cpos.line) = true := by rfl)
    (hs : swapsWithSole [.Tuple [.Name n p1, .Name m p2] kk p3] (.Call (.Attribute a "pop" apos) [] [] cpos) pos.line X.env = pure false := by rfl) (hw : swappedStores [.Tuple [.Name n p1, .Name m p2] kk p3] (.Call (.Attribute a "pop" apos) [] [] cpos) X.env = pure none := by rfl) (h1 : (assignEach [.Tuple [.Name n p1, .Name m p2] kk p3] X.env).map (·.2) = [assign (.Tuple [.Name n p1, .Name m p2] kk p3) X.env] := by rfl)
    (hf : X.fn n = true ∨ X.env.scope.names.lookup n = some .local := by first | exact Or.inl rfl | exact Or.inr rfl) (hf2 : X.fn m = true ∨ X.env.scope.names.lookup m = some .local := by first | exact Or.inl rfl | exact Or.inr rfl)
    (hn : (assignEach [.Name n p1, .Name m p2] X.env).length = 2 := by rfl) (hst : (assignEach [.Name n p1, .Name m p2] X.env).findIdx? (·.1) = none := by rfl)
    (hss : (assignEach ([.Name n p1, .Name m p2]) X.env).map (·.2) = assign (.Name n p1) X.env :: (assignEach [.Name m p2] X.env).map (·.2) := by rfl) (hss2 : (assignEach ([.Name m p2]) X.env).map (·.2) = assign (.Name m p2) X.env :: (assignEach [] X.env).map (·.2) := by rfl) :
    WP X (.Assign [.Tuple [.Name n p1, .Name m p2] kk p3] (.Call (.Attribute a "pop" apos) [] [] cpos) pos :: rest) D σ H :=
  WP.cons (ps_asg (pe_bm0 PySem.F.plainAttrs_list PySem.F.slot_list_pop PySem.F.type_list_pop mt_pop peW hbase hline) (pg_tup hc (pgs_cons (pg_name hN hi hx' hf) (pgs_cons (pg_name hN hj hy hf2) pgs_nil hss2) hss) hn hst) hs hw h1)
    (ho B H (Ex.refl B) ih _ fun v B1 H1 f r => by
      have hp1 := f.h.lst hp
      have ht1 := f.h.keep ht nf_tup
      have ne : t ≠ p := fun e => by rw [e, hp] at ht; cases ht
      refine ⟨by cases r; exact .inl ⟨rfl, _, .inl (.inl hp1)⟩, p, xs, .ref t, r, rfl, hp1, hx, ?_⟩
      exact ⟨t, [vx, vy], rfl, .inl (.inl (by rw [upd_ne ne]; exact ht1)), rfl, vx, [vy], rfl, vy, [], rfl, rfl, k B1 H1 f⟩)
/-- o.pop(i) -/
theorem wp_popAt {p : Addr} {xs : List V} {n : Nat} (ih : Ex B H) (ho : GE X a σ B (rV.r (.ref p))) (he : GE X e σ B (rN.r n)) (hp : H p = some (.lst xs)) (hn : n < xs.length) (hz : xs.length ≤ 100000) (k : ∀ B2 H2, Fr B H B2 H2 → H2 p = some (.lst xs) → WP X rest D σ (upd H2 p (.lst (xs.eraseIdx n)))) (hss : swapsWith (.Call (.Attribute a "pop" apos) [e] [] cpos) none pos.line X.env = pure false := by rfl) (hbase : attributeBase a "pop" X.env (eval a X.env) = eval a X.env := by rfl)
    (hfew : ((backTo cpos (starEach [e] X.env)).all (fun x => !x.1) && (backToKw cpos (keywordEach [] X.env)).all (fun x => x.1.isSome) && decide (([e] : List Expr).length + ([] : List Keyword).length + (if ([] : List Keyword).isEmpty then 0 else 1) < 30)) = true := by rfl)
    (hline : (apos.endLine == cpos.line) = true := by rfl) (hs : starEach [e] X.env = (false, eval e X.env) :: starEach [] X.env := by rfl) (hpl : (backTo cpos (starEach [] X.env)).any (·.1) = false := by rfl) :
    WP X (.Expr (.Call (.Attribute a "pop" apos) [e] [] cpos) pos :: rest) D σ H := WP.cons (ps_expr peW hss)
  (W.of (pe_bm PySem.F.plainAttrs_list PySem.F.slot_list_pop PySem.F.type_list_pop mt_popAt peW (pa_cons peW pa_nil hs) hbase hfew hline hs hpl) (ho B H (Ex.refl B) ih _ fun v B1 H1 x1 r => ⟨by cases r; exact .inl ⟨rfl, _, .inl (.inl (x1.h.lst hp))⟩, he B1 H1 x1.b x1.i _ fun w B2 H2 x2 r2 => by
    obtain ⟨y, hy⟩ : ∃ y, xs[n]? = some y := ⟨xs[n], List.getElem?_eq_getElem hn⟩
    refine ⟨p, xs, (n : Int), n, y, r, by rw [r2], (x1.trans x2).h.lst hp, by omega, by omega, ?_, hy, k B2 H2 (x1.trans x2) ((x1.trans x2).h.lst hp)⟩
    have z : ¬ ((n : Int) < 0) := by omega
    simp [seqIndex?, z, hn]⟩))
/-- a comprehension's list, new: it may be changed -/
theorem tlc_okM {xs : List α} {f : α → β} {p : α → Bool} {vs : List Nat} {g : TG} {sc : Scope} (gi : GI X tg iter σ B ρ xs) (hz : xs.length ≤ 100000)
    (hgm : ∀ v σ H (Q Q' : L2.St → Hp → Prop), (∀ σ H, Q σ H → Q' σ H) → g v σ H Q → g v σ H Q')
    (hb : ∀ a v B1 H1, a ∈ xs → Ex B B1 → Ex B1 H1 → ρ.r a v B1 → g v (wipe σ vs) H1 fun σ2 H2 => wipe σ2 vs = wipe σ vs ∧ H2 = H1 ∧ ∀ (s : Shared) (H0 : Hp) (C : Addr) (cl : List (Str × Addr)) (fp : List Addr), GTs (Blk X sc s H0 C cl fp) ifs σ2 B1 (p a) ∧ (p a = true → GE (Blk X sc s H0 C cl fp) elt σ2 B1 (τ.r (f a)))) :
    ∀ B1 H1, Ex B B1 → Ex B1 H1 → ∀ Q : VK, (∀ q ws B2 H2, Fr B1 H1 B2 H2 → H1 q = none → B2 q = none → H2 q = some (.lst ws) → Paired (fun x v => τ.r x v B2) ((xs.filter p).map f) ws → Q (.ref q) H2) → tLc (WI X tg iter) g (BWTs X sc ifs) (BW X sc elt) vs σ H1 Q := fun B1 H1 u i0 Q q =>
  gi B1 H1 u i0 _ fun J B2 H2 G x2 hG w D hD => lc_it w (fun i H3 => ∃ Bj, Fr B2 H2 Bj H3 ∧ Bj D = none ∧ ∃ ws, H3 D = some (.lst ws) ∧ Paired (fun x v => τ.r x v Bj) (((xs.take i).filter p).map f) ws)
    ⟨B2, (Fr.refl x2.i).mut hD (x2.i.fresh hD), x2.i.fresh hD, [], upd_same, by simp; exact .nil⟩ (fun i H3 _ ⟨Bj, f3, _⟩ => hG H3 (f3.b.trans f3.i)) (fun i v H3 H4 hi ⟨Bj, f3, dj, ws, hw, pr⟩ hy => by
      have ha : xs[i]? = some xs[i] := List.getElem?_eq_getElem hi
      obtain ⟨Bb, f4, ra⟩ := hy Bj f3.b f3.i
      have rv := ra _ ha
      have lw : ws.length ≤ i := by
        rw [← Paired.length pr, List.length_map]
        exact Nat.le_trans (List.length_filter_le ..) (by rw [List.length_take]; omega)
      refine hgm v _ _ _ _ (fun σ2 H5 ⟨k1, k2, k3⟩ => ?_) (hb _ v Bb H4 (List.getElem_mem hi) (((u.trans x2.b).trans f3.b).trans f4.b) f4.i rv)
      subst k2
      refine ⟨k1, fun s H0 C cl fp => (k3 s H0 C cl fp).1 Bb H5 (Ex.refl Bb) f4.i _ fun B6 H6 f6 => ?_⟩
      have step : ((xs.take (i + 1)).filter p).map f = ((xs.take i).filter p).map f ++ (if p xs[i] = true then [f xs[i]] else []) := by
        rw [List.take_add_one, ha, List.filter_append, List.map_append]
        show _ ++ (List.filter p [xs[i]]).map f = _
        cases hp : p xs[i] <;> simp [hp]
      have f46 := f4.trans f6
      cases hp : p xs[i] with
      | false =>
        show ∃ Bj, _
        refine ⟨B6, f3.trans f46, f46.out dj hw, ws, f46.h.lst hw, ?_⟩
        rw [step, hp]
        show Paired _ (_ ++ []) ws
        rw [List.append_nil]
        exact pmap pr fun x v r => τ.ex f46.b r
      | true =>
        show BW X sc elt σ2 H6 _
        intro s H0 C cl fp
        refine (k3 s H0 C cl fp).2 hp B6 H6 f6.b f6.i _ fun y B7 H7 f7 ry => ?_
        have f47 := f46.trans f7
        have d7 := f47.out dj hw
        refine ⟨ws, f47.h.lst hw, sz5' (by omega), B7, (f3.trans f47).mut hD d7, d7, ws ++ [y], upd_same, ?_⟩
        rw [step, hp]
        exact p_app (pmap pr fun x v r => τ.ex f47.b r) (.cons ry .nil)) fun H3 ⟨Bj, f3, dj, ws, hw, pr⟩ => by
      rw [List.take_length] at pr
      exact q D ws Bj H3 (x2.trans f3) (x2.h.fresh hD) dj hw pr
/-- name = [..for one in..], a local, the list may be changed -/
theorem wp_setLcM (j : Nat) {n : Str} {own : List (Str × Nat)} {jt : Nat} {sc : Scope} {xs : List α} (i : Ex B H) (p : α → Bool) (f : α → β) (gi : GI X tg iter σ B ρ xs) (hz : xs.length ≤ 100000) (hb : Turn1 X sc ifs elt σ own jt B ρ xs p τ f)
    (k : ∀ q ws B1 H1, One B H q (.lst ws) B1 H1 → Paired (fun x v => τ.r x v B1) ((xs.filter p).map f) ws → WP X rest D (σ.set j (some (.ref q))) H1) (hc : X.calm = true) (hN : X.N.Nodup) (ok : BlkOk X.N X.env.scope sc own) (hg : BlkPG X sc tg (gName jt))
    (hsw : swapsWith (.ListComp elt [⟨tg, iter, ifs, 0⟩] sc p2) (some (.Name n p1)) pos.line X.env = pure true) (hi : X.N[j]? = some n := by rfl) (hx : X.env.scope.names.lookup n = some .local := by rfl) (hs : ∀ x, foldedSetIterable iter X.env x = pure x := by intro _; rfl)
    (hw : ∀ x, wipe ((wipe σ (own.map (·.2))).set jt (some x)) (own.map (·.2)) = wipe σ (own.map (·.2)) := by intro _; rfl) :
    WP X (.Assign [.Name n p1] (.ListComp elt [⟨tg, iter, ifs, 0⟩] sc p2) pos :: rest) D σ H :=
  WP.cons (ps_setLc hc hN hi hx hsw piW ok hg (fun s H C cl fp => ⟨fun pins s' σ H1 Q I h => h s H C cl fp pins s' I⟩) (fun s H C cl fp => ⟨fun pins s' σ H1 Q I h => h s H C cl fp pins s' I⟩) hs)
    (tlc_okM gi hz gm_name (fun a v B1 H1 ha x _ r => ⟨hw v, rfl, hb a v B1 ha x r⟩) B H (Ex.refl B) i _ fun q ws B2 H2 f2 h1 b2 h2 pr => k q ws B2 H2 ⟨f2, b2, h2, h1, nf_lst⟩ pr)
/-- two clauses -/
theorem tlc22M {xs : List α} {ys : α → List β} {f : α → β → γ} {pp : α → β → Bool} {m : Nat} {vs vs1 : List Nat} {j j1 : Nat} {sc : Scope} (gi : GI X tg iter σ B ρ xs) (hm : ∀ a ∈ xs, (ys a).length ≤ m) (hz : xs.length * m ≤ 90000)
    (hw : ∀ x, wipe ((wipe σ vs).set j (some x)) vs = wipe σ vs) (hw1 : ∀ x y, wipe ((wipe ((wipe σ vs).set j (some x)) vs1).set j1 (some y)) vs1 = wipe ((wipe σ vs).set j (some x)) vs1)
    (hb : ∀ a v B1, a ∈ xs → Ex B B1 → ρ.r a v B1 → ∀ (s : Shared) (H0 : Hp) (C : Addr) (cl : List (Str × Addr)) (fp : List Addr), GI (Blk X sc s H0 C cl fp) tg1 iter1 ((wipe σ vs).set j (some v)) B1 τ (ys a))
    (hb2 : ∀ a v b w B1, a ∈ xs → b ∈ ys a → Ex B B1 → ρ.r a v B1 → τ.r b w B1 → ∀ (s : Shared) (H0 : Hp) (C : Addr) (cl : List (Str × Addr)) (fp : List Addr), GTs (Blk X sc s H0 C cl fp) ifs1 ((wipe ((wipe σ vs).set j (some v)) vs1).set j1 (some w)) B1 (pp a b) ∧ (pp a b = true → GE (Blk X sc s H0 C cl fp) elt ((wipe ((wipe σ vs).set j (some v)) vs1).set j1 (some w)) B1 (υ.r (f a b)))) :
    ∀ B1 H1, Ex B B1 → Ex B1 H1 → ∀ Q : VK, (∀ q ws B2 H2, Fr B1 H1 B2 H2 → H1 q = none → B2 q = none → H2 q = some (.lst ws) → Paired (fun x v => υ.r x v B2) (xs.flatMap fun a => ((ys a).filter (pp a)).map (f a)) ws → Q (.ref q) H2) → tLc2 (WI X tg iter) (gName j) (BWTs X sc []) (BWI X sc tg1 iter1) (gName j1) (BWTs X sc ifs1) (BW X sc elt) vs vs1 σ H1 Q := fun B1 H1 u i0 Q q =>
  gi B1 H1 u i0 _ fun J B2 H2 G x2 hG w D hD => by
    refine ⟨fun i n H3 => n = xs.length - i ∧ i ≤ xs.length ∧ ∃ Bj, Fr B2 H2 Bj H3 ∧ Bj D = none ∧ ∃ ws, H3 D = some (.lst ws) ∧ ws.length ≤ i * m ∧ Paired (fun x v => υ.r x v Bj) ((xs.take i).flatMap fun a => ((ys a).filter (pp a)).map (f a)) ws,
      ⟨xs.length, by simp, Nat.zero_le _, B2, (Fr.refl x2.i).mut hD (x2.i.fresh hD), x2.i.fresh hD, [], upd_same, by simp, by simp; exact .nil⟩, ?_⟩
    rintro i n H3 ⟨rfl, hi, Bj, f3, dj, ws, hw3, lw, pr⟩
    have g3 := hG H3 (f3.b.trans f3.i)
    by_cases hlt : i < xs.length
    · refine .inr ⟨w.goes i H3 hlt g3, fun H => ∃ Bj, Fr B2 H2 Bj H ∧ Bj D = none ∧ ∃ ws, H D = some (.lst ws) ∧ ws.length ≤ (i + 1) * m ∧ Paired (fun x v => υ.r x v Bj) ((xs.take (i + 1)).flatMap fun a => ((ys a).filter (pp a)).map (f a)) ws, fun H' p' => ⟨xs.length - (i + 1), by omega, rfl, hlt, p'⟩, fun v H4 y => ?_⟩
      have ha : xs[i]? = some xs[i] := List.getElem?_eq_getElem hlt
      have hmem : xs[i] ∈ xs := List.getElem_mem hlt
      obtain ⟨Bb, f4, ra⟩ := w.yields i H3 v H4 hlt g3 y Bj f3.b f3.i
      have rv := ra _ ha
      have uB : Ex B Bb := ((u.trans x2.b).trans f3.b).trans f4.b
      have step : ((xs.take (i + 1)).flatMap fun a => ((ys a).filter (pp a)).map (f a)) = ((xs.take i).flatMap fun a => ((ys a).filter (pp a)).map (f a)) ++ (((ys xs[i]).filter (pp xs[i])).map (f xs[i])) := by
        rw [List.take_add_one, ha, List.flatMap_append]
        simp
      refine ⟨hw v, fun s H0 C cl fp => ts_nil Bb H4 (Ex.refl Bb) f4.i _ fun B5 H5 f5 => ?_⟩
      show BWI X sc tg1 iter1 _ H5 _
      intro s H0 C cl fp
      refine hb _ v Bb hmem uB rv s H0 C cl fp B5 H5 f5.b f5.i _ fun J1 B6 H6 G1 x6 hG1 w1 => ?_
      have f46 := (f4.trans f5).trans x6
      have lm := hm _ hmem
      refine ⟨fun k l H7 => l = (ys xs[i]).length - k ∧ k ≤ (ys xs[i]).length ∧ ∃ Bk, Ex B6 Bk ∧ Fr B2 H2 Bk H7 ∧ Bk D = none ∧ ∃ ws, H7 D = some (.lst ws) ∧ ws.length ≤ i * m + k ∧ Paired (fun x v => υ.r x v Bk) (((xs.take i).flatMap fun a => ((ys a).filter (pp a)).map (f a)) ++ ((((ys xs[i]).take k).filter (pp xs[i])).map (f xs[i]))) ws,
        ⟨(ys xs[i]).length, by simp, Nat.zero_le _, B6, Ex.refl B6, f3.trans f46, f46.out dj hw3, ws, f46.h.lst hw3, by omega, by simp; exact pmap pr fun x v r => υ.ex f46.b r⟩, ?_⟩
      rintro k l H7 ⟨rfl, hk, Bk, e7, f7, dk, ws7, hw7, lw7, pr7⟩
      have g7 := hG1 H7 (e7.trans f7.i)
      by_cases hkt : k < (ys xs[i]).length
      · refine .inr ⟨w1.goes k H7 hkt g7, fun H => ∃ Bk, Ex B6 Bk ∧ Fr B2 H2 Bk H ∧ Bk D = none ∧ ∃ ws, H D = some (.lst ws) ∧ ws.length ≤ i * m + (k + 1) ∧ Paired (fun x v => υ.r x v Bk) (((xs.take i).flatMap fun a => ((ys a).filter (pp a)).map (f a)) ++ ((((ys xs[i]).take (k + 1)).filter (pp xs[i])).map (f xs[i]))) ws, fun H' p' => ⟨(ys xs[i]).length - (k + 1), by omega, rfl, hkt, p'⟩, fun v8 H8 y8 => ?_⟩
        have hb' : (ys xs[i])[k]? = some (ys xs[i])[k] := List.getElem?_eq_getElem hkt
        obtain ⟨B8, f8, r8⟩ := w1.yields k H7 v8 H8 hkt g7 y8 Bk e7 f7.i
        have rb := r8 _ hb'
        have e58 : Ex Bb B8 := ((f5.trans x6).b.trans e7).trans f8.b
        have step8 : (((ys xs[i]).take (k + 1)).filter (pp xs[i])).map (f xs[i]) = ((((ys xs[i]).take k).filter (pp xs[i])).map (f xs[i])) ++ (if pp xs[i] (ys xs[i])[k] = true then [f xs[i] (ys xs[i])[k]] else []) := by
          rw [List.take_add_one, hb', List.filter_append, List.map_append]
          show _ ++ (List.filter (pp xs[i]) [(ys xs[i])[k]]).map (f xs[i]) = _
          cases hp : pp xs[i] (ys xs[i])[k] <;> simp [hp]
        have T := hb2 _ v _ v8 B8 hmem (List.getElem_mem hkt) (uB.trans e58) (ρ.ex e58 rv) rb
        refine ⟨hw1 v v8, fun s H0 C cl fp => (T s H0 C cl fp).1 B8 H8 (Ex.refl B8) f8.i _ fun B9 H9 f9 => ?_⟩
        have f79 := f8.trans f9
        cases hp : pp xs[i] (ys xs[i])[k] with
        | false =>
          show ∃ Bk, _
          refine ⟨B9, e7.trans f79.b, f7.trans f79, f79.out dk hw7, ws7, f79.h.lst hw7, by omega, ?_⟩
          rw [step8, hp]
          show Paired _ (_ ++ (_ ++ [])) ws7
          rw [List.append_nil]
          exact pmap pr7 fun x v r => υ.ex f79.b r
        | true =>
          show BW X sc elt _ H9 _
          intro s H0 C cl fp
          refine (T s H0 C cl fp).2 hp B9 H9 f9.b f9.i _ fun y B10 H10 f10 ry => ?_
          have f710 := f79.trans f10
          have d10 := f710.out dk hw7
          have hlen : ws7.length < 100000 := by
            have h1 : i * m + m ≤ xs.length * m := by
              rw [← Nat.succ_mul]
              exact Nat.mul_le_mul_right m hlt
            omega
          refine ⟨ws7, f710.h.lst hw7, sz5' hlen, B10, e7.trans f710.b, (f7.trans f710).mut hD d10, d10, ws7 ++ [y], upd_same, by rw [List.length_append]; simp; omega, ?_⟩
          rw [step8, hp]
          show Paired _ (_ ++ (_ ++ [_])) _
          rw [← List.append_assoc]
          exact p_app (pmap pr7 fun x v r => υ.ex f710.b r) (.cons ry .nil)
      · have ek : k = (ys xs[i]).length := by omega
        subst ek
        refine .inl ⟨w1.stops H7 g7, Bk, f7, dk, ws7, hw7, ?_, ?_⟩
        · rw [Nat.succ_mul]
          omega
        · rw [step]
          rw [List.take_length] at pr7
          exact pr7
    · have ei : i = xs.length := by omega
      subst ei
      refine .inl ⟨w.stops H3 g3, ?_⟩
      rw [List.take_length] at pr
      exact q D ws Bj H3 (x2.trans f3) (x2.h.fresh hD) dj hw3 pr
theorem tlc22 {xs : List α} {ys : α → List β} {f : α → β → γ} {pp : α → β → Bool} {m : Nat} {vs vs1 : List Nat} {j j1 : Nat} {sc : Scope} (gi : GI X tg iter σ B ρ xs) (hm : ∀ a ∈ xs, (ys a).length ≤ m) (hz : xs.length * m ≤ 90000)
    (hw : ∀ x, wipe ((wipe σ vs).set j (some x)) vs = wipe σ vs) (hw1 : ∀ x y, wipe ((wipe ((wipe σ vs).set j (some x)) vs1).set j1 (some y)) vs1 = wipe ((wipe σ vs).set j (some x)) vs1)
    (hb : ∀ a v B1, a ∈ xs → Ex B B1 → ρ.r a v B1 → ∀ (s : Shared) (H0 : Hp) (C : Addr) (cl : List (Str × Addr)) (fp : List Addr), GI (Blk X sc s H0 C cl fp) tg1 iter1 ((wipe σ vs).set j (some v)) B1 τ (ys a))
    (hb2 : ∀ a v b w B1, a ∈ xs → b ∈ ys a → Ex B B1 → ρ.r a v B1 → τ.r b w B1 → ∀ (s : Shared) (H0 : Hp) (C : Addr) (cl : List (Str × Addr)) (fp : List Addr), GTs (Blk X sc s H0 C cl fp) ifs1 ((wipe ((wipe σ vs).set j (some v)) vs1).set j1 (some w)) B1 (pp a b) ∧ (pp a b = true → GE (Blk X sc s H0 C cl fp) elt ((wipe ((wipe σ vs).set j (some v)) vs1).set j1 (some w)) B1 (υ.r (f a b)))) :
    ∀ B1 H1, Ex B B1 → Ex B1 H1 → ∀ Q : VK, Gv ((rL υ).r (xs.flatMap fun a => ((ys a).filter (pp a)).map (f a))) B1 H1 Q → tLc2 (WI X tg iter) (gName j) (BWTs X sc []) (BWI X sc tg1 iter1) (gName j1) (BWTs X sc ifs1) (BW X sc elt) vs vs1 σ H1 Q := fun B1 H1 u i0 Q q =>
  tlc22M gi hm hz hw hw1 hb hb2 B1 H1 u i0 Q fun D ws B2 H2 f2 h1 b2 h2 pr => q _ _ H2 (f2.add h1 b2 h2) ⟨D, ws, rfl, upd_same, pmap pr fun x v r => υ.ex (Ex.new b2) r⟩
end
end KB
end
section
set_option Elab.async false
set_option linter.all false
set_option maxRecDepth 100000
set_option maxHeartbeats 4000000
/-! KB9: sum and min of a dict's values; displays. -/
namespace KB
open PySem PySem.Spec PyProof.Rows L2 KS MS
open SX (S)
section
variable {X : Cx} {o e a b c : Expr} {σ : L2.St} {B B' H : Hp} {p pos px apos mpos : Pos} {td : TE}
def tSumVals (td : TE) : TE := fun σ H Q => td σ H fun x H1 => ∃ (a : Addr) (kvs : List (Key × V)) (is : List Int), x = V.ref a ∧ Rd H1 a (.dK kvs) ∧ kvs.map (·.2) = is.map V.int ∧ Q (.int is.sum) H1
theorem pe_sumVals (hc : X.calm = true) (hg : Gl X "sum") (hm : X.mg "sum" = none) (hd : PE X o td) (hbase : attributeBase o "values" X.env (eval o X.env) = eval o X.env := by rfl) (hline : (apos.endLine == mpos.line) = true := by rfl)
    (hse : starEach [Expr.Call (.Attribute o "values" apos) [] [] mpos] X.env = [(false, eval (Expr.Call (.Attribute o "values" apos) [] [] mpos) X.env)] := by rfl) :
    PE X (.Call (.Name "sum" p) [.Call (.Attribute o "values" apos) [] [] mpos] [] pos) (tSumVals td) := by
  refine ⟨fun pins s σ H Q I h => ?_⟩
  refine wpAny_Call_Name_kw (ld_blt I hg hm (u := .builtin "sum") (by first | rfl | decide +kernel) ?_ (by first | decide +kernel | decide) (by first | decide +kernel | decide))
  rw [hse]
  refine PySem.callWith_builtin1 (wpAny_Call_method0_late hbase hline (thn (hd.run pins s σ H _ I h) fun v s1 ⟨x, H1, I1, r1, a, kvs, is, ex, ha, hv, q⟩ => ?_))
  subst ex
  obtain rfl : v = Value.ref a := r1
  obtain ⟨_, hsys, vs, rel, dof⟩ := dk_rd I1.hok ha
  obtain ⟨ep, dat⟩ := dof.dictAt
  have dat' := dat
  obtain ⟨ob, es, ho, ex, hdat, hko, hpr, hnd⟩ := dat'
  refine ⟨"dict", "dict.values", F.plainAttrs_dict, F.slot_dict_values, F.type_dict_values, ⟨ob, ho, ex.1⟩, fun b e => ?_, Calls.callWith_builtin rfl (PySem.evalArgs_none ?_)⟩
  · cases e
    exact ⟨ob, ho, ex.2.1⟩
  refine call_meetsIn F.slot_dict_values ⟨ob, ho, ex.1⟩ F.entry_dict_values (F.args_dict_values_1 _) (meets_dict_values (mixKind X.prog X.w) a hsys) ⟨⟨vs, dof⟩, ?_⟩
  have k1 : ∀ b u, s1.heap.get? b = some u → (s1.heap.push { cls := .type "dict_values", data := .fields #[.ref a] }).get? b = some u := fun b u e => Heap.get?_push_of_some _ e
  have dat1 : (s1.heap.push { cls := .type "dict_values", data := .fields #[.ref a] }).DictAt (mixKind X.prog X.w) a vs ep := dat.keep k1
  have hlv : vs.length = is.length := by
    have e1 := congrArg List.length hv
    rw [List.length_map, List.length_map] at e1
    rw [← e1]
    exact (KV.length rel).symm
  have hval : ∀ (i : Nat) (v : Value), (∃ k, vs[i]? = some (k, v)) → ∃ t, v = Value.int (is.getD i 0) t := fun i v ⟨k, hk⟩ => by
    obtain ⟨x, h1, h2⟩ := KV.at' rel hk
    have e1 : (kvs.map (·.2))[i]? = some x := by rw [List.getElem?_map, h1] <;> rfl
    rw [hv, List.getElem?_map] at e1
    obtain ⟨j, hj, e2⟩ := Option.map_eq_some_iff.mp e1
    subst e2
    obtain ⟨t, e3⟩ := h2
    refine ⟨t, ?_⟩
    rw [e3, List.getD_eq_getElem?_getD, hj] <;> rfl
  refine call_sum_walkG (wpAny_pyIter_values (v := s1.heap.objs.size) (d := a) ⟨_, Heap.get?_push_size _ rfl, rfl, rfl⟩ dat1 ?_)
  have hlt : a < s1.heap.objs.size := Heap.lt_size ho
  have hsz : (s1.heap.push { cls := .type "dict_values", data := .fields #[.ref a] }).objs.size = s1.heap.objs.size + 1 := Heap.size_push _ _
  refine ⟨_, _, _, _, _, _, fun i => is.getD i 0, rfl, Walks.dictValues (knd := mixKind X.prog X.w) (A := X.A.in1) (I.ok.hd hc) (s1.heap.push { cls := .type "dict_values", data := .fields #[.ref a] }).objs.size a (by rw [hsz]; exact Nat.ne_of_lt (Nat.lt_succ_of_lt hlt)) vs ep,
    ⟨⟨_, Heap.get?_push_size _ rfl, rfl, rfl⟩, dat1.keep fun b u e => Heap.get?_push_of_some _ e⟩, fun b hb => ?_, hval, fun h' tk t' hk => ?_⟩
  · show b < ((s1.heap.push _).push _).objs.size
    rw [Heap.size_push, Heap.size_push]
    rw [hsz] at hb
    rcases List.mem_cons.mp hb with e | hb
    · rw [e]
      exact Nat.lt_succ_self _
    · have e : b = a := List.mem_singleton.mp hb
      rw [e]
      exact Nat.lt_succ_of_lt (Nat.lt_succ_of_lt hlt)
  · rw [hlv, preSum_getD, List.take_length]
    refine ⟨.int is.sum, H1, I1.kept (t' := tk) fun b u e => hk b u (fun hmem => ?_) (Heap.get?_push_of_some _ (k1 b u e)), ⟨t', rfl⟩, q⟩
    have e1 : b = (s1.heap.push { cls := .type "dict_values", data := .fields #[.ref a] }).objs.size := List.mem_singleton.mp hmem
    have e2 := Heap.lt_size e
    rw [hsz] at e1
    rw [e1] at e2
    exact absurd e2 (Nat.not_lt.mpr (Nat.le_succ _))
def tMinVals' (td : TE) : TE := fun σ H Q => td σ H fun x H1 => ∃ (a : Addr) (kvs : List (Key × V)) (is : List Int), x = V.ref a ∧ Rd H1 a (.dK kvs) ∧ kvs.map (·.2) = is.map V.int ∧ is ≠ [] ∧ ∀ m, m ∈ is → (∀ j ∈ is, m ≤ j) → Q (.int m) H1
theorem pe_minVals' (hc : X.calm = true) (hg : Gl X "min") (hm : X.mg "min" = none) (hd : PE X o td) (hbase : attributeBase o "values" X.env (eval o X.env) = eval o X.env := by rfl) (hline : (apos.endLine == mpos.line) = true := by rfl)
    (hse : starEach [Expr.Call (.Attribute o "values" apos) [] [] mpos] X.env = [(false, eval (Expr.Call (.Attribute o "values" apos) [] [] mpos) X.env)] := by rfl) :
    PE X (.Call (.Name "min" p) [.Call (.Attribute o "values" apos) [] [] mpos] [] pos) (tMinVals' td) := by
  refine ⟨fun pins s σ H Q I h => ?_⟩
  refine wpAny_Call_Name_kw (ld_blt I hg hm (u := .builtin "min") (by first | rfl | decide +kernel) ?_ (by first | decide +kernel | decide) (by first | decide +kernel | decide))
  rw [hse]
  refine PySem.callWith_builtin1 (wpAny_Call_method0_late hbase hline (thn (hd.run pins s σ H _ I h) fun v s1 ⟨x, H1, I1, r1, a, kvs, is, ex, ha, hv, hne, q⟩ => ?_))
  subst ex
  obtain rfl : v = Value.ref a := r1
  obtain ⟨_, hsys, vs, rel, dof⟩ := dk_rd I1.hok ha
  obtain ⟨ep, dat⟩ := dof.dictAt
  have dat' := dat
  obtain ⟨ob, es, ho, ex, hdat, hko, hpr, hnd⟩ := dat'
  refine ⟨"dict", "dict.values", F.plainAttrs_dict, F.slot_dict_values, F.type_dict_values, ⟨ob, ho, ex.1⟩, fun b e => ?_, Calls.callWith_builtin rfl (PySem.evalArgs_none ?_)⟩
  · cases e
    exact ⟨ob, ho, ex.2.1⟩
  refine call_meetsIn F.slot_dict_values ⟨ob, ho, ex.1⟩ F.entry_dict_values (F.args_dict_values_1 _) (meets_dict_values (mixKind X.prog X.w) a hsys) ⟨⟨vs, dof⟩, ?_⟩
  have k1 : ∀ b u, s1.heap.get? b = some u → (s1.heap.push { cls := .type "dict_values", data := .fields #[.ref a] }).get? b = some u := fun b u e => Heap.get?_push_of_some _ e
  have dat1 : (s1.heap.push { cls := .type "dict_values", data := .fields #[.ref a] }).DictAt (mixKind X.prog X.w) a vs ep := dat.keep k1
  have hlv : vs.length = is.length := by
    have e1 := congrArg List.length hv
    rw [List.length_map, List.length_map] at e1
    rw [← e1]
    exact (KV.length rel).symm
  have hlen : 0 < vs.length := by
    rw [hlv]
    exact List.length_pos_iff.mpr hne
  have hval : ∀ (i : Nat) (v : Value), (∃ k, vs[i]? = some (k, v)) → ∃ t, v = Value.int (is.getD i 0) t := fun i v ⟨k, hk⟩ => by
    obtain ⟨x, h1, h2⟩ := KV.at' rel hk
    have e1 : (kvs.map (·.2))[i]? = some x := by rw [List.getElem?_map, h1] <;> rfl
    rw [hv, List.getElem?_map] at e1
    obtain ⟨j, hj, e2⟩ := Option.map_eq_some_iff.mp e1
    subst e2
    obtain ⟨t, e3⟩ := h2
    refine ⟨t, ?_⟩
    rw [e3, List.getD_eq_getElem?_getD, hj] <;> rfl
  refine call_min_walk (wpAny_pyIter_values (v := s1.heap.objs.size) (d := a) ⟨_, Heap.get?_push_size _ rfl, rfl, rfl⟩ dat1 ?_)
  have hlt : a < s1.heap.objs.size := Heap.lt_size ho
  have hsz : (s1.heap.push { cls := .type "dict_values", data := .fields #[.ref a] }).objs.size = s1.heap.objs.size + 1 := Heap.size_push _ _
  refine ⟨_, _, _, _, _, _, _, rfl, Walks.dictValues (knd := mixKind X.prog X.w) (A := X.A.in1) (I.ok.hd hc) (s1.heap.push { cls := .type "dict_values", data := .fields #[.ref a] }).objs.size a (by rw [hsz]; exact Nat.ne_of_lt (Nat.lt_succ_of_lt hlt)) vs ep,
    ⟨⟨_, Heap.get?_push_size _ rfl, rfl, rfl⟩, dat1.keep fun b u e => Heap.get?_push_of_some _ e⟩, fun b hb => ?_, hlen, CmpOf.ints_lt (fun i => is.getD i 0) hval, fun v h' tk hP hk => ?_⟩
  · show b < ((s1.heap.push _).push _).objs.size
    rw [Heap.size_push, Heap.size_push]
    rw [hsz] at hb
    rcases List.mem_cons.mp hb with e | hb
    · rw [e]
      exact Nat.lt_succ_self _
    · have e : b = a := List.mem_singleton.mp hb
      rw [e]
      exact Nat.lt_succ_of_lt (Nat.lt_succ_of_lt hlt)
  · obtain ⟨t, rfl⟩ := hval _ v hP
    obtain ⟨b1, b2⟩ := argBest_lt (fun i => is.getD i 0) (vs.length - 1)
    refine ⟨.int _, H1, I1.kept (t' := tk) fun b u e => hk b u (fun hmem => ?_) (Heap.get?_push_of_some _ (k1 b u e)), ⟨t, rfl⟩, q _ ?_ fun j hj => ?_⟩
    · have e1 : b = (s1.heap.push { cls := .type "dict_values", data := .fields #[.ref a] }).objs.size := List.mem_singleton.mp hmem
      have e2 := Heap.lt_size e
      rw [hsz] at e1
      rw [e1] at e2
      exact absurd e2 (Nat.not_lt.mpr (Nat.le_succ _))
    · have hb : argBest (fun i j => decide (is.getD i 0 < is.getD j 0)) (vs.length - 1) < is.length := by omega
      rw [List.getD_eq_getElem?_getD, List.getElem?_eq_getElem hb]
      exact List.getElem_mem hb
    · obtain ⟨i, hi, e⟩ := List.mem_iff_getElem.mp hj
      have e2 : is.getD i 0 = j := by rw [List.getD_eq_getElem?_getD, List.getElem?_eq_getElem hi, ← e] <;> rfl
      rw [← e2]
      exact b2 i (by omega)
end
section
variable {X : Cx} {o e a b c : Expr} {σ : L2.St} {B B' H : Hp} {p pos px apos cpos mpos : Pos}
theorem vals_rN {H : Hp} : ∀ {xs : List (Nat × Nat)} {kvs : List (Key × V)}, Paired (fun x p => p.1 = kL x.1 ∧ rN.r x.2 p.2 H) xs kvs → kvs.map (·.2) = (xs.map fun x => (x.2 : Int)).map V.int
  | _, _, .nil => rfl
  | _, _, .cons r t => by
    rw [List.map_cons, List.map_cons, List.map_cons, vals_rN t, show _ = V.int _ from r.2]
theorem g_sumV {xs : List (Nat × Nat)} (hc : X.calm = true) (hm : X.mg "sum" = none) (h : GE X o σ B ((rD rN).r xs)) (hg : Gl X "sum" := by rfl) (hbase : attributeBase o "values" X.env (eval o X.env) = eval o X.env := by rfl) (hline : (apos.endLine == mpos.line) = true := by rfl)
    (hse : starEach [Expr.Call (.Attribute o "values" apos) [] [] mpos] X.env = [(false, eval (Expr.Call (.Attribute o "values" apos) [] [] mpos) X.env)] := by rfl) :
    GE X (.Call (.Name "sum" p) [.Call (.Attribute o "values" apos) [] [] mpos] [] pos) σ B (rI.r (xs.map fun x => (x.2 : Int)).sum) := fun B1 H1 u i0 Q q =>
  W.of (pe_sumVals hc hg hm peW hbase hline hse) (h B1 H1 u i0 _ fun v B2 H2 f2 ⟨d, kvs, e1, h1, pr⟩ => ⟨d, kvs, _, e1, rdx f2.i h1 (kd_allD pr).1, vals_rN pr, q _ B2 H2 f2 rfl⟩)
theorem g_minV {xs : List (Nat × Nat)} {m : Nat} (hc : X.calm = true) (hm : X.mg "min" = none) (h : GE X o σ B ((rD rN).r xs)) (hmem : ∃ x ∈ xs, x.2 = m) (hle : ∀ x ∈ xs, m ≤ x.2) (hg : Gl X "min" := by rfl) (hbase : attributeBase o "values" X.env (eval o X.env) = eval o X.env := by rfl) (hline : (apos.endLine == mpos.line) = true := by rfl)
    (hse : starEach [Expr.Call (.Attribute o "values" apos) [] [] mpos] X.env = [(false, eval (Expr.Call (.Attribute o "values" apos) [] [] mpos) X.env)] := by rfl) :
    GE X (.Call (.Name "min" p) [.Call (.Attribute o "values" apos) [] [] mpos] [] pos) σ B (rN.r m) := fun B1 H1 u i0 Q q =>
  W.of (pe_minVals' hc hg hm peW hbase hline hse) (h B1 H1 u i0 _ fun v B2 H2 f2 ⟨d, kvs, e1, h1, pr⟩ => by
    obtain ⟨x, hx, e⟩ := hmem
    refine ⟨d, kvs, _, e1, rdx f2.i h1 (kd_allD pr).1, vals_rN pr, ?_, fun k hk hl => q _ B2 H2 f2 ?_⟩
    · intro z
      rw [List.map_eq_nil_iff] at z
      rw [z] at hx
      cases hx
    · obtain ⟨y, hy, e2⟩ := List.mem_map.mp hk
      have h1 := hle y hy
      have h2 := hl _ (List.mem_map.mpr ⟨x, hx, rfl⟩)
      have : k = (m : Int) := by omega
      rw [this]
      rfl)
/-- {key: value}, one pair -/
theorem g_disp1 {α : Type} {ρ : R α} {x : α} {kk : Nat} {ek ev : Expr} (hk : GE X ek σ B (rT.r [kk])) (hv : GE X ev σ B (ρ.r x)) : GE X (.Dict [some ek] [ev] pos) σ B ((rD ρ).r [(kk, x)]) := fun B1 H1 u i0 Q q =>
  W.of (pe_disp (pps_cons peW peW pps_nil) rfl rfl (by simp) (show 1 ≤ 15 by decide)) fun d hd => by
    have f0 : Fr B1 H1 B1 (upd H1 d (.dK [])) := (Fr.refl i0).mut hd (i0.fresh hd)
    refine hk B1 _ u f0.i _ fun vk B2 H2 f2 rk => hv B2 H2 (u.trans f2.b) f2.i _ fun vv B3 H3 f3 rv => ?_
    have nf0 : NF (.dK []) := nf_dK fun p hp => nomatch hp
    have f23 := f2.trans f3
    have h3 : H3 d = some (.dK []) := f23.h.keep upd_same nf0
    have b3 : B3 d = none := f23.out (i0.fresh hd) upd_same
    have fz := (f0.trans f23)
    have fin : Fr B1 H1 (upd B3 d (.dK [(kL kk, vv)])) (upd H3 d (.dK [(kL kk, vv)])) := (fz.mut hd b3).add hd b3 upd_same
    refine ⟨h3, [(kL kk, vv)], ?_, show 1 ≤ 15 by decide, q _ _ _ fin ⟨d, _, rfl, .inl upd_same, .cons ⟨rfl, ρ.ex (Ex.new b3) rv⟩ .nil⟩⟩
    rw [show vk = tx [kk] from rk]
    rfl
end
end KB
end
section
set_option Elab.async false
set_option linter.all false
set_option maxRecDepth 100000
set_option maxHeartbeats 4000000
/-! KB10: cuts; several things that change. -/
namespace KB
open PySem PySem.Spec PyProof.Rows L2 KS MS
open SX (S)
section
variable {B H B1 H1 B2 H2 Bc Hc : Hp} {p r : Addr} {o o' o2 : HO}
theorem One.un2 (m : One B H p o Bc Hc) (k : One B H r o2 Bc Hc) (ne : p ≠ r) (f : Fr (upd Bc r o2) Hc B1 H1) : One B H p o (del B1 r) H1 :=
  ⟨k.F.trans (f.un k.b), by rw [del_ne ne]; exact f.out (by rw [upd_ne ne]; exact m.b) m.h, f.h.keep m.h m.nf, m.n, m.nf⟩
open Classical in
noncomputable def adds (S : Addr → Prop) (B H : Hp) : Hp := fun a => if S a then H a else B a
theorem Fr.adds (x : Fr B H B2 H2) (S : Addr → Prop) (h : ∀ a, S a → H a = none ∧ B2 a = none) : Fr B H (KB.adds S B2 H2) H2 ∧ Ex B2 (KB.adds S B2 H2) := by
  have k : Ex B2 (KB.adds S B2 H2) := fun a o q => ⟨o, by
    unfold KB.adds
    rw [if_neg fun s => by rw [(h a s).2] at q; cases q]
    exact q, .inl rfl⟩
  refine ⟨⟨x.h, x.b.trans k, fun a o q => ?_, fun a q => ?_⟩, k⟩
  · unfold KB.adds at q
    split at q
    · exact ⟨o, q, .inl rfl⟩
    · exact x.i a o q
  · unfold KB.adds at q
    split at q
    · rename_i s
      exact .inr (h a s).1
    · exact x.f a q
theorem adds_at {S : Addr → Prop} {a : Addr} (s : S a) : KB.adds S B H a = H a := by
  unfold KB.adds
  rw [if_pos s]
end
section
variable {X : Cx} {e a b c tg iter elt : Expr} {es ifs : List Expr} {sts rest body : List Stmt} {st : Stmt} {σ : L2.St} {B B' H : Hp} {D : Ends} {pos px p1 p2 p3 apos cpos : Pos}
variable {α β γ : Type} {ρ : R α} {τ : R β} {υ : R γ} {x : α} {y : β} {z : γ} {P : As}
theorem ge_nat {n : Nat} {i : Int} (h : GE X e σ B (rI.r i)) (q : i = (n : Int)) : GE X e σ B (rN.r n) := by
  subst q
  exact h
theorem ge_is {x y : α} (h : GE X e σ B (ρ.r x)) (q : x = y) : GE X e σ B (ρ.r y) := q ▸ h
theorem wp_cut (Mid : L2.St → Hp → Prop) (h : WS X st { D with nx := Mid } σ H) (k : ∀ σ' H', Mid σ' H' → WP X rest D σ' H') : WP X (st :: rest) D σ H := WP.of (C8.pss_cut psW pssW) ⟨Mid, h, k⟩
theorem ws_if {k : Bool} (i : Ex B H) (h : GT X c σ B k) (h1 : k = true → ∀ B1 H1, Fr B H B1 H1 → WP X body D σ H1) (h2 : k = false → ∀ B1 H1, Fr B H B1 H1 → WP X sts D σ H1) : WS X (.If c body sts pos) D σ H :=
  WS.of (ps_if ptW pssW pssW) (h B H (Ex.refl B) i _ fun B1 H1 u => by
    cases k with
    | true => exact h1 rfl B1 H1 u
    | false => exact h2 rfl B1 H1 u)
end
end KB
end
section
set_option Elab.async false
set_option linter.all false
set_option maxRecDepth 100000
set_option maxHeartbeats 4000000
/-! KB11: comprehensions of two clauses. -/
namespace KB
open PySem PySem.Spec PyProof.Rows L2 KS MS
open SX (S)
section
variable {X : Cx} {e a b c tg iter elt tg1 iter1 : Expr} {es ifs ifs1 : List Expr} {sts rest body : List Stmt} {st : Stmt} {σ : L2.St} {B B' H : Hp} {D : Ends} {pos px p1 p2 p3 apos cpos : Pos}
variable {α β γ : Type} {ρ : R α} {τ : R β} {υ : R γ} {x : α} {y : β} {z : γ} {P : As}
/-- name = [.. for .. in .. for .. in .. if ..] -/
theorem wp_setLc2 (k0 : Nat) {n : Str} {own : List (Str × Nat)} {vs1 : List Nat} {j j1 : Nat} {sc : Scope} {xs : List α} {ys : α → List β} (f : α → β → γ) (pp : α → β → Bool) {m : Nat} (i : Ex B H) (gi : GI X tg iter σ B ρ xs) (hm : ∀ a ∈ xs, (ys a).length ≤ m) (hz : xs.length * m ≤ 90000)
    (hb : ∀ a v B1, a ∈ xs → Ex B B1 → ρ.r a v B1 → ∀ (s : Shared) (H0 : Hp) (C : Addr) (cl : List (Str × Addr)) (fp : List Addr), GI (Blk X sc s H0 C cl fp) tg1 iter1 ((wipe σ (own.map (·.2))).set j (some v)) B1 τ (ys a))
    (hb2 : ∀ a v b w B1, a ∈ xs → b ∈ ys a → Ex B B1 → ρ.r a v B1 → τ.r b w B1 → ∀ (s : Shared) (H0 : Hp) (C : Addr) (cl : List (Str × Addr)) (fp : List Addr), GTs (Blk X sc s H0 C cl fp) ifs1 ((wipe ((wipe σ (own.map (·.2))).set j (some v)) vs1).set j1 (some w)) B1 (pp a b) ∧ (pp a b = true → GE (Blk X sc s H0 C cl fp) elt ((wipe ((wipe σ (own.map (·.2))).set j (some v)) vs1).set j1 (some w)) B1 (υ.r (f a b))))
    (k : ∀ v B1 H1, Fr B H B1 H1 → (rL υ).r (xs.flatMap fun a => ((ys a).filter (pp a)).map (f a)) v B1 → WP X rest D (σ.set k0 (some v)) H1) (hc : X.calm = true) (hN : X.N.Nodup) (ok : BlkOk X.N X.env.scope sc own) (hg : BlkPG X sc tg (gName j)) (hg1 : BlkPG X sc tg1 (gName j1)) (hv : ∀ i ∈ vs1, i ∈ own.map (·.2))
    (hsw : swapsWith (.ListComp elt [⟨tg, iter, [], 0⟩, ⟨tg1, iter1, ifs1, 0⟩] sc p2) (some (.Name n p1)) pos.line X.env = pure true) (hi : X.N[k0]? = some n := by rfl) (hx : X.env.scope.names.lookup n = some .local := by rfl) (hs : ∀ x, foldedSetIterable iter X.env x = pure x := by intro _; rfl) (hs1 : ∀ env x, foldedSetIterable iter1 env x = pure x := by intro _ _; rfl)
    (hw : ∀ x, wipe ((wipe σ (own.map (·.2))).set j (some x)) (own.map (·.2)) = wipe σ (own.map (·.2)) := by intro _; rfl) (hw1 : ∀ x y, wipe ((wipe ((wipe σ (own.map (·.2))).set j (some x)) vs1).set j1 (some y)) vs1 = wipe ((wipe σ (own.map (·.2))).set j (some x)) vs1 := by intro _ _; rfl) :
    WP X (.Assign [.Name n p1] (.ListComp elt [⟨tg, iter, [], 0⟩, ⟨tg1, iter1, ifs1, 0⟩] sc p2) pos :: rest) D σ H :=
  WP.cons (ps_setLc2 hc hN hi hx hsw piW ok hv hg (fun s H C cl fp => ⟨fun pins s' σ H1 Q I h => h s H C cl fp pins s' I⟩) (fun s H C cl fp => ⟨fun pins s' σ H1 Q I h => h s H C cl fp pins s' I⟩) hg1 (fun s H C cl fp => ⟨fun pins s' σ H1 Q I h => h s H C cl fp pins s' I⟩) (fun s H C cl fp => ⟨fun pins s' σ H1 Q I h => h s H C cl fp pins s' I⟩) hs hs1)
    (tlc22 gi hm hz hw hw1 hb hb2 B H (Ex.refl B) i _ fun v B1 H1 f1 r => k v B1 H1 f1 r)
/-- name = [.. for .. in .. for .. in .. if ..] -/
theorem wp_setLc2M (k0 : Nat) {n : Str} {own : List (Str × Nat)} {vs1 : List Nat} {j j1 : Nat} {sc : Scope} {xs : List α} {ys : α → List β} (f : α → β → γ) (pp : α → β → Bool) {m : Nat} (i : Ex B H) (gi : GI X tg iter σ B ρ xs) (hm : ∀ a ∈ xs, (ys a).length ≤ m) (hz : xs.length * m ≤ 90000)
    (hb : ∀ a v B1, a ∈ xs → Ex B B1 → ρ.r a v B1 → ∀ (s : Shared) (H0 : Hp) (C : Addr) (cl : List (Str × Addr)) (fp : List Addr), GI (Blk X sc s H0 C cl fp) tg1 iter1 ((wipe σ (own.map (·.2))).set j (some v)) B1 τ (ys a))
    (hb2 : ∀ a v b w B1, a ∈ xs → b ∈ ys a → Ex B B1 → ρ.r a v B1 → τ.r b w B1 → ∀ (s : Shared) (H0 : Hp) (C : Addr) (cl : List (Str × Addr)) (fp : List Addr), GTs (Blk X sc s H0 C cl fp) ifs1 ((wipe ((wipe σ (own.map (·.2))).set j (some v)) vs1).set j1 (some w)) B1 (pp a b) ∧ (pp a b = true → GE (Blk X sc s H0 C cl fp) elt ((wipe ((wipe σ (own.map (·.2))).set j (some v)) vs1).set j1 (some w)) B1 (υ.r (f a b))))
    (k : ∀ q ws B1 H1, One B H q (.lst ws) B1 H1 → Paired (fun x v => υ.r x v B1) (xs.flatMap fun a => ((ys a).filter (pp a)).map (f a)) ws → WP X rest D (σ.set k0 (some (.ref q))) H1) (hc : X.calm = true) (hN : X.N.Nodup) (ok : BlkOk X.N X.env.scope sc own) (hg : BlkPG X sc tg (gName j)) (hg1 : BlkPG X sc tg1 (gName j1)) (hv : ∀ i ∈ vs1, i ∈ own.map (·.2))
    (hsw : swapsWith (.ListComp elt [⟨tg, iter, [], 0⟩, ⟨tg1, iter1, ifs1, 0⟩] sc p2) (some (.Name n p1)) pos.line X.env = pure true) (hi : X.N[k0]? = some n := by rfl) (hx : X.env.scope.names.lookup n = some .local := by rfl) (hs : ∀ x, foldedSetIterable iter X.env x = pure x := by intro _; rfl) (hs1 : ∀ env x, foldedSetIterable iter1 env x = pure x := by intro _ _; rfl)
    (hw : ∀ x, wipe ((wipe σ (own.map (·.2))).set j (some x)) (own.map (·.2)) = wipe σ (own.map (·.2)) := by intro _; rfl) (hw1 : ∀ x y, wipe ((wipe ((wipe σ (own.map (·.2))).set j (some x)) vs1).set j1 (some y)) vs1 = wipe ((wipe σ (own.map (·.2))).set j (some x)) vs1 := by intro _ _; rfl) :
    WP X (.Assign [.Name n p1] (.ListComp elt [⟨tg, iter, [], 0⟩, ⟨tg1, iter1, ifs1, 0⟩] sc p2) pos :: rest) D σ H :=
  WP.cons (ps_setLc2 hc hN hi hx hsw piW ok hv hg (fun s H C cl fp => ⟨fun pins s' σ H1 Q I h => h s H C cl fp pins s' I⟩) (fun s H C cl fp => ⟨fun pins s' σ H1 Q I h => h s H C cl fp pins s' I⟩) hg1 (fun s H C cl fp => ⟨fun pins s' σ H1 Q I h => h s H C cl fp pins s' I⟩) (fun s H C cl fp => ⟨fun pins s' σ H1 Q I h => h s H C cl fp pins s' I⟩) hs hs1)
    (tlc22M gi hm hz hw hw1 hb hb2 B H (Ex.refl B) i _ fun q ws B2 H2 f2 h1 b2 h2 pr => k q ws B2 H2 ⟨f2, b2, h2, h1, nf_lst⟩ pr)
end
end KB
end
section
set_option Elab.async false
set_option linter.all false
set_option maxRecDepth 100000
set_option maxHeartbeats 4000000
/-! KB12: d.setdefault(k, []).extend(e). -/
namespace KB
open PySem PySem.Spec PyProof.Rows L2 KS MS
open SX (S)
section
variable {X : Cx} {e a b c o ek : Expr} {es : List Expr} {rest : List Stmt} {σ : L2.St} {B H B0 H0 : Hp} {D : Ends} {pos px p1 p2 p3 apos cpos apos2 cpos2 : Pos}
/-- what stood, but at d, stands -/
def Oth (B H B2 H2 : Hp) (d a : Addr) : Prop := ∀ b ls, b ≠ d → b ≠ a → H b = some (.lst ls) → H2 b = some (.lst ls) ∧ (B b = none → B2 b = none)
theorem wp_sdx {d : Addr} {kvs : List (Key × V)} {k : Nat} {ys : List (List Nat)} (hu : X.A.units + 1 < cLine) (m : One B0 H0 d (.dK kvs) B H) (ho : GE X o σ B (rV.r (.ref d))) (hk : GE X ek σ B (rT.r [k])) (he : GE X e σ B ((rL rT).r ys)) (hz : kvs.length < 100000) (hnk : ∀ p ∈ kvs, ∃ c, p.1 = kL c) (hy : ys.length ≤ 100000)
    (k1 : ∀ v, valV kvs (kL k) = some v → ∃ a xs, v = .ref a ∧ One B0 H0 a (.lst xs) B H ∧ xs.length + ys.length ≤ 100000 ∧ ∀ B2 H2, One B0 H0 d (.dK kvs) B2 H2 → One B0 H0 a (.lst (xs ++ ys.map tx)) B2 H2 → Ex B B2 → Oth B H B2 H2 d a → WP X rest D σ H2)
    (k2 : valV kvs (kL k) = none → ∀ q B2 H2, H q = none → q ≠ d → One B0 H0 d (.dK (putK kvs (kL k) (.ref q))) B2 H2 → One B0 H0 q (.lst (ys.map tx)) B2 H2 → Ex B B2 → Oth B H B2 H2 d q → WP X rest D σ H2)
    (m2 : L2.M2 X o "setdefault" apos2 ek (.List [] p2) cpos2 := by exact ⟨rfl, rfl, rfl, rfl⟩)
    (hss : swapsWith (.Call (.Attribute (.Call (.Attribute o "setdefault" apos2) [ek, .List [] p2] [] cpos2) "extend" apos) [e] [] cpos) none pos.line X.env = pure false := by rfl)
    (hbase : attributeBase (.Call (.Attribute o "setdefault" apos2) [ek, .List [] p2] [] cpos2) "extend" X.env (eval (.Call (.Attribute o "setdefault" apos2) [ek, .List [] p2] [] cpos2) X.env) = eval (.Call (.Attribute o "setdefault" apos2) [ek, .List [] p2] [] cpos2) X.env := by rfl)
    (hfew : ((backTo cpos (starEach [e] X.env)).all (fun x => !x.1) && (backToKw cpos (keywordEach [] X.env)).all (fun x => x.1.isSome) && decide (([e] : List Expr).length + ([] : List Keyword).length + (if ([] : List Keyword).isEmpty then 0 else 1) < 30)) = true := by rfl)
    (hline : (apos.endLine == cpos.line) = true := by rfl) (hs : starEach [e] X.env = (false, eval e X.env) :: starEach [] X.env := by rfl) (hpl : (backTo cpos (starEach [] X.env)).any (·.1) = false := by rfl) :
    WP X (.Expr (.Call (.Attribute (.Call (.Attribute o "setdefault" apos2) [ek, .List [] p2] [] cpos2) "extend" apos) [e] [] cpos) pos :: rest) D σ H := WP.cons (ps_expr peW hss)
  (W.of (pe_bm PySem.F.plainAttrs_list PySem.F.slot_list_extend PySem.F.type_list_extend mt_extend (pe_dsetd peW peW (pe_lst pa_nil) m2) (pa_cons peW pa_nil hs) hbase hfew hline hs hpl) (ho B H (Ex.refl B) m.F.i _ fun v B1 H1 f1 r1 => by
    have n1 := m.step f1
    refine ⟨d, r1, .inl ⟨kvs, .inl n1.h⟩, hk B1 H1 f1.b f1.i _ fun y B2 H2 f2 r2 => ?_⟩
    have n2 := n1.step f2
    have f12 := f1.trans f2
    refine ⟨Nat.zero_le _, fun q hq => ?_⟩
    have hqB : B2 q = none := f2.i.fresh hq
    have fq : Fr B2 H2 B2 (upd H2 q (.lst [])) := (Fr.refl f2.i).mut hq hqB
    have n3 := n2.step fq
    have nq : One B0 H0 q (.lst []) B2 (upd H2 q (.lst [])) := ⟨n2.F.trans fq, hqB, upd_same, n2.F.h.fresh hq, nf_lst⟩
    have neq : q ≠ d := fun e => by
      subst e
      rw [n2.h] at hq
      cases hq
    have hqH : H q = none := f12.h.fresh hq
    have oth : ∀ b ls, b ≠ d → H b = some (.lst ls) → b ≠ q ∧ (upd H2 q (.lst [])) b = some (.lst ls) ∧ (B b = none → B2 b = none) := fun b ls h1 h2 => by
      have ne : b ≠ q := ne_of_none h2 hqH
      exact ⟨ne, by rw [upd_ne ne]; exact f12.h.lst h2, fun hb => f12.out hb h2⟩
    refine ⟨kvs, kL k, n3.h, r2, sz5' hz, fun v3 hv3 => ?_, fun hv3 => ?_⟩
    · obtain ⟨a, xs, ea, ma, hlen, kk⟩ := k1 v3 hv3
      subst ea
      have ma3 := (ma.step f12).step fq
      have ned : a ≠ d := fun e => by
        subst e
        have h1 := m.h
        rw [ma.h] at h1
        cases h1
      refine ⟨.inl ⟨rfl, _, .inl (.inl ma3.h)⟩, he B2 _ f12.b fq.i _ fun w B4 H4 f4 ⟨p, ws, e1, h1, pr⟩ => ?_⟩
      have ma4 := ma3.step f4
      have md4 := n3.step f4
      refine ⟨a, p, xs, ws, rfl, by rw [e1], ma4.h, f4.i.lst h1, by rw [← Paired.length pr]; exact sz5 hlen, ?_⟩
      have ew : ws = ys.map tx := (pv_map (ρ := rT) (f := tx) fun _ _ => Iff.rfl).mp pr
      subst ew
      refine kk B4 _ (md4.other (o' := .lst (xs ++ ys.map tx)) ma4 ned.symm) (ma4.put nf_lst) (f12.b.trans f4.b) fun b ls h1 h2 h3 => ?_
      obtain ⟨z1, z2, z3⟩ := oth b ls h1 h3
      exact ⟨by rw [upd_ne h2]; exact f4.h.lst z2, fun hb => f4.out (z3 hb) z2⟩
    · have md : One B0 H0 d (.dK (putK kvs (kL k) (.ref q))) B2 (upd (upd H2 q (.lst [])) d (.dK (putK kvs (kL k) (.ref q)))) := n3.put (by
        refine nf_dK fun p hp => ?_
        unfold putK at hp
        split at hp
        · obtain ⟨p', h1, h2⟩ := List.mem_map.mp hp
          split at h2
          · rw [← h2]
            exact hnk p' h1
          · rw [← h2]
            exact hnk p' h1
        · rcases List.mem_append.mp hp with h | h
          · exact hnk p h
          · rw [List.mem_singleton] at h
            rw [h]
            exact ⟨k, rfl⟩)
      have mq := nq.other (o' := .dK (putK kvs (kL k) (.ref q))) n3 neq
      refine ⟨.inl ⟨rfl, _, .inl (.inl mq.h)⟩, he B2 _ f12.b md.F.i _ fun w B4 H4 f4 ⟨p, ws, e1, h1, pr⟩ => ?_⟩
      have mq4 := mq.step f4
      have md4 := md.step f4
      refine ⟨q, p, [], ws, rfl, by rw [e1], mq4.h, f4.i.lst h1, by rw [← Paired.length pr]; exact sz5 (by simpa using hy), ?_⟩
      have ew : ws = ys.map tx := (pv_map (ρ := rT) (f := tx) fun _ _ => Iff.rfl).mp pr
      subst ew
      refine k2 hv3 q B4 _ hqH neq (md4.other (o' := .lst ([] ++ ys.map tx)) mq4 neq.symm) (mq4.put nf_lst) (f12.b.trans f4.b) fun b ls h1 h2 h3 => ?_
      obtain ⟨z1, z2, z3⟩ := oth b ls h1 h3
      have z2' : (upd (upd H2 q (.lst [])) d (.dK (putK kvs (kL k) (.ref q)))) b = some (.lst ls) := by rw [upd_ne h1]; exact z2
      exact ⟨by rw [upd_ne h2]; exact f4.h.lst z2', fun hb => f4.out (z3 hb) z2'⟩))
end
end KB
namespace KB
open PySem PySem.Spec PyProof.Rows L2 KS MS
theorem One.from {B H B1 H1 B2 H2 : Hp} {p : Addr} {o : HO} (F : Fr B H B1 H1) (m : One B1 H1 p o B2 H2) : One B H p o B2 H2 := ⟨F.trans m.F, m.b, m.h, F.h.fresh m.n, m.nf⟩
end KB
namespace KB
open PySem PySem.Spec PyProof.Rows L2 KS MS
/-- p is left, what is new stays -/
theorem One.unAdd {B H Bc Hc B1 H1 : Hp} {p q : Addr} {o o2 : HO} (m : One B H p o Bc Hc) (k : One (upd Bc p o) Hc q o2 B1 H1) : q ≠ p ∧ One B H p o (upd (del B1 p) q o2) H1 ∧ Ex Bc (upd (del B1 p) q o2) := by
  have m1 := m.un k.F
  have ne : q ≠ p := fun e => by
    have := m.h
    rw [← e, k.n] at this
    cases this
  have b : del B1 p q = none := by rw [del_ne ne]; exact k.b
  exact ⟨ne, ⟨m1.F.add (m.F.h.fresh k.n) b k.h, by rw [upd_ne ne.symm]; exact del_same, m1.h, m.n, m.nf⟩, (k.F.un m.b).b.trans (Ex.new b)⟩
end KB
end
section
set_option Elab.async false
set_option linter.all false
set_option maxRecDepth 100000
set_option maxHeartbeats 4000000
/-! KB13: stores to names that are captured. -/
namespace KB
open PySem PySem.Spec PyProof.Rows L2 KS MS
open SX (S)
section
variable {X : Cx} {e a b c tg iter elt : Expr} {es ifs : List Expr} {sts rest body : List Stmt} {st : Stmt} {σ : L2.St} {B B' H : Hp} {D : Ends} {pos px p1 p2 p3 pz apos cpos : Pos}
variable {α β γ : Type} {ρ : R α} {τ : R β} {υ : R γ} {x : α} {y : β} {z : γ} {P : As}
/-- n, m, o = a, b, c, by a tuple -/
theorem wp_tup3 (i j l : Nat) {n m o : Str} {kk k2 : Nat} {pt : Pos} (ih : Ex B H) (ha : GE X a σ B (ρ.r x)) (hb : GE X b σ B (τ.r y)) (hc' : GE X c σ B (υ.r z)) (k : ∀ v w u B1 H1, Fr B H B1 H1 → ρ.r x v B1 → τ.r y w B1 → υ.r z u B1 → WP X rest D (((σ.set i (some v)).set j (some w)).set l (some u)) H1) (hc : X.calm = true) (hN : X.N.Nodup) (hi : X.N[i]? = some n := by rfl) (hj : X.N[j]? = some m := by rfl) (hl : X.N[l]? = some o := by rfl)
    (hx : Loc X.env.scope n := by first | exact Or.inl rfl | exact Or.inr rfl) (hy : Loc X.env.scope m := by first | exact Or.inl rfl | exact Or.inr rfl) (hz : Loc X.env.scope o := by first | exact Or.inl rfl | exact Or.inr rfl)
    (hw : swappedStores [.Tuple [.Name n p1, .Name m p2, .Name o pz] kk p3] (.Tuple [a, b, c] k2 pt) X.env = pure none := by rfl) (hs : swapsWithSole [.Tuple [.Name n p1, .Name m p2, .Name o pz] kk p3] (.Tuple [a, b, c] k2 pt) pos.line X.env = pure false := by rfl) (h1 : (assignEach [.Tuple [.Name n p1, .Name m p2, .Name o pz] kk p3] X.env).map (·.2) = [assign (.Tuple [.Name n p1, .Name m p2, .Name o pz] kk p3) X.env] := by rfl)
    (hf : X.fn n = true ∨ X.env.scope.names.lookup n = some .local := by first | exact Or.inl rfl | exact Or.inr rfl) (hf2 : X.fn m = true ∨ X.env.scope.names.lookup m = some .local := by first | exact Or.inl rfl | exact Or.inr rfl) (hf3 : X.fn o = true ∨ X.env.scope.names.lookup o = some .local := by first | exact Or.inl rfl | exact Or.inr rfl)
    (hn : (assignEach [.Name n p1, .Name m p2, .Name o pz] X.env).length = 3 := by rfl) (hst : (assignEach [.Name n p1, .Name m p2, .Name o pz] X.env).findIdx? (·.1) = none := by rfl)
    (hss : (assignEach ([.Name n p1, .Name m p2, .Name o pz]) X.env).map (·.2) = assign (.Name n p1) X.env :: (assignEach [.Name m p2, .Name o pz] X.env).map (·.2) := by rfl) (hss2 : (assignEach ([.Name m p2, .Name o pz]) X.env).map (·.2) = assign (.Name m p2) X.env :: (assignEach [.Name o pz] X.env).map (·.2) := by rfl) (hss3 : (assignEach ([.Name o pz]) X.env).map (·.2) = assign (.Name o pz) X.env :: (assignEach [] X.env).map (·.2) := by rfl)
    (hs1 : starEach [a, b, c] X.env = (false, eval a X.env) :: starEach [b, c] X.env := by rfl) (hs2 : starEach [b, c] X.env = (false, eval b X.env) :: starEach [c] X.env := by rfl) (hs3 : starEach [c] X.env = (false, eval c X.env) :: starEach [] X.env := by rfl) :
    WP X (.Assign [.Tuple [.Name n p1, .Name m p2, .Name o pz] kk p3] (.Tuple [a, b, c] k2 pt) pos :: rest) D σ H :=
  WP.cons (ps_asg (pe_tup paW) (pg_tup hc (pgs_cons (pg_name hN hi hx hf) (pgs_cons (pg_name hN hj hy hf2) (pgs_cons (pg_name hN hl hz hf3) pgs_nil hss3) hss2) hss) hn hst) hs hw h1)
    (ga3 ha hb hc' hs1 hs2 hs3 B H (Ex.refl B) ih _ fun vs B1 H1 u ⟨v, w, t, e1, r1, r2, r3⟩ => by
      subst e1
      refine ⟨show 3 ≤ sizeLine by decide, fun p hp => ⟨p, [v, w, t], rfl, .inl (.inl upd_same), rfl, v, [w, t], rfl, w, [t], rfl, t, [], rfl, rfl, ?_⟩⟩
      have F := u.trans (Fr.new (o := .tup [v, w, t]) u.i hp)
      have E := (Fr.new (o := .tup [v, w, t]) u.i hp).b
      exact k v w t _ _ F (ρ.ex E r1) (τ.ex E r2) (υ.ex E r3))
/-- name = [.. for one in ..], a captured name; the list may be changed -/
theorem wp_setLcN (j : Nat) {n : Str} {own : List (Str × Nat)} {jt : Nat} {sc : Scope} {xs : List α} (i : Ex B H) (p : α → Bool) (f : α → β) (gi : GI X tg iter σ B ρ xs) (hz : xs.length ≤ 100000) (hb : Turn1 X sc ifs elt σ own jt B ρ xs p τ f)
    (k : ∀ q ws B1 H1, One B H q (.lst ws) B1 H1 → Paired (fun x v => τ.r x v B1) ((xs.filter p).map f) ws → WP X rest D (σ.set j (some (.ref q))) H1) (hc : X.calm = true) (hN : X.N.Nodup) (ok : BlkOk X.N X.env.scope sc own) (hg : BlkPG X sc tg (gName jt))
    (hi : X.N[j]? = some n := by rfl) (hx : Loc X.env.scope n := by first | exact Or.inl rfl | exact Or.inr rfl) (hsw : swapsWith (.ListComp elt [⟨tg, iter, ifs, 0⟩] sc p2) (some (.Name n p1)) pos.line X.env = pure false := by rfl) (hf : X.fn n = true ∨ X.env.scope.names.lookup n = some .local := by first | exact Or.inl rfl | exact Or.inr rfl) (hs : ∀ x, foldedSetIterable iter X.env x = pure x := by intro _; rfl)
    (hw : ∀ x, wipe ((wipe σ (own.map (·.2))).set jt (some x)) (own.map (·.2)) = wipe σ (own.map (·.2)) := by intro _; rfl) :
    WP X (.Assign [.Name n p1] (.ListComp elt [⟨tg, iter, ifs, 0⟩] sc p2) pos :: rest) D σ H :=
  WP.cons (ps_set hN hi hx (pe_lc hc hN piW ok hg (fun s H C cl fp => ⟨fun pins s' σ H1 Q I h => h s H C cl fp pins s' I⟩) (fun s H C cl fp => ⟨fun pins s' σ H1 Q I h => h s H C cl fp pins s' I⟩) hs) hsw hf)
    (tlc_okM gi hz gm_name (fun a v B1 H1 ha x _ r => ⟨hw v, rfl, hb a v B1 ha x r⟩) B H (Ex.refl B) i _ fun q ws B2 H2 f2 h1 b2 h2 pr => k q ws B2 H2 ⟨f2, b2, h2, h1, nf_lst⟩ pr)
end
end KB
namespace KB
open PySem PySem.Spec PyProof.Rows L2 KS MS
section
variable {X : Cx} {a b : Expr} {σ : L2.St} {B : Hp} {pos : Pos} {α : Type} {ρ : R α}
theorem g_ixLW {Pp : List α → Prop} {i : Nat} (ha : GE X a σ B ((rW (rL ρ) Pp).r ())) (hb : GE X b σ B (rI.r (i : Int))) (hi : ∀ xs, Pp xs → i < xs.length) (hs : PlainIx b := by exact fun _ _ => rfl) : GE X (.Subscript a b pos) σ B ((rW ρ fun x => ∃ xs, Pp xs ∧ xs[i]? = some x).r ()) :=
  g_sub2 (ρ := rW (rL ρ) Pp) (τ := rI) (x := ()) ix_list ha hb (fun v w B1 H1 _ ih ⟨xs, hP, p, vs, e1, h1, pr⟩ rw' Q q => by
    obtain ⟨u, hu, ru⟩ := p_get pr (List.getElem?_eq_getElem (hi xs hP))
    exact ⟨p, vs, i, u, e1, rw', .inl (.inl (ih.lst h1)), atI_nat hu, q u ⟨_, ⟨xs, hP, List.getElem?_eq_getElem (hi xs hP)⟩, ru⟩⟩) hs
end
end KB
namespace KB
open PySem PySem.Spec PyProof.Rows L2 KS MS
/-- p changes, what is new stays -/
theorem One.addO {B H Bc Hc B1 H1 : Hp} {p q : Addr} {o o2 : HO} (m : One B H p o Bc Hc) (k : One Bc Hc q o2 B1 H1) : q ≠ p ∧ One B H p o (upd B1 q o2) H1 ∧ Ex Bc (upd B1 q o2) := by
  have m1 := m.step k.F
  have ne : q ≠ p := fun e => by
    have := m.h
    rw [← e, k.n] at this
    cases this
  exact ⟨ne, ⟨m1.F.add (m.F.h.fresh k.n) k.b k.h, by rw [upd_ne ne.symm]; exact m1.b, m1.h, m.n, m.nf⟩, k.F.b.trans (Ex.new k.b)⟩
end KB
namespace KB
open PySem PySem.Spec PyProof.Rows L2 KS MS
theorem Lck.one {d p : Addr} {kvs : List (Key × V)} {o : Obj} {H1 : Hp} {L U : Hp → Hp} (K : Lck d kvs o H1 L U) {B H B1 : Hp} {u : HO} (m : One B H p u B1 H1) (ne : p ≠ d) (hx : Ex H H1) : One (L B) (L H) p u (L B1) (L H1) ∧ (∀ {u' : HO} {B2 H2 : Hp}, One (L B) (L H) p u' B2 H2 → One B H p u' (U B2) (U H2)) := by
  refine ⟨⟨⟨K.lm m.F.h, K.lm m.F.b, K.lm m.F.i, fun a q => ?_⟩, K.ln.mpr m.b, by rw [K.lo ne]; exact m.h, K.ln.mpr m.n, m.nf⟩, fun {u' B2 H2} k => ?_⟩
  · rcases m.F.f a (fun e => q (K.ln.mpr e)) with z | z
    · exact .inl fun e => z (K.ln.mp e)
    · exact .inr (K.ln.mpr z)
  · have eH : U (L H) = H := K.ul hx
    have eB : U (L B) = B := K.ul (m.F.b.trans m.F.i)
    have hh := K.um k.F.h
    have hb := K.um k.F.b
    rw [eH] at hh
    rw [eB] at hb
    refine ⟨⟨hh, hb, K.um k.F.i, fun a q => ?_⟩, K.un.mpr k.b, by rw [K.uo ne]; exact k.h, m.n, k.nf⟩
    rcases k.F.f a (fun e => q (K.un.mpr e)) with z | z
    · exact .inl fun e => z (K.ln.mpr e)
    · exact .inr (K.ln.mp z)
end KB
namespace KB
open PySem PySem.Spec PyProof.Rows L2 KS MS
section
variable {X : Cx} {e : Expr} {σ : L2.St} {B : Hp} {pos px : Pos} {α : Type} {ρ : R α}
theorem call_lenD' : CallR X (.builtin "len") (fun xs H Q => ∃ (a : Addr) (kvs : List (Key × V)), xs = [V.ref a] ∧ Rd H a (.dK kvs) ∧ Q (.int kvs.length) H) := by
  intro pins s σ H xs us Q I r h
  obtain ⟨a, kvs, rfl, ha, q⟩ := h
  rw [Vals.ref1 r]
  exact d_len I ha fun t s' I' => ⟨.int kvs.length, H, I', ⟨t, rfl⟩, q⟩
theorem g_lenD {xs : List (Nat × α)} (hm : X.mg "len" = none) (h : GE X e σ B ((rD ρ).r xs)) (he : starEach [e] X.env = (false, eval e X.env) :: starEach [] X.env := by rfl) (hg : Gl X "len" := by rfl) (hpl : (backTo pos (starEach [] X.env)).any (·.1) = false := by rfl) : GE X (.Call (.Name "len" px) [e] [] pos) σ B (rN.r xs.length) :=
  g_callB call_lenD' hm (ga1 h he) (fun vs B1 H1 _ ih ⟨v, e1, p, ws, e2, h2, pr⟩ Q q => ⟨p, ws, by rw [e1, e2], rdx ih h2 (kd_allD pr).1, q _ _ _ (Fr.refl ih) (by rw [Paired.length pr]; rfl)⟩) (by decide +kernel) hg (by decide) (by decide) he hpl
end
end KB
end
section
set_option Elab.async false
set_option linter.all false
set_option maxRecDepth 100000
set_option maxHeartbeats 4000000
/-! KB14: values of which only something is known; the feed. -/
namespace KB
open PySem PySem.Spec PyProof.Rows L2 KS MS
open SX (S)
section
variable {B H : Hp} {p c : Addr} {o o1 o2 o' : HO}
theorem Fr.feed' (i : Ex B H) (hb : B p = some o1) (hh : H p = some o2) (f1 : Fd c o1) (f2 : Fd c o2) (f' : Fd c o') : Fr B H (upd B p o') (upd H p o') := ⟨Ex.feed hh f2 f', Ex.feed hb f1 f', ex_upd2 i, fun a q => by
  by_cases e : a = p
  · subst e
    exact .inl (by rw [hb]; exact fun z => nomatch z)
  · rw [upd_ne e] at q
    exact .inl q⟩
theorem fd_ex {B H : Hp} (i : Ex B H) (h : B p = some o) (f : Fd c o) : ∃ o', H p = some o' ∧ Fd c o' := by
  obtain ⟨o', h', r⟩ := i p o h
  rcases r with rfl | ⟨c', g, g'⟩
  · exact ⟨o', h', f⟩
  · obtain ⟨x1, x2, x3, e1⟩ := f
    obtain ⟨y1, y2, y3, e2⟩ := g
    rw [e1] at e2
    have hc : c = c' := by
      injection e2 with e2
      injection e2 with e2 _
      have := congrArg Prod.snd e2
      injection this
    subst hc
    exact ⟨o', h', g'⟩
end
section
variable {X : Cx} {e a b d tg iter elt : Expr} {es ifs : List Expr} {sts rest body : List Stmt} {st : Stmt} {σ : L2.St} {B B' H : Hp} {D : Ends} {pos px p1 p2 p3 apos cpos : Pos}
variable {α β γ : Type} {ρ : R α} {τ : R β} {υ : R γ} {x : α} {y : β} {z : γ} {P : As} {Pa Pb Pc : Int → Prop}
abbrev rWI (P : Int → Prop) : R Unit := rW rI P
theorem GE.we {Pp : α → Prop} (h : GE X e σ B (ρ.r x)) (p : Pp x) : GE X e σ B ((rW ρ Pp).r ()) := h.w p
theorem ge_wmono {Pp Pq : α → Prop} (h : GE X e σ B ((rW ρ Pp).r ())) (k : ∀ x, Pp x → Pq x) : GE X e σ B ((rW ρ Pq).r ()) := h.imp fun _ _ _ ⟨x, p, r⟩ => ⟨x, k x p, r⟩
theorem g_addE (Pc : Int → Prop) (ha : GE X a σ B ((rWI Pa).r ())) (hb : GE X b σ B ((rWI Pb).r ())) (h : ∀ i j, Pa i → Pb j → Pc (i + j)) : GE X (.BinOp a .Add b pos) σ B ((rWI Pc).r ()) :=
  g_op op_add ha hb fun v w B1 H1 _ ih ⟨i, pi, rv⟩ ⟨j, pj, rw'⟩ Q q => ⟨i, j, rv, rw', q.val ih ⟨_, h i j pi pj, rfl⟩⟩
theorem g_mulE (Pc : Int → Prop) (ha : GE X a σ B ((rWI Pa).r ())) (hb : GE X b σ B ((rWI Pb).r ())) (h : ∀ i j, Pa i → Pb j → CMul i j ∧ Pc (i * j)) : GE X (.BinOp a .Mult b pos) σ B ((rWI Pc).r ()) :=
  g_op op_mul ha hb fun v w B1 H1 _ ih ⟨i, pi, rv⟩ ⟨j, pj, rw'⟩ Q q => ⟨i, j, rv, rw', (h i j pi pj).1, q.val ih ⟨_, (h i j pi pj).2, rfl⟩⟩
theorem g_modE (Pc : Int → Prop) (ha : GE X a σ B ((rWI Pa).r ())) (hb : GE X b σ B ((rWI Pb).r ())) (h : ∀ i j, Pa i → Pb j → 0 < j ∧ Pc (i % j)) : GE X (.BinOp a .Mod b pos) σ B ((rWI Pc).r ()) :=
  g_op op_mod ha hb fun v w B1 H1 _ ih ⟨i, pi, rv⟩ ⟨j, pj, rw'⟩ Q q => ⟨i, j, rv, rw', (h i j pi pj).1, q.val ih ⟨_, (h i j pi pj).2, rfl⟩⟩
theorem g_fdivE (Pc : Int → Prop) (ha : GE X a σ B ((rWI Pa).r ())) (hb : GE X b σ B ((rWI Pb).r ())) (h : ∀ i j, Pa i → Pb j → CDiv i j ∧ Pc (i / j)) : GE X (.BinOp a .FloorDiv b pos) σ B ((rWI Pc).r ()) :=
  g_op op_fdiv ha hb fun v w B1 H1 _ ih ⟨i, pi, rv⟩ ⟨j, pj, rw'⟩ Q q => ⟨i, j, rv, rw', (h i j pi pj).1, q.val ih ⟨_, (h i j pi pj).2, rfl⟩⟩
theorem g_intE (hm : X.mg "int" = none) (h : GE X e σ B ((rWI Pa).r ())) (he : starEach [e] X.env = (false, eval e X.env) :: starEach [] X.env := by rfl) (hg : Gl X "int" := by rfl) (hpl : (backTo pos (starEach [] X.env)).any (·.1) = false := by rfl) : GE X (.Call (.Name "int" px) [e] [] pos) σ B ((rWI Pa).r ()) :=
  g_callTy call_int1 hm (ga1 h he) (fun vs B1 H1 _ ih ⟨v, e1, i, p, r⟩ Q q => .inl ⟨i, by rw [e1, r], q _ _ _ (Fr.refl ih) ⟨i, p, rfl⟩⟩) (by decide +kernel) hg (by decide) (by decide) he hpl
/-! ### tests of which only something is known -/
def GTe (X : Cx) (e : Expr) (σ : L2.St) (B : Hp) (Pk : Bool → Prop) : Prop := ∀ B1 H, Ex B B1 → Ex B1 H → ∀ Q : Bool → Hp → Prop, (∀ k B2 H2, Fr B1 H B2 H2 → Pk k → Q k H2) → WT X e σ H Q
def GWe (X : Cx) (e : Expr) (σ : L2.St) (B : Hp) (Pk : Bool → Prop) : Prop := ∀ B1 H, Ex B B1 → Ex B1 H → ∀ Q : Bool → Hp → Prop, (∀ k B2 H2, Fr B1 H B2 H2 → Pk k → Q k H2) → WW X e σ H Q
theorem GT.ee {k : Bool} (h : GT X e σ B k) : GTe X e σ B (· = k) := fun B1 H1 x i Q q => h B1 H1 x i Q fun B2 H2 f => q k B2 H2 f rfl
theorem t_cmpE {op : CmpOp} {r : R2} (ho : OpR X (compareOp op) r) (ha : GE X a σ B (ρ.r x)) (hb : GE X b σ B (τ.r y)) (hr : ∀ v w B1 H1, Ex B B1 → Ex B1 H1 → ρ.r x v B1 → τ.r y w B1 → ∀ Q : VK, (∀ k, Q (.bl k) H1) → r v w H1 Q) (hm : behindInMarks op b = false := by first | exact nomark _ | rfl) : GTe X (.Compare a [op] [b] pos) σ B (fun _ => True) := fun B1 H1 e i Q q =>
  WT.of (pt_cmpR ho peW peW hm) (ha B1 H1 e i _ fun v B2 H2 f2 rv => hb B2 H2 (e.trans f2.b) f2.i _ fun w B3 H3 f3 rw' => hr v w B3 H3 ((e.trans f2.b).trans f3.b) f3.i (ρ.ex f3.b rv) rw' (fun x H' => ∃ k, x = .bl k ∧ Q k H') fun k => ⟨k, rfl, q k B3 H3 (f2.trans f3) trivial⟩)
theorem t_gtE (ha : GE X a σ B ((rWI Pa).r ())) (hb : GE X b σ B ((rWI Pb).r ())) (hm : behindInMarks .Gt b = false := by first | exact nomark _ | rfl) : GTe X (.Compare a [.Gt] [b] pos) σ B (fun _ => True) :=
  t_cmpE op_gt ha hb (fun v w B1 H1 _ _ ⟨i, _, rv⟩ ⟨j, _, rw'⟩ Q q => ⟨i, j, rv, rw', q _⟩) hm
theorem t_eqE (ha : GE X a σ B ((rWI Pa).r ())) (hb : GE X b σ B ((rWI Pb).r ())) (hm : behindInMarks .Eq b = false := by first | exact nomark _ | rfl) : GTe X (.Compare a [.Eq] [b] pos) σ B (fun _ => True) :=
  t_cmpE op_eq ha hb (fun v w B1 H1 _ _ ⟨i, _, rv⟩ ⟨j, _, rw'⟩ Q q => by
    rw [show v = .int i from rv, show w = .int j from rw']
    exact ⟨rfl, q _⟩) hm
theorem GWe.t {Pk : Bool → Prop} (h : GWe X e σ B Pk) : GTe X e σ B Pk := fun B1 H1 x i Q q => fun pins s I => h B1 H1 x i Q q _ pins s I
theorem w_and1E {Pk : Bool → Prop} (h : GTe X e σ B Pk) : GWe X (.BoolOp .And [e] pos) σ B Pk := fun B1 H1 x i Q q => WW.of (pw_and1 ptW) (h B1 H1 x i Q q)
theorem w_or1E {Pk : Bool → Prop} (h : GTe X e σ B Pk) : GWe X (.BoolOp .Or [e] pos) σ B Pk := fun B1 H1 x i Q q => WW.of (pw_or1 ptW) (h B1 H1 x i Q q)
/-- a and b, a known -/
theorem t_andE {k : Bool} {Pk : Bool → Prop} (h : GT X a σ B k) (h2 : k = true → GTe X b σ B Pk) : GTe X (.BoolOp .And [a, b] pos) σ B (fun j => k = false ∧ j = false ∨ k = true ∧ Pk j) := GWe.t fun B1 H1 x i Q q =>
  WW.of (pw_and ptW pwW) (h B1 H1 x i _ fun B2 H2 f2 => by
    cases k with
    | true => exact w_and1E (h2 rfl) B2 H2 (x.trans f2.b) f2.i Q fun j B3 H3 f3 pj => q j B3 H3 (f2.trans f3) (.inr ⟨rfl, pj⟩)
    | false => exact q false B2 H2 f2 (.inl ⟨rfl, rfl⟩))
theorem t_orE {k : Bool} {Pk : Bool → Prop} (h : GT X a σ B k) (h2 : k = false → GTe X b σ B Pk) : GTe X (.BoolOp .Or [a, b] pos) σ B (fun j => k = true ∧ j = true ∨ k = false ∧ Pk j) := GWe.t fun B1 H1 x i Q q =>
  WW.of (pw_or ptW pwW) (h B1 H1 x i _ fun B2 H2 f2 => by
    cases k with
    | false => exact w_or1E (h2 rfl) B2 H2 (x.trans f2.b) f2.i Q fun j B3 H3 f3 pj => q j B3 H3 (f2.trans f3) (.inr ⟨rfl, pj⟩)
    | true => exact q true B2 H2 f2 (.inl ⟨rfl, rfl⟩))
theorem wp_ifE {Pk : Bool → Prop} (i : Ex B H) (h : GTe X d σ B Pk) (h1 : Pk true → ∀ B1 H1, Fr B H B1 H1 → WP X body { D with nx := WP X rest D } σ H1) (h2 : Pk false → ∀ B1 H1, Fr B H B1 H1 → WP X sts { D with nx := WP X rest D } σ H1) : WP X (.If d body sts pos :: rest) D σ H :=
  WP.cons (ps_if ptW pssW pssW) (h B H (Ex.refl B) i _ fun k B1 H1 u pk => by
    cases k with
    | true => exact h1 pk B1 H1 u
    | false => exact h2 pk B1 H1 u)
theorem ws_ifE {Pk : Bool → Prop} (i : Ex B H) (h : GTe X d σ B Pk) (h1 : Pk true → ∀ B1 H1, Fr B H B1 H1 → WP X body D σ H1) (h2 : Pk false → ∀ B1 H1, Fr B H B1 H1 → WP X sts D σ H1) : WS X (.If d body sts pos) D σ H :=
  WS.of (ps_if ptW pssW pssW) (h B H (Ex.refl B) i _ fun k B1 H1 u pk => by
    cases k with
    | true => exact h1 pk B1 H1 u
    | false => exact h2 pk B1 H1 u)
theorem g_ifE {Pk : Bool → Prop} (h : GTe X d σ B Pk) (h1 : Pk true → GE X a σ B P) (h2 : Pk false → GE X b σ B P) : GE X (.IfExp d a b pos) σ B P := fun B1 H1 x i Q q =>
  W.of (pe_ifExp ptW peW peW) (h B1 H1 x i _ fun k B2 H2 f2 pk => by
    cases k with
    | true => exact h1 pk B2 H2 (x.trans f2.b) f2.i Q fun w B3 H3 f3 r3 => q w B3 H3 (f2.trans f3) r3
    | false => exact h2 pk B2 H2 (x.trans f2.b) f2.i Q fun w B3 H3 f3 r3 => q w B3 H3 (f2.trans f3) r3)
/-! ### the feed -/
theorem g_cstr {s : Str} {j} : GE X (.Constant (.str s) j pos) σ B (rV.r (.str s)) := ge_const pe_str fun _ => rfl
theorem g_feed {kx : Str} {j} (hu : X.A.units + 1 < cLine) (h : GE X a σ B (rF.r ())) (hk : kx = "at" ∨ kx = "left" ∨ kx = "drawn") (hs : NoSl (.Constant (.str kx) j p1) := by exact fun _ _ => rfl) : GE X (.Subscript a (.Constant (.str kx) j p1) pos) σ B ((rWI fun k => 0 ≤ k).r ()) := fun B1 H1 q i0 Q k =>
  W.of (pe_dget hu peW peW hs) (h B1 H1 q i0 _ fun v B2 H2 e2 rv => g_cstr B2 H2 (Ex.refl B2) e2.i _ fun w B3 H3 e3 rw' => by
    obtain ⟨fa, c, o, ns, ev, ho, fo, hc⟩ := rF.ex e3.b rv
    obtain ⟨o', ho', fo'⟩ := fd_ex e3.i ho fo
    obtain ⟨n1, n2, n3, eo⟩ := fo'
    subst eo
    rcases hk with rfl | rfl | rfl
    · exact ⟨fa, .int n1, ev, .inl ⟨_, .inr "at", .inl ho', rw', rfl⟩, k _ B3 H3 (e2.trans e3) ⟨_, Int.natCast_nonneg _, rfl⟩⟩
    · exact ⟨fa, .int n2, ev, .inl ⟨_, .inr "left", .inl ho', rw', rfl⟩, k _ B3 H3 (e2.trans e3) ⟨_, Int.natCast_nonneg _, rfl⟩⟩
    · exact ⟨fa, .int n3, ev, .inl ⟨_, .inr "drawn", .inl ho', rw', rfl⟩, k _ B3 H3 (e2.trans e3) ⟨_, Int.natCast_nonneg _, rfl⟩⟩)
theorem g_feedC {j} (hu : X.A.units + 1 < cLine) (h : GE X a σ B (rF.r ())) (hs : NoSl (.Constant (.str "cells") j p1) := by exact fun _ _ => rfl) : GE X (.Subscript a (.Constant (.str "cells") j p1) pos) σ B ((rW (rL rI) fun _ => True).r ()) := fun B1 H1 q i0 Q k =>
  W.of (pe_dget hu peW peW hs) (h B1 H1 q i0 _ fun v B2 H2 e2 rv => g_cstr B2 H2 (Ex.refl B2) e2.i _ fun w B3 H3 e3 rw' => by
    obtain ⟨fa, c, o, ns, ev, ho, fo, hc⟩ := rF.ex e3.b rv
    obtain ⟨o', ho', fo'⟩ := fd_ex e3.i ho fo
    obtain ⟨n1, n2, n3, eo⟩ := fo'
    subst eo
    exact ⟨fa, .ref c, ev, .inl ⟨_, .inr "cells", .inl ho', rw', rfl⟩, k _ B3 H3 (e2.trans e3) ⟨ns, trivial, lI.mpr ⟨c, rfl, hc⟩⟩⟩)
theorem put_at {c : Addr} {n1 n2 n3 : Nat} {w : V} : putK [((.inr "cells" : Key), V.ref c), (.inr "at", .int n1), (.inr "left", .int n2), (.inr "drawn", .int n3)] (.inr "at") w = [((.inr "cells" : Key), V.ref c), (.inr "at", w), (.inr "left", .int n2), (.inr "drawn", .int n3)] := by rfl
theorem put_left {c : Addr} {n1 n2 n3 : Nat} {w : V} : putK [((.inr "cells" : Key), V.ref c), (.inr "at", .int n1), (.inr "left", .int n2), (.inr "drawn", .int n3)] (.inr "left") w = [((.inr "cells" : Key), V.ref c), (.inr "at", .int n1), (.inr "left", w), (.inr "drawn", .int n3)] := by rfl
theorem put_drawn {c : Addr} {n1 n2 n3 : Nat} {w : V} : putK [((.inr "cells" : Key), V.ref c), (.inr "at", .int n1), (.inr "left", .int n2), (.inr "drawn", .int n3)] (.inr "drawn") w = [((.inr "cells" : Key), V.ref c), (.inr "at", .int n1), (.inr "left", .int n2), (.inr "drawn", w)] := by rfl
/-- feed[..] = e -/
theorem wp_feed {kx : Str} {j} (hu : X.A.units + 1 < cLine) (i : Ex B H) (he : GE X e σ B ((rWI fun k => 0 ≤ k).r ())) (ho : GE X a σ B (rF.r ())) (hk : kx = "at" ∨ kx = "left" ∨ kx = "drawn") (k : ∀ B2 H2, Fr B H B2 H2 → WP X rest D σ H2)
    (hs : swapsWith e (some (.Subscript a (.Constant (.str kx) j p2) p1)) pos.line X.env = pure false := by rfl) : WP X (.Assign [.Subscript a (.Constant (.str kx) j p2) p1] e pos :: rest) D σ H :=
  WP.cons (ps_dput hu peW peW peW hs) (he B H (Ex.refl B) i _ fun w B1 H1 x1 ⟨n, pn, rn⟩ => ho B1 H1 x1.b x1.i _ fun v B2 H2 x2 r2 => g_cstr B2 H2 (Ex.refl B2) x2.i _ fun u B3 H3 x3 r3 => by
    obtain ⟨fa, c, o, ns, ev, ho, fo, hc⟩ := rF.ex x3.b r2
    obtain ⟨o', ho', fo'⟩ := fd_ex x3.i ho fo
    obtain ⟨n1, n2, n3, eo⟩ := fo'
    have rn : w = .int n := rn
    have en : w = .int ((n.toNat : Nat) : Int) := by rw [rn]; congr 1; omega
    have F := (x1.trans x2).trans x3
    subst eo
    rcases hk with rfl | rfl | rfl
    · refine ⟨fa, _, ev, .inl ⟨_, .inr "at", ho', r3, show 4 < sizeLine by decide, rfl⟩, ?_⟩
      rw [put_at, en]
      exact k _ _ (F.trans (Fr.feed' x3.i ho ho' fo ⟨n1, n2, n3, rfl⟩ ⟨n.toNat, n2, n3, rfl⟩))
    · refine ⟨fa, _, ev, .inl ⟨_, .inr "left", ho', r3, show 4 < sizeLine by decide, rfl⟩, ?_⟩
      rw [put_left, en]
      exact k _ _ (F.trans (Fr.feed' x3.i ho ho' fo ⟨n1, n2, n3, rfl⟩ ⟨n1, n.toNat, n3, rfl⟩))
    · refine ⟨fa, _, ev, .inl ⟨_, .inr "drawn", ho', r3, show 4 < sizeLine by decide, rfl⟩, ?_⟩
      rw [put_drawn, en]
      exact k _ _ (F.trans (Fr.feed' x3.i ho ho' fo ⟨n1, n2, n3, rfl⟩ ⟨n1, n2, n.toNat, rfl⟩)))
/-! ### more of unknown values -/
theorem g_ixLE {xs : List α} {Pp : Int → Prop} (ha : GE X a σ B ((rL ρ).r xs)) (hb : GE X b σ B ((rWI Pp).r ())) (hi : ∀ k, Pp k → 0 ≤ k ∧ k < xs.length) (hs : PlainIx b := by exact fun _ _ => rfl) : GE X (.Subscript a b pos) σ B ((rW ρ (· ∈ xs)).r ()) :=
  g_sub2 (ρ := rL ρ) (τ := rWI Pp) ix_list ha hb (fun v w B1 H1 _ ih ⟨p, vs, e1, h1, pr⟩ ⟨k, pk, rk⟩ Q q => by
    obtain ⟨h2, h3⟩ := hi k pk
    have hlt : k.toNat < xs.length := by omega
    obtain ⟨u, hu, ru⟩ := p_get pr (List.getElem?_eq_getElem hlt)
    exact ⟨p, vs, k.toNat, u, e1, by rw [show w = .int k from rk]; congr 1; omega, .inl (.inl (ih.lst h1)), atI_nat hu, q u ⟨_, List.getElem_mem hlt, ru⟩⟩) hs
theorem g_call2E {k j : Nat} {n : Str} {px : Pos} {Pre : α → β → Prop} {T : α → β → As} {Pp : α → Prop} (cl : C8.Cal X.prog X.w X.K X.mg X.base k n (sp2 ρ τ Pre T) []) (hr : Room j X.A) (hk : k ≤ j) (ha : GE X a σ B ((rW ρ Pp).r ())) (hb : GE X b σ B (τ.r y)) (hp : ∀ x, Pp x → Pre x y) (hT : ∀ x v H, Pp x → T x y v H → P v H) (hg : Gl X n := by rfl) (hdb : (n == ("__debug__" : Str)) = false := by decide)
    (he : starEach [a, b] X.env = (false, eval a X.env) :: starEach [b] X.env := by rfl) (he2 : starEach [b] X.env = (false, eval b X.env) :: starEach [] X.env := by rfl) (hpl : (backTo pos (starEach [b] X.env)).any (·.1) = false := by rfl) : GE X (.Call (.Name n px) [a, b] [] pos) σ B P :=
  g_call cl hr hk (ga2 ha hb he he2) (fun vs B1 H1 _ i ⟨v, w, e1, ⟨x, px, r1⟩, r2⟩ Q q => ⟨x, y, v, w, B1, by rw [e1]; rfl, i, r1, r2, hp x px, fun u B2 H2 f2 p => q u B2 H2 f2 (hT x u B2 px p)⟩) hg hdb he hpl
theorem g_catE {Pa Pb : List Nat → Prop} (Pc : List Nat → Prop) (ha : GE X a σ B ((rW rT Pa).r ())) (hb : GE X b σ B ((rW rT Pb).r ())) (h : ∀ l m, Pa l → Pb m → l.length + m.length ≤ 100000 ∧ Pc (l ++ m)) : GE X (.BinOp a .Add b pos) σ B ((rW rT Pc).r ()) :=
  g_op op_add_str ha hb fun v w B1 H1 _ ih ⟨l, pl, rv⟩ ⟨m, pm, rw'⟩ Q q => ⟨S l, S m, rv, rw', by rw [SX.S_len, SX.S_len]; exact Nat.le_trans (h l m pl pm).1 (by decide), by rw [SX.S_cat]; exact q.val ih ⟨_, (h l m pl pm).2, rfl⟩⟩
theorem lw_split {H : Hp} {Pp : α → Prop} : ∀ {us : List Unit} {vs : List V}, Paired (fun x v => (rW ρ Pp).r x v H) us vs → ∃ xs : List α, xs.length = us.length ∧ (∀ x ∈ xs, Pp x) ∧ Paired (fun x v => ρ.r x v H) xs vs
  | _, _, .nil => ⟨[], rfl, fun x hx => (nomatch hx), .nil⟩
  | _, _, .cons r t => by
    obtain ⟨xs, h1, h2, h3⟩ := lw_split t
    obtain ⟨x, px, rx⟩ := r
    refine ⟨x :: xs, by rw [List.length_cons, List.length_cons, h1], fun y hy => ?_, .cons rx h3⟩
    rcases List.mem_cons.mp hy with rfl | hy
    · exact px
    · exact h2 y hy
/-- a list of unknown things -/
theorem ge_lW {us : List Unit} {Pp : α → Prop} (h : GE X e σ B ((rL (rW ρ Pp)).r us)) : GE X e σ B ((rW (rL ρ) fun xs => xs.length = us.length ∧ ∀ x ∈ xs, Pp x).r ()) := h.imp fun v B1 _ ⟨p, vs, e1, h1, pr⟩ => by
  obtain ⟨xs, h2, h3, h4⟩ := lw_split pr
  exact ⟨xs, ⟨h2, h3⟩, p, vs, e1, h1, h4⟩
/-! ### sources of unknown length -/
def GIe {α : Type} (X : Cx) (tg iter : Expr) (σ : L2.St) (B : Hp) (ρ : R α) (Px : List α → Prop) : Prop := ∀ B1 H, Ex B B1 → Ex B1 H → ∀ Rr : It → Hp → Prop,
  (∀ xs, Px xs → ∀ (J : It) (B2 H2 : Hp) (G : Hp → Prop), Fr B1 H B2 H2 → (∀ H3, Ex B2 H3 → G H3) → Walk J xs.length G (fun i Ha x Hb => ∀ Bj, Ex B2 Bj → Ex Bj Ha → ∃ Bb, Fr Bj Ha Bb Hb ∧ ∀ a, xs[i]? = some a → ρ.r a x Bb) → Rr J H2) → WI X tg iter σ H Rr
theorem gi_rangeE {Pp : Int → Prop} (hm : X.mg "range" = none) (h : GE X e σ B ((rWI Pp).r ())) (hn : ∀ k, Pp k → 0 ≤ k ∧ k ≤ 100000) (hs : starEach [e] X.env = [(false, eval e X.env)] := by rfl) (hg : Gl X "range" := by rfl) : GIe X tg (.Call (.Name "range" px) [e] [] pos) σ B rN (fun xs => ∃ n : Nat, Pp n ∧ xs = List.range n) := fun B1 H1 u i0 Rr k =>
  WI.of (pi_range1 hg hm paW hs) (ga1 h hs B1 H1 u i0 _ fun vs B2 H2 x2 ⟨v, e1, m, pm, r⟩ => by
    obtain ⟨h1, h2⟩ := hn m pm
    obtain ⟨n, rfl⟩ : ∃ n : Nat, m = (n : Int) := ⟨m.toNat, by omega⟩
    refine ⟨n, by rw [e1, r], by omega, by omega, k (List.range n) ⟨n, pm, rfl⟩ _ B2 H2 (fun _ => True) x2 (fun _ _ => trivial) ?_⟩
    rw [List.length_range, Int.toNat_natCast]
    refine walk_range.mono (fun _ h => h) fun i Ha x Hb hi _ ⟨e2, hx⟩ => ?_
    subst e2
    refine fun Bj x4 x5 => ⟨Bj, Fr.refl x5, fun a ha => ?_⟩
    rw [List.getElem?_range hi] at ha
    cases ha
    rw [hx]
    show V.int (0 + (i : Int)) = nI i
    rw [Int.zero_add])
theorem tlc_okE {Px : List α → Prop} {f : α → β} {p : α → Bool} {vs : List Nat} {g : TG} {sc : Scope} (gi : GIe X tg iter σ B ρ Px) (hz : ∀ xs, Px xs → xs.length ≤ 100000)
    (hgm : ∀ v σ H (Q Q' : L2.St → Hp → Prop), (∀ σ H, Q σ H → Q' σ H) → g v σ H Q → g v σ H Q')
    (hb : ∀ a v B1 H1, Ex B B1 → Ex B1 H1 → ρ.r a v B1 → g v (wipe σ vs) H1 fun σ2 H2 => wipe σ2 vs = wipe σ vs ∧ H2 = H1 ∧ ∀ (s : Shared) (H0 : Hp) (C : Addr) (cl : List (Str × Addr)) (fp : List Addr), GTs (Blk X sc s H0 C cl fp) ifs σ2 B1 (p a) ∧ (p a = true → GE (Blk X sc s H0 C cl fp) elt σ2 B1 (τ.r (f a)))) :
    ∀ B1 H1, Ex B B1 → Ex B1 H1 → ∀ Q : VK, (∀ xs q ws B2 H2, Px xs → Fr B1 H1 B2 H2 → H1 q = none → B2 q = none → H2 q = some (.lst ws) → Paired (fun x v => τ.r x v B2) ((xs.filter p).map f) ws → Q (.ref q) H2) → tLc (WI X tg iter) g (BWTs X sc ifs) (BW X sc elt) vs σ H1 Q := fun B1 H1 u i0 Q q =>
  gi B1 H1 u i0 _ fun xs hPx J B2 H2 G x2 hG w D hD => lc_it w (fun i H3 => ∃ Bj, Fr B2 H2 Bj H3 ∧ Bj D = none ∧ ∃ ws, H3 D = some (.lst ws) ∧ Paired (fun x v => τ.r x v Bj) (((xs.take i).filter p).map f) ws)
    ⟨B2, (Fr.refl x2.i).mut hD (x2.i.fresh hD), x2.i.fresh hD, [], upd_same, by simp; exact .nil⟩ (fun i H3 _ ⟨Bj, f3, _⟩ => hG H3 (f3.b.trans f3.i)) (fun i v H3 H4 hi ⟨Bj, f3, dj, ws, hw, pr⟩ hy => by
      have ha : xs[i]? = some xs[i] := List.getElem?_eq_getElem hi
      obtain ⟨Bb, f4, ra⟩ := hy Bj f3.b f3.i
      have rv := ra _ ha
      have lw : ws.length ≤ i := by
        rw [← Paired.length pr, List.length_map]
        exact Nat.le_trans (List.length_filter_le ..) (by rw [List.length_take]; omega)
      refine hgm v _ _ _ _ (fun σ2 H5 ⟨k1, k2, k3⟩ => ?_) (hb _ v Bb H4 (((u.trans x2.b).trans f3.b).trans f4.b) f4.i rv)
      subst k2
      refine ⟨k1, fun s H0 C cl fp => (k3 s H0 C cl fp).1 Bb H5 (Ex.refl Bb) f4.i _ fun B6 H6 f6 => ?_⟩
      have step : ((xs.take (i + 1)).filter p).map f = ((xs.take i).filter p).map f ++ (if p xs[i] = true then [f xs[i]] else []) := by
        rw [List.take_add_one, ha, List.filter_append, List.map_append]
        show _ ++ (List.filter p [xs[i]]).map f = _
        cases hp : p xs[i] <;> simp [hp]
      have f46 := f4.trans f6
      cases hp : p xs[i] with
      | false =>
        show ∃ Bj, _
        refine ⟨B6, f3.trans f46, f46.out dj hw, ws, f46.h.lst hw, ?_⟩
        rw [step, hp]
        show Paired _ (_ ++ []) ws
        rw [List.append_nil]
        exact pmap pr fun x v r => τ.ex f46.b r
      | true =>
        show BW X sc elt σ2 H6 _
        intro s H0 C cl fp
        refine (k3 s H0 C cl fp).2 hp B6 H6 f6.b f6.i _ fun y B7 H7 f7 ry => ?_
        have f47 := f46.trans f7
        have d7 := f47.out dj hw
        have hzz := hz xs hPx
        refine ⟨ws, f47.h.lst hw, sz5' (by omega), B7, (f3.trans f47).mut hD d7, d7, ws ++ [y], upd_same, ?_⟩
        rw [step, hp]
        exact p_app (pmap pr fun x v r => τ.ex f47.b r) (.cons ry .nil)) fun H3 ⟨Bj, f3, dj, ws, hw, pr⟩ => by
      rw [List.take_length] at pr
      exact q xs D ws Bj H3 hPx (x2.trans f3) (x2.h.fresh hD) dj hw pr
theorem ws_forE {g : TG} {Px : List α → Prop} (J : List α → L2.St → Hp → Hp → Prop) (i : Ex B H) (gi : GIe X tg iter σ B ρ Px) (hg : PG X tg g) (h0 : ∀ B1 H1, Fr B H B1 H1 → J [] σ B1 H1)
    (hs : ∀ xs pre a post v σ' Bj H1 Bb H2, Px xs → xs = pre ++ a :: post → Ex B Bj → Ex Bj H1 → J pre σ' Bj H1 → Fr Bj H1 Bb H2 → ρ.r a v Bb → g v σ' H2 fun σ2 H3 => WP X body { D with nx := fun σ H => ∃ B3, Ex Bb B3 ∧ Ex B3 H ∧ J (pre ++ [a]) σ B3 H, ct := fun σ H => ∃ B3, Ex Bb B3 ∧ Ex B3 H ∧ J (pre ++ [a]) σ B3 H, bk := D.nx } σ2 H3)
    (hd : ∀ xs σ' B1 H1, Px xs → Ex B B1 → Ex B1 H1 → J xs σ' B1 H1 → D.nx σ' H1) (hc : X.calm = true) (hp : PassesOwn (model X.prog X.w) X.A X.env X.xe := by exact PassesOwn.never) (hf : ∀ x, foldedSetIterable iter X.env x = pure x := by intro _; rfl)
    (hgm : ∀ v σ H (Q Q' : L2.St → Hp → Prop), (∀ σ H, Q σ H → Q' σ H) → g v σ H Q → g v σ H Q') : WS X (.For tg iter body [] pos) D σ H :=
  WS.of (ps_for hp hc piW hg pssW hf) (gi B H (Ex.refl B) i _ fun xs hPx Jt B2 H2 G x2 hG w => for_it w (fun n σ' H' => ∃ Bj, Ex B2 Bj ∧ Ex Bj H' ∧ J (xs.take n) σ' Bj H')
    ⟨B2, Ex.refl B2, x2.i, by rw [List.take_zero]; exact h0 B2 H2 x2⟩ (fun n σ' H' _ ⟨Bj, x3, x4, _⟩ => hG H' (x3.trans x4)) (fun n v σ' H3 H4 hn ⟨Bj, x3, x4, j⟩ hy => by
      obtain ⟨Bb, f4, ra⟩ := hy Bj x3 x4
      have ha : xs[n]? = some xs[n] := List.getElem?_eq_getElem hn
      have sp : xs = xs.take n ++ xs[n] :: xs.drop (n + 1) := by rw [← List.drop_eq_getElem_cons hn, List.take_append_drop]
      have st : xs.take (n + 1) = xs.take n ++ [xs[n]] := by rw [List.take_add_one, ha]; rfl
      refine hgm v σ' H4 _ _ (fun σ2 H5 h => ?_) (hs xs _ _ _ v σ' Bj H3 Bb H4 hPx sp (x2.b.trans x3) x4 j f4 (ra _ ha))
      rw [st]
      refine fun pins s I => thn (h pins s I) fun f s1 q => ?_
      cases f with
      | next =>
        obtain ⟨σ7, H7, I7, B7, y1, y2, y3⟩ := q
        exact ⟨σ7, H7, I7, B7, (x3.trans f4.b).trans y1, y2, y3⟩
      | cont =>
        obtain ⟨σ7, H7, I7, B7, y1, y2, y3⟩ := q
        exact ⟨σ7, H7, I7, B7, (x3.trans f4.b).trans y1, y2, y3⟩
      | brk => exact q
      | ret v => exact q) (fun σ' H' ⟨Bj, x3, x4, j⟩ => hd xs σ' Bj H' hPx (x2.b.trans x3) x4 (by rw [List.take_length] at j; exact j)))
theorem wp_forE {g : TG} {Px : List α → Prop} (J : List α → L2.St → Hp → Hp → Prop) (i : Ex B H) (gi : GIe X tg iter σ B ρ Px) (hg : PG X tg g) (h0 : ∀ B1 H1, Fr B H B1 H1 → J [] σ B1 H1)
    (hs : ∀ xs pre a post v σ' Bj H1 Bb H2, Px xs → xs = pre ++ a :: post → Ex B Bj → Ex Bj H1 → J pre σ' Bj H1 → Fr Bj H1 Bb H2 → ρ.r a v Bb → g v σ' H2 fun σ2 H3 => WP X body { D with nx := fun σ H => ∃ B3, Ex Bb B3 ∧ Ex B3 H ∧ J (pre ++ [a]) σ B3 H, ct := fun σ H => ∃ B3, Ex Bb B3 ∧ Ex B3 H ∧ J (pre ++ [a]) σ B3 H, bk := WP X rest D } σ2 H3)
    (hd : ∀ xs σ' B1 H1, Px xs → Ex B B1 → Ex B1 H1 → J xs σ' B1 H1 → WP X rest D σ' H1) (hc : X.calm = true) (hp : PassesOwn (model X.prog X.w) X.A X.env X.xe := by exact PassesOwn.never) (hf : ∀ x, foldedSetIterable iter X.env x = pure x := by intro _; rfl)
    (hgm : ∀ v σ H (Q Q' : L2.St → Hp → Prop), (∀ σ H, Q σ H → Q' σ H) → g v σ H Q → g v σ H Q') : WP X (.For tg iter body [] pos :: rest) D σ H :=
  WP.cons psW (ws_forE (D := { D with nx := WP X rest D }) J i gi hg h0 hs hd hc hp hf hgm)
/-- a comprehension over a source of unknown length, its things unknown -/
theorem g_lcE {own : List (Str × Nat)} {j : Nat} {sc : Scope} {Px : List α → Prop} {Pp : β → Prop} {m : Nat} (hc : X.calm = true) (hN : X.N.Nodup) (ok : BlkOk X.N X.env.scope sc own) (hg : ∀ (s : Shared) (H : Hp) (C : Addr) (cl : List (Str × Addr)) (fp : List Addr), PG (X.blk s H sc (compEnvC sc cl C X.env) fp) tg (gName j)) (gi : GIe X tg iter σ B ρ Px) (hm : ∀ xs, Px xs → xs.length ≤ m) (hz : m ≤ 100000)
    (hb : ∀ a v B1, Ex B B1 → ρ.r a v B1 → ∀ (s : Shared) (H0 : Hp) (C : Addr) (cl : List (Str × Addr)) (fp : List Addr), GE (Blk X sc s H0 C cl fp) elt ((wipe σ (own.map (·.2))).set j (some v)) B1 ((rW τ Pp).r ()))
    (hw : ∀ x, wipe ((wipe σ (own.map (·.2))).set j (some x)) (own.map (·.2)) = wipe σ (own.map (·.2)) := by intro _; rfl) (hs : ∀ x, foldedSetIterable iter X.env x = pure x := by intro _; rfl) :
    GE X (.ListComp elt [⟨tg, iter, [], 0⟩] sc pos) σ B ((rW (rL τ) fun xs => (∃ ys, Px ys ∧ xs.length = ys.length) ∧ ∀ x ∈ xs, Pp x).r ()) :=
  g_lcv hc hN ok hg (fun B1 H1 u i0 Q q => tlc_okE (τ := rW τ Pp) (f := fun _ => ()) (p := fun _ => true) gi (fun xs hx => Nat.le_trans (hm xs hx) hz) gm_name (fun a v B1 H1 x _ r => ⟨hw v, rfl, fun s H0 C cl fp => ⟨ts_nil, fun _ => hb a v B1 x r s H0 C cl fp⟩⟩) B1 H1 u i0 Q fun xs D ws B2 H2 hx f2 h1 b2 h2 pr => by
    obtain ⟨ys, e1, e2, e3⟩ := lw_split pr
    refine q _ _ H2 (f2.add h1 b2 h2) ⟨ys, ⟨⟨xs, hx, ?_⟩, e2⟩, D, ws, rfl, upd_same, pmap e3 fun x v r => τ.ex (Ex.new b2) r⟩
    rw [e1, List.length_map]
    exact congrArg List.length (List.filter_eq_self.mpr fun _ _ => rfl)) hs
end
end KB
end
section
set_option Elab.async false
set_option linter.all false
set_option maxRecDepth 100000
set_option maxHeartbeats 4000000
/-! KB15: lists told one by one; more of unknown values. -/
namespace KB
open PySem PySem.Spec PyProof.Rows L2 KS MS
open SX (S)
section
variable {X : Cx} {e a b d : Expr} {es : List Expr} {rest : List Stmt} {σ : L2.St} {B H : Hp} {D : Ends} {pos px p1 p2 p3 apos cpos : Pos}
variable {α β γ : Type} {ρ : R α} {τ : R β} {υ : R γ} {x : α} {y : β} {z : γ} {P : As}
theorem gaL_nil : GA X [] σ B (fun vs H => Paired (fun x v => ρ.r x v H) [] vs) := fun B1 H1 x i Q q => WA.of pa_nil (q [] B1 H1 (Fr.refl i) .nil)
theorem gaL_cons {xs : List α} (h : GE X e σ B (ρ.r x)) (h2 : GA X es σ B (fun vs H => Paired (fun x v => ρ.r x v H) xs vs)) (hs : starEach (e :: es) X.env = (false, eval e X.env) :: starEach es X.env := by rfl) : GA X (e :: es) σ B (fun vs H => Paired (fun x v => ρ.r x v H) (x :: xs) vs) := fun B1 H1 u i Q q =>
  WA.of (pa_cons peW paW hs) (h B1 H1 u i _ fun v B2 H2 f2 r => h2 B2 H2 (u.trans f2.b) f2.i _ fun vs B3 H3 f3 r3 => q _ B3 H3 (f2.trans f3) (.cons (ρ.ex f3.b r) r3))
theorem g_lstL {xs : List α} (h : GA X es σ B (fun vs H => Paired (fun x v => ρ.r x v H) xs vs)) (hn : xs.length ≤ 1000) : GE X (.List es pos) σ B ((rL ρ).r xs) := fun B1 H1 u i Q q =>
  W.of (pe_lst paW) (h B1 H1 u i _ fun vs B2 H2 f2 r => ⟨by rw [← Paired.length r]; exact Nat.le_trans hn (by decide), fun p hp => q _ _ _ (f2.trans (Fr.new f2.i hp)) ⟨p, vs, rfl, upd_same, pmap r fun x v r => ρ.ex (Fr.new f2.i hp).b r⟩⟩)
def sp0 (T : As) : Sp := fun vs H Q _ => ∃ B, vs = [] ∧ Ex B H ∧ Gv T B H Q
theorem g_call0 {k j : Nat} {n : Str} {T : As} (cl : C8.Cal X.prog X.w X.K X.mg X.base k n (sp0 T) []) (hr : Room j X.A) (hk : k ≤ j) (hg : Gl X n := by rfl) (hdb : (n == ("__debug__" : Str)) = false := by decide) : GE X (.Call (.Name n px) [] [] pos) σ B T := fun B1 H1 u i Q q => by
  obtain ⟨f, fd, ps, ds, F, hm, kp, b, dd⟩ := cl.ex
  exact W.of (pe_call0 (E := C8.E0) F (hr.mono hk) hg hm kp b dd C8.pass0 hdb) ⟨B1, rfl, i, q⟩
/-- n, m = e, of which something is known -/
theorem wp_pairW (i j : Nat) {n m : Str} {kk : Nat} {Pp : α × β → Prop} (ih : Ex B H) (h : GE X e σ B ((rW (rP ρ τ) Pp).r ())) (k : ∀ x y v w B1 H1, Pp (x, y) → Fr B H B1 H1 → ρ.r x v B1 → τ.r y w B1 → WP X rest D ((σ.set i (some v)).set j (some w)) H1) (hc : X.calm = true) (hN : X.N.Nodup) (hi : X.N[i]? = some n := by rfl) (hj : X.N[j]? = some m := by rfl) (hx : Loc X.env.scope n := by first | exact Or.inl rfl | exact Or.inr rfl) (hy : Loc X.env.scope m := by first | exact Or.inl rfl | exact Or.inr rfl)
    (hs : swapsWithSole [.Tuple [.Name n p1, .Name m p2] kk p3] e pos.line X.env = pure false := by rfl) (hw : swappedStores [.Tuple [.Name n p1, .Name m p2] kk p3] e X.env = pure none := by rfl) (h1 : (assignEach [.Tuple [.Name n p1, .Name m p2] kk p3] X.env).map (·.2) = [assign (.Tuple [.Name n p1, .Name m p2] kk p3) X.env] := by rfl)
    (hf : X.fn n = true ∨ X.env.scope.names.lookup n = some .local := by first | exact Or.inl rfl | exact Or.inr rfl) (hf2 : X.fn m = true ∨ X.env.scope.names.lookup m = some .local := by first | exact Or.inl rfl | exact Or.inr rfl)
    (hn : (assignEach [.Name n p1, .Name m p2] X.env).length = 2 := by rfl) (hst : (assignEach [.Name n p1, .Name m p2] X.env).findIdx? (·.1) = none := by rfl)
    (hss : (assignEach ([.Name n p1, .Name m p2]) X.env).map (·.2) = assign (.Name n p1) X.env :: (assignEach [.Name m p2] X.env).map (·.2) := by rfl) (hss2 : (assignEach ([.Name m p2]) X.env).map (·.2) = assign (.Name m p2) X.env :: (assignEach [] X.env).map (·.2) := by rfl) :
    WP X (.Assign [.Tuple [.Name n p1, .Name m p2] kk p3] e pos :: rest) D σ H :=
  WP.cons (ps_asg peW (pg_tup hc (pgs_cons (pg_name hN hi hx hf) (pgs_cons (pg_name hN hj hy hf2) pgs_nil hss2) hss) hn hst) hs hw h1) (h B H (Ex.refl B) ih _ fun v B1 H1 u ⟨(x, y), px, r⟩ => g_pr u.i r fun vx vy rx ry => k x y vx vy B1 H1 px u rx ry)
/-- name = a + b, two lists; the new list may be changed -/
theorem wp_setCatM (j : Nat) {n : Str} {Pa Pb : List α → Prop} (ih : Ex B H) (ha : GE X a σ B ((rW (rL ρ) Pa).r ())) (hb : GE X b σ B ((rW (rL ρ) Pb).r ())) (hz : ∀ xs ys, Pa xs → Pb ys → xs.length + ys.length ≤ 100000)
    (k : ∀ q xs ys ws B1 H1, Pa xs → Pb ys → One B H q (.lst ws) B1 H1 → Paired (fun x v => ρ.r x v B1) (xs ++ ys) ws → WP X rest D (σ.set j (some (.ref q))) H1) (hN : X.N.Nodup) (hi : X.N[j]? = some n := by rfl) (hx : Loc X.env.scope n := by first | exact Or.inl rfl | exact Or.inr rfl) (hs : swapsWith (.BinOp a .Add b p2) (some (.Name n p1)) pos.line X.env = pure false := by rfl) (hf : X.fn n = true ∨ X.env.scope.names.lookup n = some .local := by first | exact Or.inl rfl | exact Or.inr rfl) :
    WP X (.Assign [.Name n p1] (.BinOp a .Add b p2) pos :: rest) D σ H :=
  WP.cons (ps_set hN hi hx (pe_op op_cat peW peW) hs hf) (ha B H (Ex.refl B) ih _ fun v B2 H2 f2 ⟨xs, pxs, l, vs, e1, h1, q1⟩ => hb B2 H2 f2.b f2.i _ fun w B3 H3 f3 ⟨ys, pys, m, ws, e2, h2, q2⟩ => by
    have hh1 := f3.b.lst h1
    have F := f2.trans f3
    refine ⟨l, m, vs, ws, e1, e2, f3.i.lst hh1, f3.i.lst h2, by rw [← Paired.length q1, ← Paired.length q2]; exact Nat.le_trans (hz xs ys pxs pys) (by decide), fun p hp => ?_⟩
    exact k p xs ys (vs ++ ws) B3 _ pxs pys (One.new F hp nf_lst) (p_app (pmap q1 fun x v r => ρ.ex f3.b r) q2))
/-- o.pop(i), i unknown -/
theorem wp_popAtE {p : Addr} {xs : List V} {Pp : Int → Prop} (ih : Ex B H) (ho : GE X a σ B (rV.r (.ref p))) (he : GE X e σ B ((rWI Pp).r ())) (hp : H p = some (.lst xs)) (hn : ∀ k, Pp k → 0 ≤ k ∧ k < xs.length) (hz : xs.length ≤ 100000) (k : ∀ n B2 H2, n < xs.length → Fr B H B2 H2 → H2 p = some (.lst xs) → WP X rest D σ (upd H2 p (.lst (xs.eraseIdx n)))) (hss : swapsWith (.Call (.Attribute a "pop" apos) [e] [] cpos) none pos.line X.env = pure false := by rfl) (hbase : attributeBase a "pop" X.env (eval a X.env) = eval a X.env := by rfl)
    (hfew : ((backTo cpos (starEach [e] X.env)).all (fun x => !x.1) && (backToKw cpos (keywordEach [] X.env)).all (fun x => x.1.isSome) && decide (([e] : List Expr).length + ([] : List Keyword).length + (if ([] : List Keyword).isEmpty then 0 else 1) < 30)) = true := by rfl)
    (hline : (apos.endLine == cpos.line) = true := by rfl) (hs : starEach [e] X.env = (false, eval e X.env) :: starEach [] X.env := by rfl) (hpl : (backTo cpos (starEach [] X.env)).any (·.1) = false := by rfl) :
    WP X (.Expr (.Call (.Attribute a "pop" apos) [e] [] cpos) pos :: rest) D σ H := WP.cons (ps_expr peW hss)
  (W.of (pe_bm PySem.F.plainAttrs_list PySem.F.slot_list_pop PySem.F.type_list_pop mt_popAt peW (pa_cons peW pa_nil hs) hbase hfew hline hs hpl) (ho B H (Ex.refl B) ih _ fun v B1 H1 x1 r => ⟨by cases r; exact .inl ⟨rfl, _, .inl (.inl (x1.h.lst hp))⟩, he B1 H1 x1.b x1.i _ fun w B2 H2 x2 ⟨kk, pk, r2⟩ => by
    obtain ⟨h1, h2⟩ := hn kk pk
    obtain ⟨n, rfl⟩ : ∃ n : Nat, kk = (n : Int) := ⟨kk.toNat, by omega⟩
    have hlt : n < xs.length := by omega
    obtain ⟨y, hy⟩ : ∃ y, xs[n]? = some y := ⟨xs[n], List.getElem?_eq_getElem hlt⟩
    refine ⟨p, xs, (n : Int), n, y, r, by rw [show w = .int (n : Int) from r2], (x1.trans x2).h.lst hp, by omega, by omega, ?_, hy, k n B2 H2 hlt (x1.trans x2) ((x1.trans x2).h.lst hp)⟩
    have z : ¬ ((n : Int) < 0) := by omega
    simp [seqIndex?, z, hlt]⟩))
/-- name = [.. for one in ..], a local, the source of unknown length, the things unknown -/
theorem wp_setLcE (k0 : Nat) {n : Str} {tg iter elt : Expr} {own : List (Str × Nat)} {j : Nat} {sc : Scope} {Px : List α → Prop} {Pp : β → Prop} {m : Nat} (ih : Ex B H) (gi : GIe X tg iter σ B ρ Px) (hm : ∀ xs, Px xs → xs.length ≤ m) (hz : m ≤ 100000)
    (hb : ∀ a v B1, Ex B B1 → ρ.r a v B1 → ∀ (s : Shared) (H0 : Hp) (C : Addr) (cl : List (Str × Addr)) (fp : List Addr), GE (Blk X sc s H0 C cl fp) elt ((wipe σ (own.map (·.2))).set j (some v)) B1 ((rW τ Pp).r ()))
    (k : ∀ v B1 H1, Fr B H B1 H1 → (rW (rL τ) fun xs => (∃ ys, Px ys ∧ xs.length = ys.length) ∧ ∀ x ∈ xs, Pp x).r () v B1 → WP X rest D (σ.set k0 (some v)) H1) (hc : X.calm = true) (hN : X.N.Nodup) (ok : BlkOk X.N X.env.scope sc own) (hg : ∀ (s : Shared) (H : Hp) (C : Addr) (cl : List (Str × Addr)) (fp : List Addr), PG (X.blk s H sc (compEnvC sc cl C X.env) fp) tg (gName j))
    (hsw : swapsWith (.ListComp elt [⟨tg, iter, [], 0⟩] sc p2) (some (.Name n p1)) pos.line X.env = pure true) (hi : X.N[k0]? = some n := by rfl) (hx : X.env.scope.names.lookup n = some .local := by rfl) (hs : ∀ x, foldedSetIterable iter X.env x = pure x := by intro _; rfl)
    (hw : ∀ x, wipe ((wipe σ (own.map (·.2))).set j (some x)) (own.map (·.2)) = wipe σ (own.map (·.2)) := by intro _; rfl) :
    WP X (.Assign [.Name n p1] (.ListComp elt [⟨tg, iter, [], 0⟩] sc p2) pos :: rest) D σ H :=
  WP.cons (ps_setLc hc hN hi hx hsw piW ok hg (fun s H C cl fp => ⟨fun pins s' σ H1 Q I h => h s H C cl fp pins s' I⟩) (fun s H C cl fp => ⟨fun pins s' σ H1 Q I h => h s H C cl fp pins s' I⟩) hs)
    (tlc_okE (τ := rW τ Pp) (f := fun _ => ()) (p := fun _ => true) gi (fun xs hx => Nat.le_trans (hm xs hx) hz) gm_name (fun a v B1 H1 x _ r => ⟨hw v, rfl, fun s H0 C cl fp => ⟨ts_nil, fun _ => hb a v B1 x r s H0 C cl fp⟩⟩) B H (Ex.refl B) ih _ fun xs D ws B2 H2 hx f2 h1 b2 h2 pr => by
      obtain ⟨ys, e1, e2, e3⟩ := lw_split pr
      refine k _ _ H2 (f2.add h1 b2 h2) ⟨ys, ⟨⟨xs, hx, ?_⟩, e2⟩, D, ws, rfl, upd_same, pmap e3 fun x v r => τ.ex (Ex.new b2) r⟩
      rw [e1, List.length_map]
      exact congrArg List.length (List.filter_eq_self.mpr fun _ _ => rfl))
theorem p_erase {F : α → V → Prop} : ∀ {xs : List α} {ws : List V} (n : Nat), Paired F xs ws → Paired F (xs.eraseIdx n) (ws.eraseIdx n)
  | _, _, _, .nil => .nil
  | _, _, 0, .cons r t => t
  | _, _, n + 1, .cons r t => .cons r (p_erase n t)
end
end KB
end
section
set_option Elab.async false
set_option linter.all false
set_option maxRecDepth 100000
set_option maxHeartbeats 4000000
/-! KB16: a list's head, new. -/
namespace KB
open PySem PySem.Spec PyProof.Rows L2 KS MS
open SX (S)
section
variable {X : Cx} {e a b d : Expr} {es : List Expr} {rest : List Stmt} {σ : L2.St} {B H : Hp} {D : Ends} {pos px p1 p2 p3 apos cpos : Pos}
variable {α β γ : Type} {ρ : R α}
/-- name = o[:-e]; the new list may be changed -/
theorem wp_setButM (j : Nat) {n : Str} {xs : List α} {i : Nat} (ih : Ex B H) (ha : GE X a σ B ((rL ρ).r xs)) (hb : GE X b σ B (rI.r (-(i : Int)))) (hi0 : 0 < i) (k : ∀ q ws B1 H1, One B H q (.lst ws) B1 H1 → Paired (fun x v => ρ.r x v B1) (xs.take (xs.length - i)) ws → WP X rest D (σ.set j (some (.ref q))) H1) (hN : X.N.Nodup) (hi : X.N[j]? = some n := by rfl) (hx : Loc X.env.scope n := by first | exact Or.inl rfl | exact Or.inr rfl) (hs : swapsWith (.Subscript a (.Slice none (some b) none p3) p2) (some (.Name n p1)) pos.line X.env = pure false := by rfl) (hf : X.fn n = true ∨ X.env.scope.names.lookup n = some .local := by first | exact Or.inl rfl | exact Or.inr rfl) :
    WP X (.Assign [.Name n p1] (.Subscript a (.Slice none (some b) none p3) p2) pos :: rest) D σ H :=
  WP.cons (ps_set hN hi hx (pe_slice sl_list peW po_none (po_some peW)) hs hf) (ha B H (Ex.refl B) ih _ fun v B2 H2 f2 r2 => hb B2 H2 f2.b f2.i _ fun w B3 H3 f3 r3 => by
    obtain ⟨p, vs, e1, h1, pr⟩ := (rL ρ).ex f3.b r2
    have F := f2.trans f3
    refine ⟨_, r3, p, vs, e1, .inl (.inl (f3.i.lst h1)), fun o ho => ?_⟩
    have m := One.new (o := .lst (cutV vs none (some (-(i : Int))))) F ho nf_lst
    rw [cutV_but _ hi0, ← Paired.length pr] at m ⊢
    exact k o _ B3 _ m (p_take _ pr))
end
end KB
end
section
set_option Elab.async false
set_option linter.all false
set_option maxRecDepth 100000
set_option maxHeartbeats 4000000
/-! KB17: items of which nothing need be known. -/
namespace KB
open PySem PySem.Spec PyProof.Rows L2 KS MS
open SX (S)
section
variable {X : Cx} {e : Expr} {σ : L2.St} {B : Hp} {α : Type} {ρ : R α} {x : α}
def anyR (f : α → V → Hp → Prop) (o : Option α) (v : V) (H : Hp) : Prop := (∃ a, v = .ref a) ∧ match o with
  | none => True
  | some x => f x v H
def rAny (ρ : R α) : R (Option α) where
  r := anyR ρ.r
  ok := ρ.ok
  kd := fun v => ∃ a, v = .ref a
  st := fun {x v H H'} h k => by
    cases x with
    | none => exact h
    | some x => exact ⟨h.1, ρ.st (x := x) h.2 k⟩
  nf := ρ.nf
  kk := fun h => h.1
theorem ge_any (h : GE X e σ B ((rAny ρ).r (some x))) : GE X e σ B (ρ.r x) := h.imp fun _ _ _ r => r.2
/-- a known value -/
theorem ge_vr {v : V} (h : GE X e σ B (rV.r v)) (r : ρ.r x v B) : GE X e σ B (ρ.r x) := h.imp fun w B1 i e => by
  rw [show w = v from e]
  exact ρ.ex i r
end
end KB
end
section
set_option autoImplicit false
set_option linter.all false
/-! M1: a shape as a forest in preorder; right words of it; what is worked out place by place. -/
namespace MF
open MS
inductive F where
  | nil
  | cons (k r : F)
deriving DecidableEq
def F.size : F → Nat
  | .nil => 0
  | .cons k r => 1 + k.size + r.size
/-- the places of the tops -/
def idx : F → Nat → List Nat
  | .nil, _ => []
  | .cons k r, p => p :: idx r (p + 1 + k.size)
/-- the forest lies at p -/
def At (n : Nat) (kids : Nat → List Nat) : F → Nat → Prop
  | .nil, _ => True
  | .cons k r, p => p < n ∧ kids p = idx k (p + 1) ∧ At n kids k (p + 1) ∧ At n kids r (p + 1 + k.size)
instance decAt (n : Nat) (kids : Nat → List Nat) : (f : F) → (p : Nat) → Decidable (At n kids f p)
  | .nil, _ => isTrue trivial
  | .cons k r, p => by
    have := decAt n kids k (p + 1)
    have := decAt n kids r (p + 1 + k.size)
    unfold At
    exact inferInstance
/-- what may stand below c: nothing where no place is below -/
def AQ (A : Nat → List Nat → Prop) : List Nat → Nat → List Nat → Prop
  | [], _, t => t = []
  | _ :: _, c, t => A c t
/-- x is a right word of the forest at p with these tops -/
def FW (ok : Nat → Nat → Prop) (A : Nat → List Nat → Prop) : F → Nat → List Nat → List Nat → Prop
  | .nil, _, o, x => o = [] ∧ x = []
  | .cons k r, p, o, x => ∃ c o' t y z, o = c :: o' ∧ x = c :: (y ++ z) ∧ ok p c ∧ AQ A (idx k (p + 1)) c t ∧ FW ok A k (p + 1) t y ∧ FW ok A r (p + 1 + k.size) o' z
def Fit (a : Nat → Nat → Prop) : List Nat → List Nat → Prop
  | [], [] => True
  | j :: ks, c :: o => a j c ∧ Fit a ks o
  | _, _ => False
section
variable {n : Nat} {kids : Nat → List Nat} {ok : Nat → Nat → Prop} {A : Nat → List Nat → Prop} {a : Nat → Nat → Prop}
theorem fw_len : ∀ (f : F) {p : Nat} {o x : List Nat}, FW ok A f p o x → x.length = f.size
  | .nil, _, _, _, ⟨_, e⟩ => by subst e; rfl
  | .cons k r, p, _, _, ⟨c, o', t, y, z, _, e, _, _, h1, h2⟩ => by
    subst e
    rw [List.length_cons, List.length_append, fw_len k h1, fw_len r h2, F.size]
    omega
theorem fw_wd : ∀ (f : F) {p : Nat} {o x : List Nat}, FW ok A f p o x → o.length = (idx f p).length
  | .nil, _, _, _, ⟨e, _⟩ => by subst e; rfl
  | .cons k r, p, _, _, ⟨c, o', t, y, z, e, _, _, _, h1, h2⟩ => by
    subst e
    rw [idx, List.length_cons, List.length_cons, fw_wd r h2]
theorem fit_len : ∀ {ks o : List Nat}, Fit a ks o → o.length = ks.length
  | [], [], _ => rfl
  | _ :: _, _ :: _, h => by rw [List.length_cons, List.length_cons, fit_len h.2]
  | [], _ :: _, h => h.elim
  | _ :: _, [], h => h.elim
theorem app_inj {α : Type} {y y' z z' : List α} (e : y ++ z = y' ++ z') (h : y.length = y'.length) : y = y' ∧ z = z' := List.append_inj e h
theorem fw_tops : ∀ (f : F) {p : Nat} {o o' x : List Nat}, FW ok A f p o x → FW ok A f p o' x → o = o'
  | .nil, _, _, _, _, ⟨e, _⟩, ⟨e', _⟩ => by rw [e, e']
  | .cons k r, p, _, _, _, ⟨c, o1, t, y, z, e1, e2, _, _, h1, h2⟩, ⟨d, o2, t', y', z', e3, e4, _, _, h3, h4⟩ => by
    subst e1
    subst e3
    rw [e2] at e4
    injection e4 with e5 e6
    obtain ⟨e7, e8⟩ := app_inj e6 (by rw [fw_len k h1, fw_len k h3])
    subst e5
    subst e8
    rw [fw_tops r h2 h4]
theorem fw_imp {ok' : Nat → Nat → Prop} (h : ∀ p c, ok p c → ok' p c) : ∀ (f : F) {p : Nat} {o x : List Nat}, FW ok A f p o x → FW ok' A f p o x
  | .nil, _, _, _, e => e
  | .cons k r, p, _, _, ⟨c, o', t, y, z, e1, e2, h1, h2, h3, h4⟩ => ⟨c, o', t, y, z, e1, e2, h p c h1, h2, fw_imp h k h3, fw_imp h r h4⟩
/-- the signs are good ones -/
theorem fw_ok {g : Nat → Prop} (h : ∀ p c, ok p c → g c) : ∀ (f : F) {p : Nat} {o x : List Nat}, FW ok A f p o x → ∀ c ∈ x, g c
  | .nil, _, _, _, ⟨_, e⟩ => by subst e; intro c hc; cases hc
  | .cons k r, p, _, _, ⟨c, o', t, y, z, e1, e2, h1, h2, h3, h4⟩ => by
    subst e2
    intro d hd
    rcases List.mem_cons.mp hd with rfl | hd
    · exact h p _ h1
    · rcases List.mem_append.mp hd with hd | hd
      · exact fw_ok h k h3 d hd
      · exact fw_ok h r h4 d hd
/-! ### lots -/
theorem lots_ok (hl : ∀ q, q < n → ∀ c, a q c ↔ ok q c ∧ ∃ t, AQ A (kids q) c t ∧ Fit a (kids q) t) : ∀ (f : F) (p : Nat), At n kids f p → ∀ o, Fit a (idx f p) o ↔ ∃ x, FW ok A f p o x
  | .nil, p, _, [] => ⟨fun _ => ⟨[], rfl, rfl⟩, fun _ => trivial⟩
  | .nil, p, _, c :: o => ⟨fun h => h.elim, fun ⟨x, e, _⟩ => nomatch e⟩
  | .cons k r, p, h, [] => ⟨fun h => h.elim, fun ⟨x, c, o', t, y, z, e, _⟩ => nomatch e⟩
  | .cons k r, p, ⟨h0, h1, h2, h3⟩, c :: o => by
    have ik := lots_ok hl k (p + 1) h2
    have ir := lots_ok hl r _ h3 o
    show a p c ∧ Fit a (idx r _) o ↔ _
    rw [hl p h0 c, h1, ir]
    constructor
    · rintro ⟨⟨k1, t, k2, k3⟩, z, k4⟩
      obtain ⟨y, k5⟩ := (ik t).mp k3
      exact ⟨c :: (y ++ z), c, o, t, y, z, rfl, rfl, k1, k2, k5, k4⟩
    · rintro ⟨x, c', o', t, y, z, e, _, k1, k2, k5, k4⟩
      cases e
      exact ⟨⟨k1, t, k2, (ik t).mpr ⟨y, k5⟩⟩, z, k4⟩
/-! ### words -/
def ws (b : Nat → Nat → List (List Nat)) : List (List Nat) → List Nat → List Nat → List (List Nat)
  | acc, [], [] => acc
  | acc, k :: ks, c :: t => ws b (acc.flatMap fun u => (b k c).map fun m => u ++ m) ks t
  | _, _, _ => []
theorem words_ok {b : Nat → Nat → List (List Nat)} (hb : ∀ q, q < n → ∀ c x, x ∈ b q c ↔ ok q c ∧ ∃ t, AQ A (kids q) c t ∧ x ∈ ws b [[c]] (kids q) t) : ∀ (f : F) (p : Nat), At n kids f p → ∀ o acc x, x ∈ ws b acc (idx f p) o ↔ ∃ u ∈ acc, ∃ y, FW ok A f p o y ∧ x = u ++ y
  | .nil, p, _, [], acc, x => by
    show x ∈ acc ↔ _
    constructor
    · exact fun h => ⟨x, h, [], ⟨rfl, rfl⟩, (List.append_nil x).symm⟩
    · rintro ⟨u, h, y, ⟨_, e⟩, e2⟩
      subst e
      rw [e2, List.append_nil]
      exact h
  | .nil, p, _, c :: o, acc, x => ⟨fun h => (nomatch h), fun ⟨u, _, y, ⟨e, _⟩, _⟩ => nomatch e⟩
  | .cons k r, p, _, [], acc, x => ⟨fun h => (nomatch h), fun ⟨u, _, y, ⟨c, o', t, y', z, e, _⟩, _⟩ => nomatch e⟩
  | .cons k r, p, ⟨h0, h1, h2, h3⟩, c :: o, acc, x => by
    have ik := words_ok hb k (p + 1) h2
    have ir := words_ok hb r _ h3 o
    show x ∈ ws b (acc.flatMap fun u => (b p c).map fun m => u ++ m) (idx r _) o ↔ _
    rw [ir]
    constructor
    · rintro ⟨u, hu, z, hz, e⟩
      obtain ⟨v, hv, hm⟩ := List.mem_flatMap.mp hu
      obtain ⟨m, hm, e2⟩ := List.mem_map.mp hm
      obtain ⟨k1, t, k2, k3⟩ := (hb p h0 c m).mp hm
      rw [h1] at k2 k3
      obtain ⟨u2, hu2, y, k4, e3⟩ := (ik t _ _).mp k3
      rw [List.mem_singleton] at hu2
      subst hu2
      exact ⟨v, hv, c :: (y ++ z), ⟨c, o, t, y, z, rfl, rfl, k1, k2, k4, hz⟩, by rw [e, ← e2, e3]; simp⟩
    · rintro ⟨v, hv, x', ⟨c', o', t, y, z, e1, e2, k1, k2, k4, k5⟩, e⟩
      cases e1
      refine ⟨v ++ (c :: y), List.mem_flatMap.mpr ⟨v, hv, List.mem_map.mpr ⟨c :: y, (hb p h0 c _).mpr ⟨k1, t, by rw [h1]; exact k2, by rw [h1]; exact (ik t _ _).mpr ⟨[c], List.mem_singleton.mpr rfl, y, k4, rfl⟩⟩, rfl⟩⟩, z, k5, ?_⟩
      rw [e, e2]
      simp
/-! ### how many -/
def pr (m : Nat → Nat → Nat) : List Nat → List Nat → Nat
  | [], [] => 1
  | k :: ks, c :: t => m k c * pr m ks t
  | _, _ => 0
def oq (os : Nat → List (List Nat)) : List Nat → Nat → List (List Nat)
  | [], _ => [[]]
  | _ :: _, c => os c
def wl (okb : Nat → Nat → Bool) (os : Nat → List (List Nat)) : F → Nat → List Nat → List (List Nat)
  | .nil, _, [] => [[]]
  | .nil, _, _ :: _ => []
  | .cons _ _, _, [] => []
  | .cons k r, p, c :: o => if okb p c = true then (oq os (idx k (p + 1)) c).flatMap fun t => (wl okb os k (p + 1) t).flatMap fun y => (wl okb os r (p + 1 + k.size) o).map fun z => c :: (y ++ z) else []
variable {okb : Nat → Nat → Bool} {os : Nat → List (List Nat)}
theorem mem_oq {ks : List Nat} {c : Nat} {t : List Nat} : t ∈ oq os ks c ↔ AQ (fun c t => t ∈ os c) ks c t := by
  cases ks with
  | nil => exact List.mem_singleton
  | cons k ks => exact Iff.rfl
theorem mem_wl : ∀ (f : F) {p : Nat} {o x : List Nat}, x ∈ wl okb os f p o ↔ FW (fun p c => okb p c = true) (fun c t => t ∈ os c) f p o x
  | .nil, p, [], x => by
    show x ∈ [[]] ↔ _
    rw [List.mem_singleton]
    exact ⟨fun h => ⟨rfl, h⟩, fun h => h.2⟩
  | .nil, p, c :: o, x => ⟨fun h => (nomatch h), fun ⟨e, _⟩ => nomatch e⟩
  | .cons k r, p, [], x => ⟨fun h => (nomatch h), fun ⟨c, o', t, y', z, e, _⟩ => nomatch e⟩
  | .cons k r, p, c :: o, x => by
    unfold wl
    constructor
    · intro h
      split at h
      · rename_i h0
        obtain ⟨t, ht, h⟩ := List.mem_flatMap.mp h
        obtain ⟨y, hy, h⟩ := List.mem_flatMap.mp h
        obtain ⟨z, hz, e⟩ := List.mem_map.mp h
        exact ⟨c, o, t, y, z, rfl, e.symm, h0, mem_oq.mp ht, (mem_wl k).mp hy, (mem_wl r).mp hz⟩
      · cases h
    · rintro ⟨c', o', t, y, z, e1, e2, k1, k2, k4, k5⟩
      cases e1
      rw [if_pos k1]
      exact List.mem_flatMap.mpr ⟨t, mem_oq.mpr k2, List.mem_flatMap.mpr ⟨y, (mem_wl k).mpr k4, List.mem_map.mpr ⟨z, (mem_wl r).mpr k5, e2.symm⟩⟩⟩
theorem nd_wl (hn : ∀ c, (os c).Nodup) : ∀ (f : F) (p : Nat) (o : List Nat), (wl okb os f p o).Nodup
  | .nil, p, [] => by simp [wl]
  | .nil, p, c :: o => List.nodup_nil
  | .cons k r, p, [] => List.nodup_nil
  | .cons k r, p, c :: o => by
    unfold wl
    split
    · refine List.pairwise_flatMap.mpr ⟨fun t _ => List.pairwise_flatMap.mpr ⟨fun y _ => ?_, ?_⟩, ?_⟩
      · refine List.pairwise_map.mpr ((nd_wl hn r _ o).imp fun {z z'} h e => h ?_)
        injection e with _ e
        exact List.append_cancel_left e
      · refine List.Pairwise.imp_of_mem (fun {y y'} hy hy' h => ?_) (nd_wl hn k (p + 1) t)
        intro x hx x' hx' e
        obtain ⟨z, _, e1⟩ := List.mem_map.mp hx
        obtain ⟨z', _, e2⟩ := List.mem_map.mp hx'
        rw [← e1, ← e2] at e
        injection e with _ e
        exact h (app_inj e (by rw [fw_len k ((mem_wl k).mp hy), fw_len k ((mem_wl k).mp hy')])).1
      · have : (oq os (idx k (p + 1)) c).Nodup := by
          cases idx k (p + 1) with
          | nil => show ([[]] : List (List Nat)).Nodup; simp
          | cons _ _ => exact hn c
        refine this.imp fun {t t'} h => ?_
        intro x hx x' hx' e
        obtain ⟨y, hy, hx⟩ := List.mem_flatMap.mp hx
        obtain ⟨y', hy', hx'⟩ := List.mem_flatMap.mp hx'
        obtain ⟨z, _, e1⟩ := List.mem_map.mp hx
        obtain ⟨z', _, e2⟩ := List.mem_map.mp hx'
        rw [← e1, ← e2] at e
        injection e with _ e
        have e3 := (app_inj e (by rw [fw_len k ((mem_wl k).mp hy), fw_len k ((mem_wl k).mp hy')])).1
        subst e3
        exact h (fw_tops k ((mem_wl k).mp hy) ((mem_wl k).mp hy'))
    · exact List.nodup_nil
theorem sum_mul {l : List (List Nat)} {f : List Nat → Nat} {m : Nat} : (l.map fun t => f t * m).sum = (l.map f).sum * m := by
  induction l with
  | nil => simp
  | cons x l ih => rw [List.map_cons, List.map_cons, List.sum_cons, List.sum_cons, ih, Nat.add_mul]
theorem sum_const {α : Type} {l : List α} {m : Nat} : (l.map fun _ => m).sum = l.length * m := by
  induction l with
  | nil => simp
  | cons x l ih => rw [List.map_cons, List.sum_cons, ih, List.length_cons, Nat.add_mul, Nat.one_mul, Nat.add_comm]
theorem wl_cons {k r : F} {p c : Nat} {o : List Nat} : wl okb os (.cons k r) p (c :: o) = if okb p c = true then (oq os (idx k (p + 1)) c).flatMap fun t => (wl okb os k (p + 1) t).flatMap fun y => (wl okb os r (p + 1 + k.size) o).map fun z => c :: (y ++ z) else [] := rfl
theorem len_wl {m : Nat → Nat → Nat} (hm : ∀ q, q < n → ∀ c, m q c = if okb q c = true then ((oq os (kids q) c).map (pr m (kids q))).sum else 0) : ∀ (f : F) (p : Nat), At n kids f p → ∀ o, (wl okb os f p o).length = pr m (idx f p) o
  | .nil, p, _, [] => rfl
  | .nil, p, _, c :: o => rfl
  | .cons k r, p, _, [] => rfl
  | .cons k r, p, ⟨h0, h1, h2, h3⟩, c :: o => by
    show _ = m p c * pr m (idx r _) o
    rw [hm p h0 c, h1, ← len_wl hm r _ h3 o]
    rw [wl_cons]
    split
    · rw [List.length_flatMap, ← sum_mul]
      congr 1
      refine List.map_congr_left fun t _ => ?_
      rw [← len_wl hm k _ h2 t, List.length_flatMap]
      exact (congrArg List.sum (List.map_congr_left fun y _ => List.length_map _)).trans sum_const
    · simp
/-! ### how far -/
def dist (cost : Nat → Nat → Nat) : Nat → List Nat → Nat
  | _, [] => 0
  | p, c :: x => cost p c + dist cost (p + 1) x
theorem dist_app {cost : Nat → Nat → Nat} : ∀ (y z : List Nat) (p : Nat), dist cost p (y ++ z) = dist cost p y + dist cost (p + y.length) z
  | [], z, p => by simp [dist]
  | c :: y, z, p => by
    rw [List.cons_append, dist, dist, dist_app y z (p + 1), List.length_cons]
    rw [show p + 1 + y.length = p + (y.length + 1) by omega]
    omega
theorem fw_zero {cost : Nat → Nat → Nat} : ∀ (f : F) {p : Nat} {o x : List Nat}, FW (fun q c => ok q c ∧ cost q c = 0) A f p o x ↔ FW ok A f p o x ∧ dist cost p x = 0
  | .nil, p, o, x => ⟨fun h => ⟨h, by rw [h.2]; rfl⟩, fun h => h.1⟩
  | .cons k r, p, o, x => by
    constructor
    · rintro ⟨c, o', t, y, z, e1, e2, ⟨k0, k1⟩, k2, k4, k5⟩
      obtain ⟨h1, h2⟩ := (fw_zero k).mp k4
      obtain ⟨h3, h4⟩ := (fw_zero r).mp k5
      refine ⟨⟨c, o', t, y, z, e1, e2, k0, k2, h1, h3⟩, ?_⟩
      rw [e2, dist, dist_app, fw_len k h1, k1, h2, h4]
    · rintro ⟨⟨c, o', t, y, z, e1, e2, k0, k2, k4, k5⟩, h⟩
      rw [e2, dist, dist_app, fw_len k k4] at h
      exact ⟨c, o', t, y, z, e1, e2, ⟨k0, by omega⟩, k2, (fw_zero k).mpr ⟨k4, by omega⟩, (fw_zero r).mpr ⟨k5, by omega⟩⟩
/-- the sum of values below -/
def DS (D : Nat → Nat → Nat → Prop) : List Nat → List Nat → Nat → Prop
  | [], [], v => v = 0
  | k :: ks, c :: t, v => ∃ a b, v = a + b ∧ D k c a ∧ DS D ks t b
  | _, _, _ => False
theorem costs_ok {cost : Nat → Nat → Nat} {D : Nat → Nat → Nat → Prop}
    (h1 : ∀ q, q < n → ∀ c v, D q c v → ok q c ∧ ∃ v', v = v' + cost q c ∧ (∃ t, AQ A (kids q) c t ∧ DS D (kids q) t v') ∧ ∀ t u, AQ A (kids q) c t → DS D (kids q) t u → v' ≤ u)
    (h2 : ∀ q, q < n → ∀ c, ok q c → (∃ t u, AQ A (kids q) c t ∧ DS D (kids q) t u) → ∃ v, D q c v) : ∀ (f : F) (p : Nat), At n kids f p →
    (∀ o v, DS D (idx f p) o v → (∃ x, FW ok A f p o x ∧ dist cost p x = v) ∧ ∀ x, FW ok A f p o x → v ≤ dist cost p x) ∧ ∀ o x, FW ok A f p o x → ∃ v, DS D (idx f p) o v
  | .nil, p, _ => ⟨fun o v h => by
      cases o with
      | nil =>
        have h : v = 0 := h
        subst h
        exact ⟨⟨[], ⟨rfl, rfl⟩, rfl⟩, fun x _ => Nat.zero_le _⟩
      | cons c o => exact h.elim, fun o x ⟨e, _⟩ => by subst e; exact ⟨0, rfl⟩⟩
  | .cons k r, p, ⟨g0, g1, g2, g3⟩ => by
    obtain ⟨k1, k2⟩ := costs_ok h1 h2 k _ g2
    obtain ⟨r1, r2⟩ := costs_ok h1 h2 r _ g3
    refine ⟨fun o v h => ?_, ?_⟩
    · cases o with
      | nil => exact h.elim
      | cons c o =>
        obtain ⟨va, vb, e, da, db⟩ := h
        obtain ⟨oc, v', e2, ⟨t, ht, hd⟩, hmin⟩ := h1 p g0 c va da
        rw [g1] at ht hd hmin
        obtain ⟨⟨y, hy, ey⟩, ymin⟩ := k1 t v' hd
        obtain ⟨⟨z, hz, ez⟩, zmin⟩ := r1 o vb db
        refine ⟨⟨c :: (y ++ z), ⟨c, o, t, y, z, rfl, rfl, oc, ht, hy, hz⟩, ?_⟩, ?_⟩
        · rw [dist, dist_app, fw_len k hy, ey, ez]
          omega
        · rintro x ⟨c', o', t', y', z', e5, e6, _, ht', hy', hz'⟩
          cases e5
          rw [e6, dist, dist_app, fw_len k hy']
          obtain ⟨u, hu⟩ := k2 t' y' hy'
          have m1 := hmin t' u ht' hu
          have m2 := (k1 t' u hu).2 y' hy'
          have m3 := zmin z' hz'
          omega
    · rintro o x ⟨c, o', t, y, z, e1, e2, oc, ht, hy, hz⟩
      subst e1
      obtain ⟨u, hu⟩ := k2 t y hy
      obtain ⟨vb, hb⟩ := r2 o' z hz
      obtain ⟨va, ha⟩ := h2 p g0 c oc ⟨t, u, by rw [g1]; exact ht, by rw [g1]; exact hu⟩
      exact ⟨va + vb, va, vb, rfl, ha, hb⟩
/-! ### the least -/
def le (x y : List Nat) : Prop := ltL y x = false
theorem le_refl (x : List Nat) : le x x := stoL.irr x
theorem le_of {c d : Nat} {x y : List Nat} (h : c < d ∨ (c = d ∧ le x y)) : le (c :: x) (d :: y) := by
  unfold le at *
  rw [ltL_cons]
  rcases h with h | ⟨h1, h2⟩
  · have a1 : ltN d c = false := decide_eq_false (by omega)
    have a2 : decide (d = c) = false := decide_eq_false (by omega)
    rw [a1, a2]
    rfl
  · subst h1
    rw [h2]
    have a1 : ltN c c = false := decide_eq_false (by omega)
    rw [a1]
    simp
theorem le_cons {c d : Nat} {x y : List Nat} (h : le (c :: x) (d :: y)) : c < d ∨ (c = d ∧ le x y) := by
  unfold le at h ⊢
  rw [ltL_cons] at h
  by_cases h1 : c < d
  · exact .inl h1
  · by_cases h2 : d < c
    · rw [show ltN d c = true from decide_eq_true h2] at h
      cases h
    · have e : c = d := by omega
      subst e
      refine .inr ⟨rfl, ?_⟩
      have a1 : ltN c c = false := decide_eq_false (by omega)
      rw [a1] at h
      simpa using h
theorem le_app : ∀ {y y' z z' : List Nat}, y.length = y'.length → le y y' → le z z' → le (y ++ z) (y' ++ z')
  | [], [], _, _, _, _, h => h
  | c :: y, d :: y', z, z', e, h1, h2 => by
    rw [List.cons_append, List.cons_append]
    rcases le_cons h1 with h | ⟨h, h3⟩
    · exact le_of (.inl h)
    · exact le_of (.inr ⟨h, le_app (by simpa using e) h3 h2⟩)
  | [], _ :: _, _, _, e, _, _ => nomatch e
  | _ :: _, [], _, _, e, _, _ => nomatch e
def blk (G : Nat → Nat) : Nat → Nat → List Nat
  | _, 0 => []
  | p, s + 1 => G p :: blk G (p + 1) s
theorem blk_app {G : Nat → Nat} : ∀ (s u p : Nat), blk G p (s + u) = blk G p s ++ blk G (p + s) u
  | 0, u, p => by simp [blk]
  | s + 1, u, p => by
    rw [show s + 1 + u = (s + u) + 1 by omega, blk, blk, blk_app s u (p + 1), List.cons_append, show p + 1 + s = p + (s + 1) by omega]
theorem blk_len {G : Nat → Nat} : ∀ (s p : Nat), (blk G p s).length = s
  | 0, _ => rfl
  | s + 1, p => by rw [blk, List.length_cons, blk_len s]
theorem filled_ok {G : Nat → Nat} (hl : ∀ q, q < n → ∀ c, a q c ↔ ok q c ∧ ∃ t, AQ A (kids q) c t ∧ Fit a (kids q) t)
    (hG : ∀ q, q < n → a q (G q) → AQ A (kids q) (G q) ((kids q).map G) ∧ Fit a (kids q) ((kids q).map G) ∧ ∀ t, AQ A (kids q) (G q) t → Fit a (kids q) t → le ((kids q).map G) t) :
    ∀ (f : F) (p : Nat), At n kids f p → Fit a (idx f p) ((idx f p).map G) → FW ok A f p ((idx f p).map G) (blk G p f.size) ∧ ∀ o x, FW ok A f p o x → le ((idx f p).map G) o → le (blk G p f.size) x
  | .nil, p, _, _ => ⟨⟨rfl, rfl⟩, fun o x ⟨_, e⟩ _ => by subst e; exact le_refl []⟩
  | .cons k r, p, ⟨g0, g1, g2, g3⟩, hf => by
    obtain ⟨hf1, hf2⟩ : a p (G p) ∧ Fit a (idx r (p + 1 + k.size)) ((idx r (p + 1 + k.size)).map G) := hf
    obtain ⟨q1, q2, q3⟩ := hG p g0 hf1
    rw [g1] at q1 q2 q3
    obtain ⟨k1, k2⟩ := filled_ok hl hG k _ g2 q2
    obtain ⟨r1, r2⟩ := filled_ok hl hG r _ g3 hf2
    have eb : blk G p (F.cons k r).size = G p :: (blk G (p + 1) k.size ++ blk G (p + 1 + k.size) r.size) := by
      rw [F.size, show 1 + k.size + r.size = (k.size + r.size) + 1 by omega, blk, blk_app]
    rw [eb]
    refine ⟨⟨G p, _, _, _, _, rfl, rfl, ((hl p g0 _).mp hf1).1, q1, k1, r1⟩, ?_⟩
    rintro o x ⟨c, o', t, y, z, e1, e2, oc, ht, hy, hz⟩ ho
    subst e1
    subst e2
    rcases le_cons ho with h | ⟨h, h2⟩
    · exact le_of (.inl h)
    · subst h
      refine le_of (.inr ⟨rfl, ?_⟩)
      exact le_app (by rw [blk_len, fw_len k hy]) (k2 t y hy (q3 t ht ((lots_ok hl k _ g2 t).mpr ⟨y, hy⟩))) (r2 o' z hz h2)
/-! ### what all have -/
theorem fit_get : ∀ {ks o : List Nat}, Fit a ks o → ∀ i j : Nat, ks[i]? = some j → ∃ c, o[i]? = some c ∧ a j c
  | [], _, _, i, j, h => by simp at h
  | k :: ks, c :: o, ⟨h1, h2⟩, 0, j, h => by
    simp at h
    subst h
    exact ⟨c, rfl, h1⟩
  | k :: ks, c :: o, ⟨h1, h2⟩, i + 1, j, h => by
    obtain ⟨d, q1, q2⟩ := fit_get h2 i j (by simpa using h)
    exact ⟨d, by simpa using q1, q2⟩
  | _ :: _, [], h, _, _, _ => h.elim
theorem forced_ok {G : Nat → Nat → Prop} (hl : ∀ q, q < n → ∀ c, a q c ↔ ok q c ∧ ∃ t, AQ A (kids q) c t ∧ Fit a (kids q) t)
    (hG : ∀ q, q < n → ∀ i j : Nat, (kids q)[i]? = some j → ∀ c, G j c ↔ ∃ top, G q top ∧ ∃ t : List Nat, AQ A (kids q) top t ∧ Fit a (kids q) t ∧ t[i]? = some c) :
    ∀ (f : F) (p : Nat), At n kids f p → ∀ S : List Nat → Prop, (∀ o, S o → Fit a (idx f p) o) → (∀ i j : Nat, (idx f p)[i]? = some j → ∀ c, G j c ↔ ∃ o : List Nat, S o ∧ o[i]? = some c) → ∀ i, i < f.size → ∀ c, G (p + i) c ↔ ∃ o x : List Nat, S o ∧ FW ok A f p o x ∧ x[i]? = some c
  | .nil, p, _, S, _, _, i, hi, c => nomatch hi
  | .cons k r, p, ⟨g0, g1, g2, g3⟩, S, hS, hj, i, hi, c => by
    have hd := fun c => hj 0 p rfl c
    -- a word for any of S
    have wS : ∀ o, S o → ∃ c o' t y z, o = c :: o' ∧ ok p c ∧ AQ A (idx k (p + 1)) c t ∧ FW ok A k (p + 1) t y ∧ FW ok A r (p + 1 + k.size) o' z := fun o so => by
      have ff := hS o so
      cases o with
      | nil => exact ff.elim
      | cons d o' =>
        obtain ⟨f1, f2⟩ : a p d ∧ Fit a (idx r (p + 1 + k.size)) o' := ff
        obtain ⟨h1, t, h2, h3⟩ := (hl p g0 d).mp f1
        rw [g1] at h2 h3
        obtain ⟨y, hy⟩ := (lots_ok hl k _ g2 t).mp h3
        obtain ⟨z, hz⟩ := (lots_ok hl r _ g3 o').mp f2
        exact ⟨d, o', t, y, z, rfl, h1, h2, hy, hz⟩
    by_cases h0 : i = 0
    · subst h0
      rw [Nat.add_zero, hd]
      constructor
      · rintro ⟨o, so, e⟩
        obtain ⟨d, o', t, y, z, e1, h1, h2, hy, hz⟩ := wS o so
        subst e1
        simp at e
        subst e
        exact ⟨_, d :: (y ++ z), so, ⟨d, o', t, y, z, rfl, rfl, h1, h2, hy, hz⟩, rfl⟩
      · rintro ⟨o, x, so, ⟨d, o', t, y, z, e1, e2, _⟩, e⟩
        subst e1
        subst e2
        simp at e
        subst e
        exact ⟨_, so, rfl⟩
    · by_cases h1 : i < 1 + k.size
      · have ih := forced_ok hl hG k (p + 1) g2 (fun t => ∃ d o', S (d :: o') ∧ AQ A (idx k (p + 1)) d t ∧ Fit a (idx k (p + 1)) t) (fun t ⟨_, _, _, _, h⟩ => h) (fun (i j : Nat) hij c => by
          rw [hG p g0 i j (by rw [g1]; exact hij) c, g1]
          constructor
          · rintro ⟨top, gt, t, h2, h3, h4⟩
            obtain ⟨o, so, e⟩ := (hd top).mp gt
            cases o with
            | nil => simp at e
            | cons d o' =>
              simp at e
              subst e
              exact ⟨t, ⟨d, o', so, h2, h3⟩, h4⟩
          · rintro ⟨t, ⟨d, o', so, h2, h3⟩, h4⟩
            exact ⟨d, (hd d).mpr ⟨_, so, rfl⟩, t, h2, h3, h4⟩) (i - 1) (by omega) c
        rw [show p + i = p + 1 + (i - 1) by omega, ih]
        obtain ⟨i', rfl⟩ : ∃ i', i = i' + 1 := ⟨i - 1, by omega⟩
        rw [show i' + 1 - 1 = i' by omega]
        constructor
        · rintro ⟨t, y, ⟨d, o', so, h2, h3⟩, hy, e⟩
          obtain ⟨d', o'', t', y', z, e1, k1, k2, _, hz⟩ := wS _ so
          cases e1
          refine ⟨_, d :: (y ++ z), so, ⟨d, o', t, y, z, rfl, rfl, k1, h2, hy, hz⟩, ?_⟩
          rw [List.getElem?_cons_succ, List.getElem?_append_left (by rw [fw_len k hy]; omega)]
          exact e
        · rintro ⟨o, x, so, ⟨d, o', t, y, z, e1, e2, k1, k2, hy, hz⟩, e⟩
          subst e1
          subst e2
          rw [List.getElem?_cons_succ, List.getElem?_append_left (by rw [fw_len k hy]; omega)] at e
          exact ⟨t, y, ⟨d, o', so, k2, (lots_ok hl k _ g2 t).mpr ⟨y, hy⟩⟩, hy, e⟩
      · have hi' : i < 1 + k.size + r.size := hi
        have ih := forced_ok hl hG r (p + 1 + k.size) g3 (fun o' => ∃ d, S (d :: o')) (fun o' ⟨d, so⟩ => (hS _ so).2) (fun (i j : Nat) hij c => by
          rw [hj (i + 1) j (by rw [idx, List.getElem?_cons_succ]; exact hij) c]
          constructor
          · rintro ⟨o, so, e⟩
            cases o with
            | nil => simp at e
            | cons d o' => exact ⟨o', ⟨d, so⟩, by simpa using e⟩
          · rintro ⟨o', ⟨d, so⟩, e⟩
            exact ⟨d :: o', so, by simpa using e⟩) (i - (1 + k.size)) (by omega) c
        rw [show p + i = p + 1 + k.size + (i - (1 + k.size)) by omega, ih]
        obtain ⟨i', rfl⟩ : ∃ i', i = i' + k.size + 1 := ⟨i - k.size - 1, by omega⟩
        rw [show i' + k.size + 1 - (1 + k.size) = i' by omega]
        constructor
        · rintro ⟨o', z, ⟨d, so⟩, hz, e⟩
          obtain ⟨d', o'', t, y, z', e1, k1, k2, hy, _⟩ := wS _ so
          cases e1
          refine ⟨_, d :: (y ++ z), so, ⟨d, o', t, y, z, rfl, rfl, k1, k2, hy, hz⟩, ?_⟩
          rw [List.getElem?_cons_succ, List.getElem?_append_right (by rw [fw_len k hy]; omega), fw_len k hy, show i' + k.size - k.size = i' by omega]
          exact e
        · rintro ⟨o, x, so, ⟨d, o', t, y, z, e1, e2, k1, k2, hy, hz⟩, e⟩
          subst e1
          subst e2
          rw [List.getElem?_cons_succ, List.getElem?_append_right (by rw [fw_len k hy]; omega), fw_len k hy, show i' + k.size - k.size = i' by omega] at e
          exact ⟨o', z, ⟨d, so⟩, hz, e⟩
end
end MF
end
section
set_option autoImplicit false
set_option linter.all false
/-! M2: the shapes of up to seven places. -/
namespace MF
open MS
def table : List (Nat × List Nat × List (List Nat) × F) := [
  (2, [46], [[]], (.cons .nil .nil)),
  (2, [43, 46, 46], [[1, 2], [], []], (.cons (.cons .nil (.cons .nil .nil)) .nil)),
  (2, [43, 43, 46, 46, 46], [[1, 4], [2, 3], [], [], []], (.cons (.cons (.cons .nil (.cons .nil .nil)) (.cons .nil .nil)) .nil)),
  (2, [43, 46, 43, 46, 46], [[1, 2], [], [3, 4], [], []], (.cons (.cons .nil (.cons (.cons .nil (.cons .nil .nil)) .nil)) .nil)),
  (2, [43, 43, 43, 46, 46, 46, 46], [[1, 6], [2, 5], [3, 4], [], [], [], []], (.cons (.cons (.cons (.cons .nil (.cons .nil .nil)) (.cons .nil .nil)) (.cons .nil .nil)) .nil)),
  (2, [43, 43, 46, 43, 46, 46, 46], [[1, 6], [2, 3], [], [4, 5], [], [], []], (.cons (.cons (.cons .nil (.cons (.cons .nil (.cons .nil .nil)) .nil)) (.cons .nil .nil)) .nil)),
  (2, [43, 43, 46, 46, 43, 46, 46], [[1, 4], [2, 3], [], [], [5, 6], [], []], (.cons (.cons (.cons .nil (.cons .nil .nil)) (.cons (.cons .nil (.cons .nil .nil)) .nil)) .nil)),
  (2, [43, 46, 43, 43, 46, 46, 46], [[1, 2], [], [3, 6], [4, 5], [], [], []], (.cons (.cons .nil (.cons (.cons (.cons .nil (.cons .nil .nil)) (.cons .nil .nil)) .nil)) .nil)),
  (2, [43, 46, 43, 46, 43, 46, 46], [[1, 2], [], [3, 4], [], [5, 6], [], []], (.cons (.cons .nil (.cons (.cons .nil (.cons (.cons .nil (.cons .nil .nil)) .nil)) .nil)) .nil)),
  (3, [46], [[]], (.cons .nil .nil)),
  (3, [43, 46, 46, 46], [[1, 2, 3], [], [], []], (.cons (.cons .nil (.cons .nil (.cons .nil .nil))) .nil)),
  (3, [43, 43, 46, 46, 46, 46, 46], [[1, 5, 6], [2, 3, 4], [], [], [], [], []], (.cons (.cons (.cons .nil (.cons .nil (.cons .nil .nil))) (.cons .nil (.cons .nil .nil))) .nil)),
  (3, [43, 46, 43, 46, 46, 46, 46], [[1, 2, 6], [], [3, 4, 5], [], [], [], []], (.cons (.cons .nil (.cons (.cons .nil (.cons .nil (.cons .nil .nil))) (.cons .nil .nil))) .nil)),
  (3, [43, 46, 46, 43, 46, 46, 46], [[1, 2, 3], [], [], [4, 5, 6], [], [], []], (.cons (.cons .nil (.cons .nil (.cons (.cons .nil (.cons .nil (.cons .nil .nil))) .nil))) .nil))]
/-- a shape of the table -/
def Sh (w : Nat) (sh : List Nat) : Prop := (w, sh) ∈ table.map fun e => (e.1, e.2.1)
instance decSh (w : Nat) (sh : List Nat) : Decidable (Sh w sh) := inferInstanceAs (Decidable ((w, sh) ∈ table.map fun e => (e.1, e.2.1)))
def ent (w : Nat) (sh : List Nat) : List (List Nat) × F := match table.find? fun e => e.1 == w && e.2.1 == sh with
  | some e => e.2.2
  | none => ([], .nil)
def kd (w : Nat) (sh : List Nat) : List (List Nat) := (ent w sh).1
def fr (w : Nat) (sh : List Nat) : F := (ent w sh).2
def kdf (w : Nat) (sh : List Nat) (q : Nat) : List Nat := (kd w sh).getD q []
theorem Sh.all {w : Nat} {sh : List Nat} (P : Nat → List Nat → Prop) [∀ w s, Decidable (P w s)] (h : Sh w sh) (d : (table.all fun e => decide (P e.1 e.2.1)) = true) : P w sh := by
  obtain ⟨e, he, e2⟩ := List.mem_map.mp h
  cases e2
  exact of_decide_eq_true (List.all_eq_true.mp d e he)
section
variable {w : Nat} {sh : List Nat}
theorem Sh.w23 (h : Sh w sh) : w = 2 ∨ w = 3 := h.all (fun w sh => w = 2 ∨ w = 3) (by decide)
theorem Sh.len (h : Sh w sh) : sh.length ≤ 7 := h.all (fun w sh => sh.length ≤ 7) (by decide)
theorem Sh.pos (h : Sh w sh) : 0 < sh.length := h.all (fun w sh => 0 < sh.length) (by decide)
theorem Sh.sign (h : Sh w sh) : ∀ c ∈ sh, c = 43 ∨ c = 46 := h.all (fun w sh => ∀ c ∈ sh, c = 43 ∨ c = 46) (by decide)
theorem Sh.klen (h : Sh w sh) : (kd w sh).length = sh.length := h.all (fun w sh => (kd w sh).length = sh.length) (by decide +kernel)
theorem Sh.at' (h : Sh w sh) : At sh.length (kdf w sh) (fr w sh) 0 := h.all (fun w sh => At sh.length (kdf w sh) (fr w sh) 0) (by decide +kernel)
theorem Sh.idx (h : Sh w sh) : idx (fr w sh) 0 = [0] := h.all (fun w sh => MF.idx (fr w sh) 0 = [0]) (by decide +kernel)
theorem Sh.size (h : Sh w sh) : (fr w sh).size = sh.length := h.all (fun w sh => (fr w sh).size = sh.length) (by decide +kernel)
/-- a place's children: none or w, all behind it; they stand where the sign is + -/
theorem Sh.kids (h : Sh w sh) : ∀ q, q < sh.length → (kdf w sh q = [] ∧ sh.getD q 0 = 46) ∨ ((kdf w sh q).length = w ∧ sh.getD q 0 = 43 ∧ ∀ j ∈ kdf w sh q, q < j ∧ j < sh.length) :=
  fun q hq => h.all (fun w sh => ∀ q, q < sh.length → (kdf w sh q = [] ∧ sh.getD q 0 = 46) ∨ ((kdf w sh q).length = w ∧ sh.getD q 0 = 43 ∧ ∀ j ∈ kdf w sh q, q < j ∧ j < sh.length)) (by decide +kernel) q hq
theorem Sh.kidsL (h : Sh w sh) (q : Nat) : (∀ j ∈ kdf w sh q, q < j ∧ j < sh.length) ∧ ((kdf w sh q) = [] ∨ (kdf w sh q).length = w) := by
  by_cases hq : q < sh.length
  · rcases h.kids q hq with ⟨h1, _⟩ | ⟨h1, _, h2⟩
    · rw [h1]
      exact ⟨fun j hj => (nomatch hj), .inl rfl⟩
    · exact ⟨h2, .inr h1⟩
  · have : kdf w sh q = [] := by
      unfold kdf
      rw [List.getD_eq_getElem?_getD, List.getElem?_eq_none (by rw [h.klen]; omega)]
      rfl
    rw [this]
    exact ⟨fun j hj => (nomatch hj), .inl rfl⟩
/-- all kids lists together: no place twice, the top is no kid -/
theorem Sh.nd (h : Sh w sh) : (kd w sh).flatten.Nodup ∧ 0 ∉ (kd w sh).flatten := h.all (fun w sh => (kd w sh).flatten.Nodup ∧ 0 ∉ (kd w sh).flatten) (by decide +kernel)
theorem Sh.every (h : Sh w sh) : ∀ q, q < sh.length → q = 0 ∨ ∃ p, p < q ∧ q ∈ kdf w sh p := fun q hq => h.all (fun w sh => ∀ q, q < sh.length → q = 0 ∨ ∃ p, p < q ∧ q ∈ kdf w sh p) (by decide +kernel) q hq
/-! ### the marks of a shape -/
def abc : List Nat := [97, 98, 99, 100, 101, 102, 103, 104, 105, 106, 107, 108, 109, 110, 111, 112, 113, 114, 115, 116, 117, 118, 119, 120, 121, 122]
def Mk (n : Nat) (m : List Nat) : Prop := m.length = n ∧ ∀ c ∈ m, c ∈ abc ∨ c = 63
/-! ### how many are still wanted -/
def need (w : Nat) (pre : List Nat) : Int := pre.foldl (fun k c => k + (if c = 43 then (w : Int) - 1 else -1)) 1
theorem need_snoc {w : Nat} {pre : List Nat} {c : Nat} : need w (pre ++ [c]) = need w pre + (if c = 43 then (w : Int) - 1 else -1) := by
  unfold need
  rw [List.foldl_append]
  rfl
theorem Sh.need (h : Sh w sh) : MF.need w sh = 0 ∧ ∀ i, i < sh.length → MF.need w (sh.take i) ≠ 0 := h.all (fun w sh => MF.need w sh = 0 ∧ ∀ i, i < sh.length → MF.need w (sh.take i) ≠ 0) (by decide +kernel)
/-! ### parents, then children -/
def ps1 (s : List (Option Nat) × List (Nat × Nat)) : List (Option Nat) × List (Nat × Nat) := match s.2.getLast? with
  | none => (s.1 ++ [none], s.2)
  | some (p, k) => (s.1 ++ [some p], if 1 < k then s.2.dropLast ++ [(p, k - 1)] else s.2.dropLast)
def pst (w : Nat) (s : List (Option Nat) × List (Nat × Nat)) (x : Nat × Nat) : List (Option Nat) × List (Nat × Nat) :=
  if x.2 = 43 then ((ps1 s).1, (ps1 s).2 ++ [(x.1, w)]) else ps1 s
def pfold (w : Nat) (xs : List (Nat × Nat)) : List (Option Nat) × List (Nat × Nat) := xs.foldl (pst w) ([], [])
theorem pfold_snoc {w : Nat} {xs : List (Nat × Nat)} {x : Nat × Nat} : pfold w (xs ++ [x]) = pst w (pfold w xs) x := by
  unfold pfold
  rw [List.foldl_append]
  rfl
theorem ps1_len (s : List (Option Nat) × List (Nat × Nat)) : (ps1 s).1.length = s.1.length + 1 ∧ (ps1 s).2.length ≤ s.2.length := by
  unfold ps1
  split
  · exact ⟨by simp, Nat.le_refl _⟩
  · rename_i p k h
    have : 0 < s.2.length := by
      cases e : s.2 with
      | nil => rw [e] at h; cases h
      | cons _ _ => simp
    refine ⟨by simp, ?_⟩
    split
    · rw [List.length_append, List.length_dropLast]; simp; omega
    · rw [List.length_dropLast]; omega
theorem pfold_len {w : Nat} (xs : List (Nat × Nat)) : (pfold w xs).1.length = xs.length ∧ (pfold w xs).2.length ≤ xs.length := by
  suffices h : ∀ (xs : List (Nat × Nat)) (s : List (Option Nat) × List (Nat × Nat)), (xs.foldl (pst w) s).1.length = s.1.length + xs.length ∧ (xs.foldl (pst w) s).2.length ≤ s.2.length + xs.length by
    have := h xs ([], [])
    simpa [pfold] using this
  intro xs
  induction xs with
  | nil => intro s; exact ⟨rfl, Nat.le_refl _⟩
  | cons x xs ih =>
    intro s
    have h1 := ih (pst w s x)
    have h2 := ps1_len s
    have h3 : (pst w s x).1.length = s.1.length + 1 ∧ (pst w s x).2.length ≤ s.2.length + 1 := by
      unfold pst
      split
      · refine ⟨h2.1, ?_⟩
        rw [List.length_append]; simp; exact h2.2
      · exact ⟨h2.1, by omega⟩
    rw [List.foldl_cons, List.length_cons]
    omega
def par (w : Nat) (sh : List Nat) : List (Option Nat) := (pfold w ((List.range sh.length).zip sh)).1
def cst (s : List (List Nat)) (x : Nat × Option Nat) : List (List Nat) := match x.2 with
  | none => s
  | some p => s.set p ((s.getD p []) ++ [x.1])
def cfold (n : Nat) (xs : List (Nat × Option Nat)) : List (List Nat) := xs.foldl cst (List.replicate n [])
theorem Sh.par (h : Sh w sh) : (MF.par w sh).length = sh.length ∧ (∀ p, some p ∈ MF.par w sh → p < sh.length) ∧ cfold sh.length ((List.range sh.length).zip (MF.par w sh)) = kd w sh := by
  have := h.all (fun w sh => (MF.par w sh).length = sh.length ∧ (∀ o ∈ MF.par w sh, ∀ p ∈ o, p < sh.length) ∧ cfold sh.length ((List.range sh.length).zip (MF.par w sh)) = kd w sh) (by decide +kernel)
  exact ⟨this.1, fun p hp => this.2.1 _ hp p rfl, this.2.2⟩
/-! ### the law's children -/
def lst (w : Nat) (sh : List Nat) (s : List (List Nat) × List Nat) (k : Nat) : List (List Nat) × List Nat :=
  if sh.getD k 0 = 43 then (s.1.set k (s.2.drop (s.2.length - w)).reverse, s.2.take (s.2.length - w) ++ [k]) else (s.1, s.2 ++ [k])
def lfold (w : Nat) (sh : List Nat) (ks : List Nat) : List (List Nat) × List Nat := ks.foldl (lst w sh) (List.replicate sh.length [], [])
theorem Sh.lkids (h : Sh w sh) : (lfold w sh (List.range sh.length).reverse).1 = kd w sh := h.all (fun w sh => (lfold w sh (List.range sh.length).reverse).1 = kd w sh) (by decide +kernel)
/-! ### a shape grows -/
def grow (w : Nat) (sh : List Nat) (i : Nat) : List Nat := sh.take i ++ [43] ++ List.replicate w 46 ++ sh.drop (i + 1)
theorem Sh.grow (h : Sh w sh) (hl : sh.length + w ≤ 7) : ∀ i, i < sh.length → sh.getD i 0 = 46 → Sh w (MF.grow w sh i) ∧ (MF.grow w sh i).length = sh.length + w := fun i hi => h.all (fun w sh => sh.length + w ≤ 7 → ∀ i, i < sh.length → sh.getD i 0 = 46 → Sh w (MF.grow w sh i) ∧ (MF.grow w sh i).length = sh.length + w) (by decide +kernel) hl i hi
theorem sh_dot (h : w = 2 ∨ w = 3) : Sh w [46] := by
  unfold Sh
  rcases h with rfl | rfl <;> decide
theorem Sh.dot (h : Sh w sh) : ∃ i, i < sh.length ∧ sh.getD i 0 = 46 := by
  have := h.all (fun w sh => 46 ∈ sh) (by decide +kernel)
  obtain ⟨i, hi, e⟩ := List.getElem_of_mem this
  exact ⟨i, hi, by rw [List.getD_eq_getElem?_getD, List.getElem?_eq_getElem hi]; exact e⟩
end
end MF
end
section
set_option autoImplicit false
set_option linter.all false
/-! M3: orders of letters. -/
namespace MF
open MS
def ostep (l : List Nat) (found : List (List Nat)) : List (List Nat) := found.flatMap fun one => ((usort ltN l).filter fun c => decide (one.count c < l.count c)).map fun c => one ++ [c]
def ostn (l : List Nat) : Nat → List (List Nat)
  | 0 => [[]]
  | i + 1 => ostep l (ostn l i)
def ordsOf (l : List Nat) : List (List Nat) := ostn l l.length
theorem snoc_cases {α : Type} : ∀ {x : List α} {n : Nat}, x.length = n + 1 → ∃ y c, x = y ++ [c] ∧ y.length = n := by
  intro x n h
  have hne : x ≠ [] := fun e => by rw [e] at h; cases h
  exact ⟨x.dropLast, x.getLast hne, (List.dropLast_concat_getLast hne).symm, by rw [List.length_dropLast]; omega⟩
theorem mem_ostn {l : List Nat} : ∀ (i : Nat) (o : List Nat), o ∈ ostn l i ↔ o.length = i ∧ ∀ c, o.count c ≤ l.count c
  | 0, o => by
    show o ∈ [[]] ↔ _
    rw [List.mem_singleton]
    constructor
    · rintro rfl
      exact ⟨rfl, fun c => Nat.zero_le _⟩
    · exact fun h => List.length_eq_zero_iff.mp h.1
  | i + 1, o => by
    show o ∈ ostep l (ostn l i) ↔ _
    unfold ostep
    rw [List.mem_flatMap]
    constructor
    · rintro ⟨one, h1, h2⟩
      obtain ⟨h3, h4⟩ := (mem_ostn i one).mp h1
      obtain ⟨c, h5, rfl⟩ := List.mem_map.mp h2
      obtain ⟨h6, h7⟩ := List.mem_filter.mp h5
      have h7 := of_decide_eq_true h7
      refine ⟨by rw [List.length_append, h3]; rfl, fun d => ?_⟩
      rw [List.count_append]
      by_cases e : c = d
      · subst e
        rw [List.count_singleton_self]
        omega
      · rw [List.count_singleton, if_neg (by simpa using fun z => e z)]
        exact h4 d
    · rintro ⟨h1, h2⟩
      obtain ⟨y, c, rfl, hy⟩ := snoc_cases h1
      have hc := h2 c
      rw [List.count_append, List.count_singleton_self] at hc
      refine ⟨y, (mem_ostn i y).mpr ⟨hy, fun d => ?_⟩, List.mem_map.mpr ⟨c, List.mem_filter.mpr ⟨(mem_usort stoN).mpr (List.count_pos_iff.mp (by omega)), decide_eq_true (by omega)⟩, rfl⟩⟩
      have := h2 d
      rw [List.count_append] at this
      omega
theorem perm_of_count : ∀ {o l : List Nat}, o.length = l.length → (∀ c, o.count c ≤ l.count c) → o.Perm l
  | [], l, h, _ => by rw [List.length_eq_zero_iff.mp h.symm]
  | c :: o, l, h, h2 => by
    have hc : c ∈ l := List.count_pos_iff.mp (by have := h2 c; rw [List.count_cons_self] at this; omega)
    have p := List.perm_cons_erase hc
    refine (List.Perm.cons c (perm_of_count (l := l.erase c) ?_ fun d => ?_)).trans p.symm
    · rw [List.length_erase_of_mem hc]
      rw [List.length_cons] at h
      omega
    · have := h2 d
      rw [List.count_erase]
      rw [List.count_cons] at this
      split at this <;> rename_i e
      · rw [if_pos e]
        omega
      · rw [if_neg e]
        omega
theorem mem_ordsOf {l o : List Nat} : o ∈ ordsOf l ↔ o.Perm l := by
  unfold ordsOf
  rw [mem_ostn]
  constructor
  · exact fun h => perm_of_count h.1 h.2
  · exact fun h => ⟨h.length_eq, fun c => Nat.le_of_eq (List.perm_iff_count.mp h c)⟩
theorem nd_ostn {l : List Nat} : ∀ i, (ostn l i).Nodup
  | 0 => by simp [ostn]
  | i + 1 => by
    show (ostep l (ostn l i)).Nodup
    unfold ostep
    refine List.pairwise_flatMap.mpr ⟨fun one _ => List.pairwise_map.mpr (List.Pairwise.imp (fun {a b} h e => h (by have := List.append_cancel_left e; injection this)) (List.Pairwise.filter _ (asc_nd stoN (asc_usort stoN l)))), (nd_ostn i).imp fun {a b} h => ?_⟩
    · intro x hx y hy e
      obtain ⟨c, _, rfl⟩ := List.mem_map.mp hx
      obtain ⟨d, _, rfl⟩ := List.mem_map.mp hy
      exact h (List.append_inj_left' e rfl)
theorem nd_ordsOf (l : List Nat) : (ordsOf l).Nodup := nd_ostn _
theorem usort_le {l : List Nat} : (usort ltN l).length ≤ l.length := by
  have h1 : (usort ltN l).Nodup := asc_nd stoN (asc_usort stoN l)
  exact h1.length_le_of_subset fun x hx => (mem_usort stoN).mp hx
theorem flatMap_le {α β : Type} {f : α → List β} {m : Nat} : ∀ {xs : List α}, (∀ a ∈ xs, (f a).length ≤ m) → (xs.flatMap f).length ≤ xs.length * m
  | [], _ => by simp
  | x :: xs, h => by
    rw [List.flatMap_cons, List.length_append, List.length_cons, Nat.succ_mul]
    have h1 := h x (List.mem_cons_self ..)
    have h2 := flatMap_le (xs := xs) fun a ha => h a (List.mem_cons_of_mem _ ha)
    omega
theorem ostn_len {l : List Nat} : ∀ i, (ostn l i).length ≤ l.length ^ i
  | 0 => Nat.le_refl _
  | i + 1 => by
    show (ostep l (ostn l i)).length ≤ _
    unfold ostep
    refine Nat.le_trans (flatMap_le (m := l.length) fun a _ => ?_) ?_
    · rw [List.length_map]
      exact Nat.le_trans (List.length_filter_le ..) usort_le
    · rw [Nat.pow_succ]
      exact Nat.mul_le_mul_right _ (ostn_len i)
/-! ### what stands below each top -/
abbrev Ob := List (Nat × List (List Nat))
def ob1 (s : Ob) (c : Nat) (os : List (List Nat)) : Ob := if (s.map (·.1)).contains c then s.map fun p => if p.1 = c then (p.1, p.2 ++ os) else p else s ++ [(c, os)]
def obst (s : Ob) (row : List Nat) : Ob := ob1 s (row.headD 0) (ordsOf (row.drop 1))
def obf (rows : List (List Nat)) : Ob := rows.foldl obst []
theorem obf_snoc {rows : List (List Nat)} {row : List Nat} : obf (rows ++ [row]) = obst (obf rows) row := by
  unfold obf
  rw [List.foldl_append]
  rfl
def lk (s : Ob) (c : Nat) : List (List Nat) := ((s.find? fun p => decide (p.1 = c)).map (·.2)).getD []
theorem lk_map {s : Ob} {f : Nat × List (List Nat) → Nat × List (List Nat)} (h : ∀ p, (f p).1 = p.1) (c : Nat) : lk (s.map f) c = ((s.find? fun p => decide (p.1 = c)).map fun p => (f p).2).getD [] := by
  unfold lk
  rw [List.find?_map]
  have : ((fun p : Nat × List (List Nat) => decide (p.1 = c)) ∘ f) = fun p => decide (p.1 = c) := by
    funext p
    simp [h p]
  rw [this, Option.map_map]
  rfl
theorem fst_of {s : Ob} {d : Nat} {p : Nat × List (List Nat)} (h : s.find? (fun p => decide (p.1 = d)) = some p) : p.1 = d := by
  have := List.find?_some h
  exact of_decide_eq_true this
theorem ob1_keys {s : Ob} {c : Nat} {os : List (List Nat)} : (ob1 s c os).map (·.1) = if (s.map (·.1)).contains c then s.map (·.1) else s.map (·.1) ++ [c] := by
  unfold ob1
  split
  · rw [List.map_map]
    refine List.map_congr_left fun p _ => ?_
    show (if p.1 = c then (p.1, p.2 ++ os) else p).1 = p.1
    split <;> rfl
  · rw [List.map_append]
    rfl
theorem ob1_lk {s : Ob} {c d : Nat} {os : List (List Nat)} : lk (ob1 s c os) d = if d = c then lk s c ++ os else lk s d := by
  unfold ob1
  split
  · rename_i hc
    rw [lk_map (fun p => by split <;> rfl)]
    by_cases e : d = c
    · subst e
      rw [if_pos rfl]
      unfold lk
      cases hf : s.find? fun p => decide (p.1 = d) with
      | none =>
        rw [List.contains_iff_mem] at hc
        obtain ⟨p, h1, h2⟩ := List.mem_map.mp hc
        have := List.find?_eq_none.mp hf p h1
        exact absurd (decide_eq_true h2) this
      | some p =>
        have := fst_of hf
        show (if p.1 = d then (p.1, p.2 ++ os) else p).2 = p.2 ++ os
        rw [if_pos this]
    · rw [if_neg e]
      unfold lk
      cases hf : s.find? fun p => decide (p.1 = d) with
      | none => rfl
      | some p =>
        have := fst_of hf
        show (if p.1 = c then (p.1, p.2 ++ os) else p).2 = p.2
        rw [if_neg fun z => e (this ▸ z)]
  · rename_i hc
    unfold lk
    rw [List.find?_append]
    by_cases e : d = c
    · subst e
      rw [if_pos rfl]
      cases hf : s.find? fun p => decide (p.1 = d) with
      | none => simp
      | some p =>
        have h1 := fst_of hf
        have h2 := List.mem_of_find?_eq_some hf
        exact absurd (List.contains_iff_mem.mpr (List.mem_map.mpr ⟨p, h2, h1⟩)) (by simpa using hc)
    · rw [if_neg e]
      have : ([(c, os)] : Ob).find? (fun p => decide (p.1 = d)) = none := by
        rw [List.find?_cons, decide_eq_false fun z => e (Eq.symm z)]
        rfl
      rw [this, Option.or_none]
/-- the dict of orders, each list sorted -/
def obys (rows : List (List Nat)) : Ob := (obf rows).map fun p => (p.1, ssort ltL p.2)
theorem obf_keys (rows : List (List Nat)) : ((obf rows).map (·.1)).Nodup ∧ ∀ c, c ∈ (obf rows).map (·.1) ↔ ∃ row ∈ rows, row.headD 0 = c := by
  suffices h : ∀ k (rows : List (List Nat)), rows.length = k → ((obf rows).map (·.1)).Nodup ∧ ∀ c, c ∈ (obf rows).map (·.1) ↔ ∃ row ∈ rows, row.headD 0 = c from h _ rows rfl
  intro k
  induction k with
  | zero =>
    intro rows h
    rw [List.length_eq_zero_iff.mp h]
    exact ⟨List.nodup_nil, fun c => ⟨fun z => (nomatch z), fun ⟨r, hr, _⟩ => nomatch hr⟩⟩
  | succ k ih =>
    intro rows h
    obtain ⟨pre, row, rfl, hp⟩ := snoc_cases h
    obtain ⟨h1, h2⟩ := ih pre hp
    rw [obf_snoc]
    unfold obst
    rw [ob1_keys]
    split
    · rename_i hc
      rw [List.contains_iff_mem] at hc
      refine ⟨h1, fun c => ?_⟩
      rw [h2]
      constructor
      · rintro ⟨r, hr, e⟩
        exact ⟨r, List.mem_append_left _ hr, e⟩
      · rintro ⟨r, hr, e⟩
        rcases List.mem_append.mp hr with hr | hr
        · exact ⟨r, hr, e⟩
        · rw [List.mem_singleton] at hr
          subst hr
          rw [← e]
          exact (h2 _).mp hc
    · rename_i hc
      have hc : row.headD 0 ∉ (obf pre).map (·.1) := fun z => hc (List.contains_iff_mem.mpr z)
      refine ⟨List.nodup_append.mpr ⟨h1, by simp, fun a ha b hb e => ?_⟩, fun c => ?_⟩
      · rw [List.mem_singleton] at hb
        subst hb
        subst e
        exact hc ha
      · rw [List.mem_append, h2, List.mem_singleton]
        constructor
        · rintro (⟨r, hr, e⟩ | e)
          · exact ⟨r, List.mem_append_left _ hr, e⟩
          · exact ⟨row, List.mem_append_right _ (List.mem_singleton.mpr rfl), e.symm⟩
        · rintro ⟨r, hr, e⟩
          rcases List.mem_append.mp hr with hr | hr
          · exact .inl ⟨r, hr, e⟩
          · rw [List.mem_singleton] at hr
            subst hr
            exact .inr e.symm
theorem obf_lk {rows : List (List Nat)} : ∀ c, lk (obf rows) c = (rows.filter fun r => decide (r.headD 0 = c)).flatMap fun r => ordsOf (r.drop 1) := by
  suffices h : ∀ k (rows : List (List Nat)), rows.length = k → ∀ c, lk (obf rows) c = (rows.filter fun r => decide (r.headD 0 = c)).flatMap fun r => ordsOf (r.drop 1) from h _ rows rfl
  intro k
  induction k with
  | zero =>
    intro rows h c
    rw [List.length_eq_zero_iff.mp h]
    rfl
  | succ k ih =>
    intro rows h c
    obtain ⟨pre, row, rfl, hp⟩ := snoc_cases h
    rw [obf_snoc]
    unfold obst
    rw [ob1_lk, List.filter_append, List.flatMap_append, ih pre hp]
    by_cases e : c = row.headD 0
    · subst e
      rw [if_pos rfl]
      simp
    · rw [if_neg e, ih pre hp]
      have : [row].filter (fun r => decide (r.headD 0 = c)) = [] := by
        rw [List.filter_cons, decide_eq_false fun z => e (Eq.symm z)]
        rfl
      rw [this]
      simp
end MF
end
section
set_option autoImplicit false
set_option linter.all false
/-! M4: tables; what is worked out place by place. -/
namespace MF
open MS
/-- the labels of a table -/
def labs (rows : List (List Nat)) : List Nat := usort ltN rows.flatten
structure Gr (w : Nat) (rows : List (List Nat)) : Prop where
  w23 : w = 2 ∨ w = 3
  n : rows.length ≤ 11
  pos : rows ≠ []
  len : ∀ r ∈ rows, r.length = w + 1
  abc : ∀ r ∈ rows, ∀ c ∈ r, c ∈ MF.abc
  wk : ∀ r ∈ rows, Wk ltN (r.drop 1)
  asc : Asc ltL rows
  few : (labs rows).length ≤ 3
/-- a dict of orders -/
structure OkO (w : Nat) (O : Ob) : Prop where
  nd : (O.map (·.1)).Nodup
  n : O.length ≤ 11
  m : ∀ p ∈ O, p.2.length ≤ 300
  len : ∀ p ∈ O, ∀ o ∈ p.2, o.length = w
theorem ostn_small {l : List Nat} {i : Nat} : ∀ o ∈ ostn l i, o.length = i := fun o ho => ((mem_ostn i o).mp ho).1
theorem ordsOf_small {l : List Nat} : ∀ o ∈ ordsOf l, o.length = l.length := fun o ho => (mem_ordsOf.mp ho).length_eq
theorem ordsOf_27 {l : List Nat} (h : l.length ≤ 3) : (ordsOf l).length ≤ 27 := by
  refine Nat.le_trans (ostn_len _) (Nat.le_trans (Nat.pow_le_pow_left h _) ?_)
  exact Nat.le_trans (Nat.pow_le_pow_right (by decide) h) (by decide)
theorem lk_mem {s : Ob} : ∀ {p : Nat × List (List Nat)}, (s.map (·.1)).Nodup → p ∈ s → lk s p.1 = p.2 := by
  intro p
  induction s with
  | nil => intro _ h; cases h
  | cons x s ih =>
    intro nd hp
    rw [List.map_cons, List.nodup_cons] at nd
    unfold lk
    rw [List.find?_cons]
    rcases List.mem_cons.mp hp with rfl | hp
    · simp
    · have ne : x.1 ≠ p.1 := fun e => nd.1 (List.mem_map.mpr ⟨p, hp, e.symm⟩)
      have := ih nd.2 hp
      rw [decide_eq_false ne]
      unfold lk at this
      exact this
theorem mem_lk {s : Ob} {c : Nat} {o : List Nat} (h : o ∈ lk s c) : ∃ p ∈ s, p.1 = c ∧ lk s c = p.2 := by
  unfold lk at h ⊢
  cases hf : s.find? fun p => decide (p.1 = c) with
  | none => rw [hf] at h; cases h
  | some p => exact ⟨p, List.mem_of_find?_eq_some hf, fst_of hf, rfl⟩
theorem obys_keys (rows : List (List Nat)) : (obys rows).map (·.1) = (obf rows).map (·.1) := by
  unfold obys
  rw [List.map_map]
  rfl
theorem obys_lk (rows : List (List Nat)) (c : Nat) : lk (obys rows) c = ssort ltL (lk (obf rows) c) := by
  unfold obys
  rw [lk_map (f := fun p => (p.1, ssort ltL p.2)) (fun _ => rfl)]
  unfold lk
  cases (obf rows).find? fun p => decide (p.1 = c) with
  | none => rfl
  | some p => rfl
/-- what may stand below c -/
def Aw (rows : List (List Nat)) (c : Nat) (t : List Nat) : Prop := ∃ r ∈ rows, r.headD 0 = c ∧ t.Perm (r.drop 1)
theorem mem_obys {rows : List (List Nat)} {c : Nat} {t : List Nat} : t ∈ lk (obys rows) c ↔ Aw rows c t := by
  rw [obys_lk, perm_ssort.mem_iff, obf_lk, List.mem_flatMap]
  constructor
  · rintro ⟨r, h1, h2⟩
    obtain ⟨h3, h4⟩ := List.mem_filter.mp h1
    exact ⟨r, h3, of_decide_eq_true h4, mem_ordsOf.mp h2⟩
  · rintro ⟨r, h1, h2, h3⟩
    exact ⟨r, List.mem_filter.mpr ⟨h1, decide_eq_true h2⟩, mem_ordsOf.mpr h3⟩
section
variable {w : Nat} {rows : List (List Nat)}
theorem Gr.aw_len (g : Gr w rows) {c : Nat} {t : List Nat} (h : Aw rows c t) : t.length = w := by
  obtain ⟨r, h1, h2, h3⟩ := h
  rw [h3.length_eq, List.length_drop, g.len r h1]
  rfl
theorem Gr.row (g : Gr w rows) {r : List Nat} (h : r ∈ rows) : ∃ c t, r = c :: t ∧ t.length = w := by
  have h1 := g.len r h
  cases r with
  | nil => cases h1
  | cons c t => exact ⟨c, t, rfl, by simpa using h1⟩
theorem mem_labs {c : Nat} : c ∈ labs rows ↔ ∃ r ∈ rows, c ∈ r := by
  unfold labs
  rw [mem_usort stoN, List.mem_flatten]
theorem Gr.top (g : Gr w rows) {c : Nat} {t : List Nat} (h : Aw rows c t) : c ∈ labs rows ∧ ∀ d ∈ t, d ∈ labs rows := by
  obtain ⟨r, h1, h2, h3⟩ := h
  obtain ⟨c', t', rfl, _⟩ := g.row h1
  have h2 : c' = c := h2
  subst h2
  exact ⟨mem_labs.mpr ⟨_, h1, List.mem_cons_self ..⟩, fun d hd => mem_labs.mpr ⟨_, h1, List.mem_cons_of_mem _ (h3.mem_iff.mp hd)⟩⟩
theorem wk_perm {t t' : List Nat} (h : Wk ltN t) (h' : Wk ltN t') (p : t.Perm t') : t = t' := wk_uniq stoN h h' p
theorem Gr.nd (g : Gr w rows) (c : Nat) : (lk (obf rows) c).Nodup := by
  rw [obf_lk]
  refine List.pairwise_flatMap.mpr ⟨fun r _ => nd_ordsOf _, ?_⟩
  refine List.Pairwise.imp_of_mem (fun {a b} ha hb h => ?_) ((asc_nd stoL g.asc).filter _)
  intro x hx y hy e
  subst e
  obtain ⟨ha1, ha2⟩ := List.mem_filter.mp ha
  obtain ⟨hb1, hb2⟩ := List.mem_filter.mp hb
  have ha2 := of_decide_eq_true ha2
  have hb2 := of_decide_eq_true hb2
  have p := (mem_ordsOf.mp hx).symm.trans (mem_ordsOf.mp hy)
  have := wk_perm (g.wk a ha1) (g.wk b hb1) p
  obtain ⟨c1, t1, rfl, _⟩ := g.row ha1
  obtain ⟨c2, t2, rfl, _⟩ := g.row hb1
  have e1 : c1 = c := ha2
  have e2 : c2 = c := hb2
  have e3 : t1 = t2 := this
  exact h (by rw [e1, e2, e3])
theorem Gr.ndS (g : Gr w rows) (c : Nat) : (lk (obys rows) c).Nodup := by
  rw [obys_lk]
  exact perm_ssort.nodup_iff.mpr (g.nd c)
theorem Gr.ascS (g : Gr w rows) (c : Nat) : Asc ltL (lk (obys rows) c) := by
  rw [obys_lk]
  exact asc_of_wk stoL (wk_ssort stoL _) (perm_ssort.nodup_iff.mpr (g.nd c))
theorem Gr.okO (g : Gr w rows) : OkO w (obys rows) := by
  have hk : ((obys rows).map (·.1)).Nodup := by
    rw [obys_keys]
    exact (obf_keys rows).1
  have key : ∀ p ∈ obys rows, p.2 = lk (obys rows) p.1 := fun p hp => (lk_mem hk hp).symm
  refine ⟨hk, ?_, fun p hp => ?_, fun p hp o ho => ?_⟩
  · have h1 : ((obf rows).map (·.1)).length ≤ (rows.map fun r => r.headD 0).length := (obf_keys rows).1.length_le_of_subset fun c hc => by
      obtain ⟨r, hr, e⟩ := ((obf_keys rows).2 c).mp hc
      exact List.mem_map.mpr ⟨r, hr, e⟩
    rw [List.length_map, List.length_map] at h1
    unfold obys
    rw [List.length_map]
    have := g.n
    omega
  · rw [key p hp, obys_lk, perm_ssort.length_eq, obf_lk]
    refine Nat.le_trans (flatMap_le (m := 27) fun r hr => ordsOf_27 ?_) ?_
    · have := g.len r (List.mem_filter.mp hr).1
      rw [List.length_drop]
      rcases g.w23 with h | h <;> omega
    · have h1 := List.length_filter_le (fun r : List Nat => decide (r.headD 0 = p.1)) rows
      have := g.n
      omega
  · rw [key p hp] at ho
    exact g.aw_len (mem_obys.mp ho)
end
/-! ### the program's steps -/
def fitB : List Nat → List (List Nat) → Bool
  | c :: o, l :: ls => decide (c ∈ l) && fitB o ls
  | _, _ => true
def topsAb (O : Ob) (ls : List (List Nat)) : List Nat := usort ltN ((O.filter fun p => p.2.any fun o => fitB o ls).map (·.1))
def lotV (O : Ob) (L : List Nat) (c : Nat) (ks : List Nat) (vs : List (List Nat)) : List Nat := if c = 63 then (if ks = [] then L else topsAb O vs) else if c ∈ (if ks = [] then L else topsAb O vs) then [c] else []
/-- an array that is worked out from its end: a step -/
theorem dp_step {β : Type} {V : Nat → List β → β} {n : Nat} {kids : Nat → List Nat} (hk : ∀ q, ∀ j ∈ kids q, q < j ∧ j < n) (d : β) {ls : List β} (hl : ls.length = n) {p : Nat} (hp : p < n) (h : ∀ q, p < q → q < n → ls.getD q d = V q ((kids q).map fun j => ls.getD j d)) {v : β} (hv : v = V p ((kids p).map fun j => ls.getD j d)) :
    ∀ q, p ≤ q → q < n → (ls.set p v).getD q d = V q ((kids q).map fun j => (ls.set p v).getD j d) := by
  intro q h1 h2
  have other : ∀ j, p ≠ j → (ls.set p v).getD j d = ls.getD j d := fun j hj => by
    rw [List.getD_eq_getElem?_getD, List.getD_eq_getElem?_getD, List.getElem?_set, if_neg hj]
  have same : ((kids q).map fun j => (ls.set p v).getD j d) = (kids q).map fun j => ls.getD j d := List.map_congr_left fun j hj => other j (by have := hk q j hj; omega)
  rw [same]
  by_cases e : p = q
  · subst e
    rw [List.getD_eq_getElem?_getD, List.getElem?_set, if_pos rfl, if_pos (by omega)]
    exact hv
  · rw [other q e]
    exact h q (by omega) h2
end MF
namespace MF
def IsArr {β : Type} (V : Nat → List β → β) (d : β) (n : Nat) (kids : Nat → List Nat) (ls : List β) : Prop := ls.length = n ∧ ∀ q, q < n → ls.getD q d = V q ((kids q).map fun j => ls.getD j d)
abbrev IsLots (w : Nat) (rows : List (List Nat)) (sh m : List Nat) (ls : List (List Nat)) : Prop := IsArr (fun q vs => lotV (obys rows) (labs rows) (m.getD q 0) (kdf w sh q) vs) [] sh.length (kdf w sh) ls
end MF
end
section
set_option autoImplicit false
set_option linter.all false
/-! M5: what is worked out from the top down. -/
namespace MF
open MS
section
variable {w : Nat} {sh : List Nat}
theorem Sh.dis0 (h : Sh w sh) : ∀ p, p < sh.length → (kdf w sh p).Nodup ∧ ∀ q, q < sh.length → ∀ j ∈ kdf w sh p, j ∈ kdf w sh q → p = q := h.all (fun w sh => ∀ p, p < sh.length → (kdf w sh p).Nodup ∧ ∀ q, q < sh.length → ∀ j ∈ kdf w sh p, j ∈ kdf w sh q → p = q) (by decide +kernel)
theorem Sh.out (h : Sh w sh) {p : Nat} (hp : ¬ p < sh.length) : kdf w sh p = [] := by
  unfold kdf
  rw [List.getD_eq_getElem?_getD, List.getElem?_eq_none (by rw [h.klen]; omega)]
  rfl
theorem Sh.kn (h : Sh w sh) (p : Nat) : (kdf w sh p).Nodup := by
  by_cases hp : p < sh.length
  · exact (h.dis0 p hp).1
  · rw [h.out hp]; exact List.nodup_nil
theorem Sh.dis (h : Sh w sh) {p q j : Nat} (h1 : j ∈ kdf w sh p) (h2 : j ∈ kdf w sh q) : p = q := by
  by_cases hp : p < sh.length
  · by_cases hq : q < sh.length
    · exact (h.dis0 p hp).2 q hq j h1 h2
    · rw [h.out hq] at h2; cases h2
  · rw [h.out hp] at h1; cases h1
end
def setAll (f : List (List Nat)) (xs : List (Nat × List Nat)) : List (List Nat) := xs.foldl (fun f x => f.set x.1 x.2) f
theorem setAll_len (xs : List (Nat × List Nat)) : ∀ f : List (List Nat), (setAll f xs).length = f.length := by
  induction xs with
  | nil => intro f; rfl
  | cons x xs ih =>
    intro f
    show (setAll (f.set x.1 x.2) xs).length = _
    rw [ih, List.length_set]
theorem setAll_snoc {f : List (List Nat)} {xs : List (Nat × List Nat)} {x : Nat × List Nat} : setAll f (xs ++ [x]) = (setAll f xs).set x.1 x.2 := by
  unfold setAll
  rw [List.foldl_append]
  rfl
theorem getD_set' {f : List (List Nat)} {i j : Nat} {x : List Nat} : (f.set j x).getD i [] = if j = i ∧ j < f.length then x else f.getD i [] := by
  rw [List.getD_eq_getElem?_getD, List.getD_eq_getElem?_getD, List.getElem?_set]
  by_cases e : j = i
  · subst e
    by_cases h : j < f.length
    · rw [if_pos rfl, if_pos h, if_pos ⟨rfl, h⟩]; rfl
    · rw [if_pos rfl, if_neg h, if_neg fun z => h z.2, List.getElem?_eq_none (by omega)]
  · rw [if_neg e, if_neg fun z => e z.1]
theorem setAll_out {j : Nat} (xs : List (Nat × List Nat)) : ∀ f : List (List Nat), (∀ x ∈ xs, x.1 ≠ j) → (setAll f xs).getD j [] = f.getD j [] := by
  induction xs with
  | nil => intro f _; rfl
  | cons x xs ih =>
    intro f h
    show (setAll (f.set x.1 x.2) xs).getD j [] = _
    rw [ih _ fun y hy => h y (List.mem_cons_of_mem _ hy), getD_set', if_neg fun z => h x (List.mem_cons_self ..) z.1]
theorem setAll_zip : ∀ (ks : List Nat) (ts : List (List Nat)) (f : List (List Nat)), ks.Nodup → ts.length = ks.length → (∀ j ∈ ks, j < f.length) → (ks.map fun j => (setAll f (ks.zip ts)).getD j []) = ts
  | [], [], _, _, _, _ => rfl
  | [], _ :: _, _, _, h, _ => by simp at h
  | _ :: _, [], _, _, h, _ => by simp at h
  | k :: ks, t :: ts, f, hn, hl, hb => by
    obtain ⟨h1, h2⟩ := List.nodup_cons.mp hn
    have hk := hb k (List.mem_cons_self ..)
    rw [List.map_cons]
    show (setAll (f.set k t) (ks.zip ts)).getD k [] :: (ks.map fun j => (setAll (f.set k t) (ks.zip ts)).getD j []) = _
    rw [setAll_zip ks ts (f.set k t) h2 (by simpa using hl) fun j hj => by rw [List.length_set]; exact hb j (List.mem_cons_of_mem _ hj), setAll_out _ _ fun x hx e => h1 (by rw [← e]; exact (List.of_mem_zip hx).1), getD_set', if_pos ⟨rfl, hk⟩]
theorem mem_zip1 {ks : List Nat} {ts : List (List Nat)} {x : Nat × List Nat} (h : x ∈ ks.zip ts) : x.1 ∈ ks := (List.of_mem_zip h).1
/-! ### filled -/
structure FInv (n : Nat) (kids : Nat → List Nat) (a : Nat → List Nat) (fo : Nat → Nat → Option (List Nat)) (i : Nat) (f : List (List Nat)) : Prop where
  len : f.length = n
  vis : ∀ q, q < n → (q = 0 ∨ ∃ p, p < i ∧ q ∈ kids p) → ∃ c, c ∈ a q ∧ f.getD q [] = [c]
  don : ∀ p, p < i → p < n → kids p ≠ [] → ∃ c o, f.getD p [] = [c] ∧ fo p c = some o ∧ ((kids p).map fun j => f.getD j []) = o.map fun c => [c]
  top : f.getD 0 [] = (a 0).take 1
section
variable {n : Nat} {kids : Nat → List Nat} {a : Nat → List Nat} {fo : Nat → Nat → Option (List Nat)} {i : Nat} {f : List (List Nat)}
theorem FInv.leaf (h : FInv n kids a fo i f) (hk : kids i = []) : FInv n kids a fo (i + 1) f := by
  refine ⟨h.len, fun q hq hv => h.vis q hq ?_, fun p hp hpn hne => ?_, h.top⟩
  · rcases hv with e | ⟨p, h1, h2⟩
    · exact .inl e
    · by_cases e : p = i
      · subst e
        rw [hk] at h2
        cases h2
      · exact .inr ⟨p, by omega, h2⟩
  · by_cases e : p = i
    · subst e
      exact absurd hk hne
    · exact h.don p (by omega) hpn hne
theorem FInv.inner (h : FInv n kids a fo i f) (hg : ∀ p, ∀ j ∈ kids p, p < j ∧ j < n) (hn : ∀ p, (kids p).Nodup) (hdis : ∀ p q j, j ∈ kids p → j ∈ kids q → p = q) {c : Nat} {o : List Nat} (hc : f.getD i [] = [c]) (ho : fo i c = some o) (hl : o.length = (kids i).length) (hf : ∀ (k : Nat) j d, (kids i)[k]? = some j → o[k]? = some d → d ∈ a j) :
    FInv n kids a fo (i + 1) (setAll f ((kids i).zip (o.map fun c => [c]))) := by
  have z := setAll_zip (kids i) (o.map fun c => [c]) f (hn i) (by rw [List.length_map]; exact hl) fun j hj => by rw [h.len]; exact (hg i j hj).2
  have out : ∀ j, j ∉ kids i → (setAll f ((kids i).zip (o.map fun c => [c]))).getD j [] = f.getD j [] := fun j hj => setAll_out _ _ fun x hx e => hj (by rw [← e]; exact mem_zip1 hx)
  refine ⟨by rw [setAll_len]; exact h.len, fun q hq hv => ?_, fun p hp hpn hne => ?_, ?_⟩
  · by_cases hqk : q ∈ kids i
    · obtain ⟨k, hk, e⟩ := List.getElem_of_mem hqk
      have h1 : (kids i)[k]? = some q := by rw [List.getElem?_eq_getElem hk, e]
      have h2 : o[k]? = some o[k] := List.getElem?_eq_getElem (by omega)
      refine ⟨o[k], hf k q _ h1 h2, ?_⟩
      have h3 := congrArg (fun l : List (List Nat) => l[k]?) z
      simp only [List.getElem?_map, h1, h2, Option.map_some] at h3
      exact Option.some.inj h3
    · rw [out q hqk]
      refine h.vis q hq ?_
      rcases hv with e | ⟨p, h1, h2⟩
      · exact .inl e
      · by_cases e : p = i
        · subst e
          exact absurd h2 hqk
        · exact .inr ⟨p, by omega, h2⟩
  · by_cases e : p = i
    · subst e
      refine ⟨c, o, ?_, ho, z⟩
      rw [out p fun hj => by have := hg p p hj; omega]
      exact hc
    · obtain ⟨c', o', h1, h2, h3⟩ := h.don p (by omega) hpn hne
      refine ⟨c', o', ?_, h2, ?_⟩
      · rw [out p fun hj => by have := hg i p hj; omega]
        exact h1
      · rw [← h3]
        refine List.map_congr_left fun j hj => out j fun hj2 => e (hdis p i j hj hj2)
  · rw [out 0 fun hj => by have := hg i 0 hj; omega]
    exact h.top
end
def firstO (O : Ob) (ls : List (List Nat)) (c : Nat) : Option (List Nat) := ((lk O c).filter fun o => fitB o ls).head?
def kidL (w : Nat) (sh : List Nat) (ls : List (List Nat)) (q : Nat) : List (List Nat) := (kdf w sh q).map fun j => ls.getD j []
/-- the marks that are filled in -/
def IsFilled (w : Nat) (rows : List (List Nat)) (sh m : List Nat) (res : Option (List Nat)) : Prop := ∃ ls, IsLots w rows sh m ls ∧ ((ls.getD 0 [] = [] ∧ res = none) ∨ (ls.getD 0 [] ≠ [] ∧ ∃ f, FInv sh.length (kdf w sh) (fun q => ls.getD q []) (fun q c => firstO (obys rows) (kidL w sh ls q) c) sh.length f ∧ res = some f.flatten))
theorem fitB_get : ∀ {o : List Nat} {ls : List (List Nat)}, fitB o ls = true → ∀ (k : Nat) l d, ls[k]? = some l → o[k]? = some d → d ∈ l
  | [], _, _, k, l, d, _, h => by simp at h
  | _ :: _, [], _, k, l, d, h, _ => by simp at h
  | c :: o, l' :: ls, h, 0, l, d, h1, h2 => by
    rw [fitB, Bool.and_eq_true] at h
    simp at h1 h2
    subst h1
    subst h2
    exact of_decide_eq_true h.1
  | c :: o, l' :: ls, h, k + 1, l, d, h1, h2 => by
    rw [fitB, Bool.and_eq_true] at h
    exact fitB_get h.2 k l d (by simpa using h1) (by simpa using h2)
/-- a label of an inner place: a row stands for it -/
theorem lot_inner {O : Ob} {L ks : List Nat} {m c : Nat} {vs : List (List Nat)} (hne : ks ≠ []) (h : c ∈ lotV O L m ks vs) (nd : (O.map (·.1)).Nodup) : ∃ p ∈ O, p.1 = c ∧ ∃ o ∈ p.2, fitB o vs = true := by
  have h : c ∈ topsAb O vs := by
    unfold lotV at h
    rw [if_neg hne] at h
    split at h
    · exact h
    · split at h
      · rename_i h2
        rw [List.mem_singleton] at h
        rw [h]
        exact h2
      · cases h
  unfold topsAb at h
  rw [mem_usort stoN] at h
  obtain ⟨p, hp, e⟩ := List.mem_map.mp h
  obtain ⟨h1, h2⟩ := List.mem_filter.mp hp
  exact ⟨p, h1, e, List.any_eq_true.mp h2⟩
end MF
end
section
set_option autoImplicit false
set_option linter.all false
/-! M6: what all have, from the top down. -/
namespace MF
open MS
/-- the orders below some tops that fit -/
def belowL (O : Ob) (ls : List (List Nat)) (tops : List Nat) : List (List Nat) := (tops.flatMap fun c => lk O c).filter fun o => fitB o ls
def sval (O : Ob) (ls : List (List Nat)) (tops : List Nat) (k : Nat) : List Nat := usort ltN ((belowL O ls tops).map fun o => o.getD k 0)
structure SInv (n : Nat) (kids : Nat → List Nat) (a : Nat → List Nat) (O : Ob) (kl : Nat → List (List Nat)) (i : Nat) (f : List (List Nat)) : Prop where
  len : f.length = n
  vis : ∀ q, q < n → (q = 0 ∨ ∃ p, p < i ∧ q ∈ kids p) → (∀ c ∈ f.getD q [], c ∈ a q) ∧ (f.getD q []).Nodup
  don : ∀ p, p < i → p < n → ∀ (k : Nat) j, (kids p)[k]? = some j → f.getD j [] = sval O (kl p) (f.getD p []) k
  top : f.getD 0 [] = a 0
theorem zip_swap {α β : Type} (val : Nat → β) (ks : List α) : ((List.range ks.length).zip ks).map (fun x => (x.2, val x.1)) = ks.zip ((List.range ks.length).map val) := by
  refine List.ext_getElem? fun k => ?_
  rw [List.getElem?_map]
  by_cases h : k < ks.length
  · have h1 : (List.range ks.length)[k]? = some k := List.getElem?_range h
    have h2 : ks[k]? = some ks[k] := List.getElem?_eq_getElem h
    rw [show ((List.range ks.length).zip ks)[k]? = some (k, ks[k]) from List.getElem?_zip_eq_some.mpr ⟨h1, h2⟩]
    exact (List.getElem?_zip_eq_some.mpr ⟨h2, by rw [List.getElem?_map, h1]; rfl⟩).symm
  · rw [List.getElem?_eq_none (by rw [List.length_zip, List.length_range]; omega), List.getElem?_eq_none (by rw [List.length_zip, List.length_map, List.length_range]; omega)]
    rfl
section
variable {n : Nat} {kids : Nat → List Nat} {a : Nat → List Nat} {O : Ob} {kl : Nat → List (List Nat)} {i : Nat} {f : List (List Nat)}
theorem SInv.leaf (h : SInv n kids a O kl i f) (hk : kids i = []) : SInv n kids a O kl (i + 1) f := by
  refine ⟨h.len, fun q hq hv => h.vis q hq ?_, fun p hp hpn k j hkj => ?_, h.top⟩
  · rcases hv with e | ⟨p, h1, h2⟩
    · exact .inl e
    · by_cases e : p = i
      · subst e
        rw [hk] at h2
        cases h2
      · exact .inr ⟨p, by omega, h2⟩
  · by_cases e : p = i
    · subst e
      rw [hk] at hkj
      simp at hkj
    · exact h.don p (by omega) hpn k j hkj
theorem SInv.inner (h : SInv n kids a O kl i f) (hg : ∀ p, ∀ j ∈ kids p, p < j ∧ j < n) (hn : ∀ p, (kids p).Nodup) (hdis : ∀ p q j, j ∈ kids p → j ∈ kids q → p = q) (hf : ∀ (k : Nat) j, (kids i)[k]? = some j → ∀ c ∈ sval O (kl i) (f.getD i []) k, c ∈ a j) :
    SInv n kids a O kl (i + 1) (setAll f ((kids i).zip ((List.range (kids i).length).map fun k => sval O (kl i) (f.getD i []) k))) := by
  have z := setAll_zip (kids i) ((List.range (kids i).length).map fun k => sval O (kl i) (f.getD i []) k) f (hn i) (by rw [List.length_map, List.length_range]) fun j hj => by rw [h.len]; exact (hg i j hj).2
  generalize hF : setAll f ((kids i).zip ((List.range (kids i).length).map fun k => sval O (kl i) (f.getD i []) k)) = F at z ⊢
  have out : ∀ j, j ∉ kids i → F.getD j [] = f.getD j [] := fun j hj => by
    rw [← hF]
    exact setAll_out _ _ fun x hx e => hj (by rw [← e]; exact mem_zip1 hx)
  have at' : ∀ (k : Nat) j, (kids i)[k]? = some j → F.getD j [] = sval O (kl i) (f.getD i []) k := fun k j h1 => by
    have hk : k < (kids i).length := (List.getElem?_eq_some_iff.mp h1).1
    have h3 := congrArg (fun l : List (List Nat) => l[k]?) z
    simp only [List.getElem?_map, h1, List.getElem?_range hk, Option.map_some] at h3
    exact Option.some.inj h3
  refine ⟨by rw [← hF, setAll_len]; exact h.len, fun q hq hv => ?_, fun p hp hpn k j hkj => ?_, ?_⟩
  · by_cases hqk : q ∈ kids i
    · obtain ⟨k, hk, e⟩ := List.getElem_of_mem hqk
      have h1 : (kids i)[k]? = some q := by rw [List.getElem?_eq_getElem hk, e]
      rw [at' k q h1]
      exact ⟨hf k q h1, asc_nd stoN (asc_usort stoN _)⟩
    · rw [out q hqk]
      refine h.vis q hq ?_
      rcases hv with e | ⟨p, h1, h2⟩
      · exact .inl e
      · by_cases e : p = i
        · subst e
          exact absurd h2 hqk
        · exact .inr ⟨p, by omega, h2⟩
  · by_cases e : p = i
    · subst e
      rw [at' k j hkj, out p fun hj => by have := hg p p hj; omega]
    · rw [out p fun hj => by have := hg i p hj; omega, out j fun hj => e (hdis p i j (List.mem_of_getElem? hkj) hj)]
      exact h.don p (by omega) hpn k j hkj
  · rw [out 0 fun hj => by have := hg i 0 hj; omega]
    exact h.top
end
def IsForced (w : Nat) (rows : List (List Nat)) (sh m : List Nat) (res : Option (List Nat)) : Prop := ∃ ls, IsLots w rows sh m ls ∧ ((ls.getD 0 [] = [] ∧ res = none) ∨ (ls.getD 0 [] ≠ [] ∧ ∃ f, SInv sh.length (kdf w sh) (fun q => ls.getD q []) (obys rows) (kidL w sh ls) sh.length f ∧ res = some (f.map fun l => if l.length = 1 then l else [63]).flatten))
theorem lotV_nd {O : Ob} {L ks : List Nat} {c : Nat} {vs : List (List Nat)} (hL : L.Nodup) : (lotV O L c ks vs).Nodup := by
  have h1 : (if ks = [] then L else topsAb O vs).Nodup := by
    split
    · exact hL
    · exact asc_nd stoN (asc_usort stoN _)
  unfold lotV
  generalize (if ks = [] then L else topsAb O vs) = a at *
  split
  · exact h1
  · split <;> simp
end MF
end
section
set_option autoImplicit false
set_option linter.all false
/-! M7: how many, and how far. -/
namespace MF
open MS
abbrev Dn := List (Nat × Nat)
def lko (d : Dn) (c : Nat) : Option Nat := (d.find? fun p => decide (p.1 = c)).map (·.2)
def lkn (d : Dn) (c : Nat) : Nat := (lko d c).getD 0
theorem lko_mem {d : Dn} {c v : Nat} (h : lko d c = some v) : (c, v) ∈ d := by
  unfold lko at h
  obtain ⟨p, h1, h2⟩ := Option.map_eq_some_iff.mp h
  have h3 := List.find?_some h1
  have h3 : p.1 = c := of_decide_eq_true h3
  rw [← h3, ← h2]
  exact List.mem_of_find?_eq_some h1
theorem lko_of {d : Dn} : ∀ {p : Nat × Nat}, (d.map (·.1)).Nodup → p ∈ d → lko d p.1 = some p.2 := by
  intro p
  induction d with
  | nil => intro _ h; cases h
  | cons x s ih =>
    intro nd hp
    rw [List.map_cons, List.nodup_cons] at nd
    unfold lko
    rw [List.find?_cons]
    rcases List.mem_cons.mp hp with rfl | hp
    · simp
    · have ne : x.1 ≠ p.1 := fun e => nd.1 (List.mem_map.mpr ⟨p, hp, e.symm⟩)
      have := ih nd.2 hp
      rw [decide_eq_false ne]
      exact this
/-- the product of what stands in dicts, label by label -/
def prw : List Dn → List Nat → Nat
  | [], [] => 1
  | d :: ds, c :: o => lkn d c * prw ds o
  | _, _ => 0
theorem prw_pr {cs : List Dn} : ∀ {ks o : List Nat}, prw (ks.map fun j => cs.getD j []) o = pr (fun j c => lkn (cs.getD j []) c) ks o
  | [], [] => rfl
  | [], _ :: _ => rfl
  | _ :: _, [] => rfl
  | k :: ks, c :: o => by
    rw [List.map_cons, prw, pr, prw_pr]
def wfold (cs : List Dn) (xs : List (Nat × List Nat)) : Nat := xs.foldl (fun f x => f * lkn (cs.getD x.1 []) (x.2.headD 0)) 1
theorem wfold_snoc {cs : List Dn} {xs : List (Nat × List Nat)} {x : Nat × List Nat} : wfold cs (xs ++ [x]) = wfold cs xs * lkn (cs.getD x.1 []) (x.2.headD 0) := by
  unfold wfold
  rw [List.foldl_append]
  rfl
theorem wfold_all {cs : List Dn} : ∀ {ks o : List Nat}, o.length = ks.length → wfold cs (ks.zip (o.map fun c => [c])) = prw (ks.map fun j => cs.getD j []) o := by
  suffices h : ∀ (ks o : List Nat) (a : Nat), o.length = ks.length → (ks.zip (o.map fun c => [c])).foldl (fun f x => f * lkn (cs.getD x.1 []) (x.2.headD 0)) a = a * prw (ks.map fun j => cs.getD j []) o by
    intro ks o hl
    have := h ks o 1 hl
    rw [Nat.one_mul] at this
    exact this
  intro ks
  induction ks with
  | nil =>
    intro o a hl
    rw [List.length_eq_zero_iff.mp hl]
    simp [prw]
  | cons k ks ih =>
    intro o a hl
    cases o with
    | nil => cases hl
    | cons c o =>
      rw [List.map_cons, List.zip_cons_cons, List.foldl_cons, ih o _ (by simpa using hl), List.map_cons, prw, Nat.mul_assoc]
      rfl
/-! ### bounds -/
def prodL : List Nat → Nat
  | [] => 1
  | x :: xs => x * prodL xs
def blst (w : Nat) (sh : List Nat) : List Nat := (List.range sh.length).reverse.foldl (fun l q => l.set q (if kdf w sh q = [] then 1 else 300 * prodL ((kdf w sh q).map fun j => l.getD j 1))) (List.replicate sh.length 1)
theorem Sh.bl {w : Nat} {sh : List Nat} (h : Sh w sh) : ∀ q, q < sh.length → (blst w sh).getD q 1 = (if kdf w sh q = [] then 1 else 300 * prodL ((kdf w sh q).map fun j => (blst w sh).getD j 1)) ∧ 1 ≤ (blst w sh).getD q 1 ∧ (blst w sh).getD q 1 ≤ 27000000 := fun q hq => h.all (fun w sh => ∀ q, q < sh.length → (blst w sh).getD q 1 = (if kdf w sh q = [] then 1 else 300 * prodL ((kdf w sh q).map fun j => (blst w sh).getD j 1)) ∧ 1 ≤ (blst w sh).getD q 1 ∧ (blst w sh).getD q 1 ≤ 27000000) (by decide +kernel) q hq
def Bd (d : Dn) (m : Nat) : Prop := ∀ p ∈ d, p.2 ≤ m
theorem Bd.lkn {d : Dn} {m c : Nat} (h : Bd d m) : MF.lkn d c ≤ m := by
  unfold MF.lkn
  cases e : lko d c with
  | none => exact Nat.zero_le _
  | some v => exact h _ (lko_mem e)
theorem prw_le {ds : List Dn} {ms o : List Nat} (hl : ds.length = ms.length) (h : ∀ (k : Nat) d m, ds[k]? = some d → ms[k]? = some m → Bd d m) : prw ds o ≤ prodL ms := by
  induction ds generalizing ms o with
  | nil =>
    cases ms with
    | nil => cases o <;> simp [prw, prodL]
    | cons _ _ => cases hl
  | cons d ds ih =>
    cases ms with
    | nil => cases hl
    | cons m ms =>
      cases o with
      | nil => simp [prw]
      | cons c o =>
        rw [prw, prodL]
        exact Nat.mul_le_mul (Bd.lkn (h 0 d m rfl rfl)) (ih (by simpa using hl) fun k d' m' h1 h2 => h (k + 1) d' m' (by simpa using h1) (by simpa using h2))
theorem sum_le {α : Type} {f : α → Nat} {m : Nat} : ∀ {xs : List α}, (∀ x ∈ xs, f x ≤ m) → (xs.map f).sum ≤ xs.length * m
  | [], _ => by simp
  | x :: xs, h => by
    rw [List.map_cons, List.sum_cons, List.length_cons, Nat.succ_mul]
    have h1 := h x (List.mem_cons_self ..)
    have h2 := sum_le (xs := xs) fun a ha => h a (List.mem_cons_of_mem _ ha)
    omega
/-! ### counts -/
def cntB (O : Ob) (L ks : List Nat) (vs : List Dn) : Dn := if ks = [] then L.map fun c => (c, 1) else O.map fun p => (p.1, (p.2.map fun o => prw vs o).sum)
def cntV (O : Ob) (L : List Nat) (c : Nat) (ks : List Nat) (vs : List Dn) : Dn := if c = 63 then cntB O L ks vs else [(c, lkn (cntB O L ks vs) c)]
abbrev IsCnts (w : Nat) (rows : List (List Nat)) (sh m : List Nat) (cs : List Dn) : Prop := IsArr (fun q vs => cntV (obys rows) (labs rows) (m.getD q 0) (kdf w sh q) vs) [] sh.length (kdf w sh) cs
theorem cntB_bd {w : Nat} {sh : List Nat} {O : Ob} {L : List Nat} {q : Nat} {cs : List Dn} (h : Sh w sh) (ok : OkO w O) (hq : q < sh.length) (hc : ∀ j, j ∈ kdf w sh q → Bd (cs.getD j []) ((blst w sh).getD j 1)) : Bd (cntB O L (kdf w sh q) ((kdf w sh q).map fun j => cs.getD j [])) ((blst w sh).getD q 1) := by
  obtain ⟨h1, h2, _⟩ := h.bl q hq
  rw [h1]
  unfold cntB
  by_cases e : kdf w sh q = []
  · rw [if_pos e, if_pos e]
    intro p hp
    obtain ⟨c, _, rfl⟩ := List.mem_map.mp hp
    exact Nat.le_refl _
  · rw [if_neg e, if_neg e]
    intro p hp
    obtain ⟨p', hp', rfl⟩ := List.mem_map.mp hp
    refine Nat.le_trans (sum_le (m := prodL ((kdf w sh q).map fun j => (blst w sh).getD j 1)) fun o ho => prw_le (by rw [List.length_map, List.length_map]) fun k d m' e1 e2 => ?_) (Nat.mul_le_mul_right _ (ok.m p' hp'))
    rw [List.getElem?_map] at e1 e2
    obtain ⟨j, g1, g2⟩ := Option.map_eq_some_iff.mp e1
    rw [g1] at e2
    cases e2
    rw [← g2]
    exact hc j (List.mem_of_getElem? g1)
theorem cntV_bd {w : Nat} {sh : List Nat} {O : Ob} {L : List Nat} {q c : Nat} {cs : List Dn} (h : Sh w sh) (ok : OkO w O) (hq : q < sh.length) (hc : ∀ j, j ∈ kdf w sh q → Bd (cs.getD j []) ((blst w sh).getD j 1)) : Bd (cntV O L c (kdf w sh q) ((kdf w sh q).map fun j => cs.getD j [])) ((blst w sh).getD q 1) := by
  have hb := cntB_bd (L := L) h ok hq hc
  unfold cntV
  split
  · exact hb
  · intro p hp
    rw [List.mem_singleton] at hp
    rw [hp]
    exact Bd.lkn hb
/-! ### costs -/
def costB (vs : List Dn) (o : List Nat) : Option Nat := if ((vs.zip o).any fun x => (lko x.1 x.2).isNone) = true then none else some ((vs.zip o).map fun x => lkn x.1 x.2).sum
def minL : List Nat → Nat
  | [] => 0
  | [x] => x
  | x :: y :: xs => min x (minL (y :: xs))
theorem minL_mem : ∀ {xs : List Nat}, xs ≠ [] → minL xs ∈ xs ∧ ∀ y ∈ xs, minL xs ≤ y
  | [], h => absurd rfl h
  | [x], _ => ⟨List.mem_singleton.mpr rfl, fun y hy => by rw [List.mem_singleton] at hy; rw [hy]; exact Nat.le_refl _⟩
  | x :: y :: xs, _ => by
    obtain ⟨h1, h2⟩ := minL_mem (xs := y :: xs) (by simp)
    rw [minL]
    constructor
    · by_cases e : x ≤ minL (y :: xs)
      · rw [Nat.min_eq_left e]; exact List.mem_cons_self ..
      · rw [Nat.min_eq_right (by omega)]; exact List.mem_cons_of_mem _ h1
    · intro z hz
      rcases List.mem_cons.mp hz with rfl | hz
      · exact Nat.min_le_left ..
      · exact Nat.le_trans (Nat.min_le_right ..) (h2 z hz)
def costsAb (O : Ob) (vs : List Dn) : Dn := O.filterMap fun p => if p.2.filterMap (costB vs) = [] then none else some (p.1, minL (p.2.filterMap (costB vs)))
def cstB (O : Ob) (L ks : List Nat) (vs : List Dn) : Dn := if ks = [] then L.map fun c => (c, 0) else costsAb O vs
def cstV (O : Ob) (L : List Nat) (c : Nat) (ks : List Nat) (vs : List Dn) : Dn := if c = 63 then cstB O L ks vs else (cstB O L ks vs).map fun p => (p.1, p.2 + if p.1 = c then 0 else 1)
abbrev IsCsts (w : Nat) (rows : List (List Nat)) (sh m : List Nat) (cs : List Dn) : Prop := IsArr (fun q vs => cstV (obys rows) (labs rows) (m.getD q 0) (kdf w sh q) vs) [] sh.length (kdf w sh) cs
theorem costsAb_nd {O : Ob} {vs : List Dn} (h : (O.map (·.1)).Nodup) : ((costsAb O vs).map (·.1)).Nodup := by
  refine List.Nodup.sublist (l₂ := O.map (·.1)) ?_ h
  unfold costsAb
  induction O with
  | nil => exact List.Sublist.refl _
  | cons p O ih =>
    rw [List.map_cons, List.nodup_cons] at h
    rw [List.filterMap_cons]
    split
    · exact List.Sublist.cons _ (ih h.2)
    · rename_i b hb
      split at hb
      · cases hb
      · cases hb
        exact List.Sublist.cons_cons _ (ih h.2)
theorem costsAb_n {O : Ob} {vs : List Dn} : (costsAb O vs).length ≤ O.length := List.length_filterMap_le ..
theorem cstV_nd {O : Ob} {L ks : List Nat} {c : Nat} {vs : List Dn} (h : (O.map (·.1)).Nodup) (hL : L.Nodup) : ((cstV O L c ks vs).map (·.1)).Nodup ∧ (O.length ≤ 11 → L.length ≤ 11 → (cstV O L c ks vs).length ≤ 11) := by
  have h1 : ((cstB O L ks vs).map (·.1)).Nodup ∧ (O.length ≤ 11 → L.length ≤ 11 → (cstB O L ks vs).length ≤ 11) := by
    unfold cstB
    split
    · refine ⟨?_, fun _ hl => by rw [List.length_map]; exact hl⟩
      rw [List.map_map]
      have : L.map ((fun x : Nat × Nat => x.1) ∘ fun c => (c, 0)) = L := by
        rw [← List.map_id L, List.map_map]
        rfl
      rw [this]
      exact hL
    · exact ⟨costsAb_nd h, fun hn _ => Nat.le_trans costsAb_n hn⟩
  unfold cstV
  split
  · exact h1
  · rw [List.map_map, List.length_map]
    exact h1
end MF
end
section
set_option autoImplicit false
set_option linter.all false
/-! M8: the law's tables. -/
namespace MF
open MS
def codesA : List (List Nat) := [[50, 32, 97, 98, 98, 32, 98, 97, 97],
  [50, 32, 97, 98, 98, 32, 97, 98, 99, 32, 97, 99, 99, 32, 98, 97, 97, 32, 98, 97, 99, 32, 98, 99, 99, 32, 99, 97, 97, 32, 99, 97, 98, 32, 99, 98, 98],
  [50, 32, 97, 98, 98, 32, 98, 97, 97, 32, 99, 97, 99, 32, 99, 100, 100, 32, 100, 99, 99],
  [50, 32, 97, 98, 99, 32, 98, 97, 97, 32, 98, 98, 99]]
def codesB : List (List Nat) := [[50, 32, 97, 97, 98, 32, 97, 98, 98],
  [50, 32, 97, 97, 97],
  [50, 32, 97, 98, 98],
  [50, 32, 97, 98, 98, 32, 98, 99, 99],
  [50, 32, 97, 98, 99, 32, 98, 99, 99, 32, 99, 97, 97],
  [50, 32, 97, 97, 98, 32, 98, 99, 99, 32, 99, 97, 97],
  [50, 32, 97, 98, 100, 32, 98, 99, 100, 32, 99, 100, 100],
  [50, 32, 97, 97, 98, 32, 98, 98, 99, 32, 99, 97, 99]]
def codesC : List (List Nat) := [[51, 32, 97, 98, 98, 98, 32, 98, 97, 97, 97],
  [51, 32, 97, 97, 98, 98, 32, 98, 97, 97, 97],
  [51, 32, 97, 98, 98, 99, 32, 98, 99, 99, 99],
  [51, 32, 97, 97, 97, 98, 32, 98, 97, 99, 99, 32, 99, 98, 98, 98],
  [51, 32, 97, 98, 99, 100, 32, 98, 97, 97, 97],
  [51, 32, 97, 97, 97, 97, 32, 97, 98, 98, 98],
  [50, 32, 97, 98, 98, 32, 98, 97, 98]]
def codesD : List (List Nat) := [[50, 32, 97, 98, 99, 32, 98, 97, 99, 32, 99, 97, 98],
  [51, 32, 97, 98, 98, 98, 32, 98, 99, 99, 99, 32, 99, 97, 97, 97],
  [50, 32, 97, 97, 99, 32, 98, 98, 99],
  [50, 32, 97, 98, 98, 32, 97, 99, 99, 32, 98, 100, 100, 32, 99, 97, 97]]
def codes : List (List Nat) := codesA ++ codesB ++ codesC ++ codesD
/-- the tables of at most three labels -/
def codesF : List (List Nat) := codes.filter fun c => !decide (100 ∈ c)
def pools : List (List Nat) := [[97, 98, 99, 100, 101, 102, 103, 104], [97, 99, 101, 103, 105, 107, 109, 111], [98, 99, 100, 116, 119, 120, 121, 122], [109, 110, 111, 112, 114, 115, 116, 117], [101, 102, 103, 104, 119, 120, 121, 122]]
/-- the words of a text -/
def words : List Nat → List Nat → List (List Nat)
  | acc, [] => [acc]
  | acc, c :: r => if c = 32 then acc :: words [] r else words (acc ++ [c]) r
def nameW (p : List Nat) (l : List Nat) : List Nat := l.map fun c => p.getD (c - 97) 0
def nameR (code p : List Nat) : List (List Nat) := usort ltL (((words [] code).drop 1).map (nameW p))
def nameN (code : List Nat) : Nat := (code.headD 0) - 48
/-- a row of a table with these letters -/
structure RowOk (w : Nat) (L r : List Nat) : Prop where
  len : r.length = w + 1
  mem : ∀ c ∈ r, c ∈ L
  wk : Wk ltN (r.drop 1)
instance decRow (w : Nat) (L r : List Nat) : Decidable (RowOk w L r) := by
  have : Decidable (Wk ltN (r.drop 1)) := by unfold Wk; exact inferInstance
  exact decidable_of_iff (r.length = w + 1 ∧ (∀ c ∈ r, c ∈ L) ∧ Wk ltN (r.drop 1)) ⟨fun h => ⟨h.1, h.2.1, h.2.2⟩, fun h => ⟨h.len, h.mem, h.wk⟩⟩
theorem gr_of {w : Nat} {L : List Nat} {zs : List (List Nat)} (hw : w = 2 ∨ w = 3) (hn : zs.length ≤ 11) (h0 : zs ≠ []) (hr : ∀ r ∈ zs, RowOk w L r) (hL : ∀ c ∈ L, c ∈ MF.abc) (h3 : L.length ≤ 3) : Gr w (usort ltL zs) := by
  have hm : ∀ r, r ∈ usort ltL zs → r ∈ zs := fun r h => (mem_usort stoL).mp h
  refine ⟨hw, ?_, ?_, fun r h => (hr r (hm r h)).len, fun r h c hc => hL c ((hr r (hm r h)).mem c hc), fun r h => (hr r (hm r h)).wk, asc_usort stoL zs, ?_⟩
  · exact Nat.le_trans ((asc_nd stoL (asc_usort stoL zs)).length_le_of_subset fun r h => hm r h) hn
  · intro e
    obtain ⟨r, hr'⟩ := List.exists_mem_of_ne_nil zs h0
    have := (mem_usort stoL).mpr hr'
    rw [e] at this
    cases this
  · refine Nat.le_trans ((asc_nd stoN (asc_usort stoN _)).length_le_of_subset (l₂ := L) fun c hc => ?_) h3
    obtain ⟨r, h1, h2⟩ := mem_labs.mp hc
    exact (hr r (hm r h1)).mem c h2
theorem codes_ok : ∀ c ∈ codesF, ∀ p ∈ pools, (nameN c = 2 ∨ nameN c = 3) ∧ ((words [] c).drop 1).length ≤ 9 ∧ (words [] c).drop 1 ≠ [] ∧ (∀ r ∈ ((words [] c).drop 1).map (nameW p), RowOk (nameN c) (p.take 3) r) ∧ ∀ d ∈ p.take 3, d ∈ MF.abc := by decide +kernel
theorem codes_w : ∀ c ∈ codesF, ∀ x ∈ (words [] c).drop 1, x.length ≤ 4 ∧ ∀ d ∈ x, 97 ≤ d ∧ d < 105 := by decide +kernel
theorem pools_ok : ∀ p ∈ pools, p.length = 8 ∧ (∀ d ∈ p, d ∈ MF.abc) := by decide +kernel
theorem codes_n : codesF.length ≤ 23 ∧ 0 < codesF.length ∧ ∀ c ∈ codesF, c.length ≤ 100 := by decide +kernel
end MF
end
section
set_option autoImplicit false
set_option linter.all false
/-! M9: the law's orders and ways. -/
namespace MF
open MS
def ins1 (c : Nat) (x : List Nat) : List (List Nat) := (List.range (x.length + 1)).map fun k => x.take k ++ [c] ++ x.drop k
def lstep (f : List (List Nat)) (c : Nat) : List (List Nat) := usort ltL (f.flatMap (ins1 c))
def lord (l : List Nat) : List (List Nat) := l.foldl lstep [[]]
theorem lord_snoc {l : List Nat} {c : Nat} : lord (l ++ [c]) = lstep (lord l) c := by
  unfold lord
  rw [List.foldl_append]
  rfl
theorem mem_ins1 {c : Nat} {x o : List Nat} : o ∈ ins1 c x ↔ ∃ k, k ≤ x.length ∧ o = x.take k ++ [c] ++ x.drop k := by
  unfold ins1
  rw [List.mem_map]
  constructor
  · rintro ⟨k, h, rfl⟩
    rw [List.mem_range] at h
    exact ⟨k, by omega, rfl⟩
  · rintro ⟨k, h, rfl⟩
    exact ⟨k, List.mem_range.mpr (by omega), rfl⟩
theorem mem_lord {l o : List Nat} : o ∈ lord l ↔ o.Perm l := by
  suffices h : ∀ n (l : List Nat), l.length = n → ∀ o, o ∈ lord l ↔ o.Perm l from h _ l rfl o
  intro n
  induction n with
  | zero =>
    intro l h o
    rw [List.length_eq_zero_iff.mp h]
    show o ∈ [[]] ↔ _
    rw [List.mem_singleton, List.perm_nil]
  | succ n ih =>
    intro l h o
    obtain ⟨l', c, rfl, hl⟩ := snoc_cases h
    rw [lord_snoc]
    unfold lstep
    rw [mem_usort stoL, List.mem_flatMap]
    constructor
    · rintro ⟨x, h1, h2⟩
      obtain ⟨k, hk, rfl⟩ := mem_ins1.mp h2
      have p := (ih l' hl x).mp h1
      refine List.Perm.trans ?_ (p.append_right [c])
      have e : x.take k ++ x.drop k = x := List.take_append_drop k x
      conv => rhs; rw [← e]
      rw [List.append_assoc, List.append_assoc]
      exact List.perm_append_comm.append_left _
    · intro p
      have hc : c ∈ o := p.mem_iff.mpr (by simp)
      obtain ⟨a, b, rfl⟩ := List.append_of_mem hc
      refine ⟨a ++ b, (ih l' hl _).mpr ?_, mem_ins1.mpr ⟨a.length, by rw [List.length_append]; omega, ?_⟩⟩
      · have q : (c :: (a ++ b)).Perm (c :: l') := by
          refine List.Perm.trans ?_ (p.trans ?_)
          · exact List.perm_middle.symm
          · exact List.perm_append_comm
        exact List.Perm.cons_inv q
      · rw [List.take_left, List.drop_left]
        simp
def fct : Nat → Nat
  | 0 => 1
  | n + 1 => fct n * (n + 1)
theorem lord_fct : ∀ n (l : List Nat), l.length = n → (lord l).length ≤ fct n := by
  intro n
  induction n with
  | zero =>
    intro l h
    rw [List.length_eq_zero_iff.mp h]
    exact Nat.le_refl _
  | succ n ih =>
    intro l h
    obtain ⟨l', c, rfl, hl⟩ := snoc_cases h
    rw [lord_snoc]
    unfold lstep
    have h5 := ih l' hl
    have h6 : ((lord l').flatMap (ins1 c)).length ≤ (lord l').length * (n + 1) := flatMap_le fun o ho => by
      unfold ins1
      rw [List.length_map, List.length_range, (mem_lord.mp ho).length_eq]
      omega
    have h7 : (usort ltL ((lord l').flatMap (ins1 c))).length ≤ ((lord l').flatMap (ins1 c)).length := by
      have h1 := asc_nd stoL (asc_usort stoL ((lord l').flatMap (ins1 c)))
      exact h1.length_le_of_subset fun x hx => (mem_usort stoL).mp hx
    have h8 := Nat.mul_le_mul_right (n + 1) h5
    show _ ≤ fct n * (n + 1)
    omega
theorem lord_64 {l : List Nat} (h : l.length ≤ 3) : (lord l).length ≤ 64 := by
  have h1 := lord_fct l.length l rfl
  have h2 : fct l.length ≤ 64 := by
    have : l.length = 0 ∨ l.length = 1 ∨ l.length = 2 ∨ l.length = 3 := by omega
    rcases this with e | e | e | e <;> rw [e] <;> decide
  omega
/-- for each label what may stand below it -/
def wayL (rows : List (List Nat)) (c : Nat) : List (List Nat) := (rows.filter fun r => decide (r.headD 0 = c)).flatMap fun r => lord (r.drop 1)
def wys (L : List Nat) (rows : List (List Nat)) : Ob := L.map fun c => (c, wayL rows c)
theorem wayL_snoc {rows : List (List Nat)} {r : List Nat} {c : Nat} : wayL (rows ++ [r]) c = if r.headD 0 = c then wayL rows c ++ lord (r.drop 1) else wayL rows c := by
  unfold wayL
  rw [List.filter_append, List.flatMap_append, List.filter_cons]
  by_cases h : r.headD 0 = c
  · rw [if_pos h, if_pos (decide_eq_true h)]
    simp
  · rw [if_neg h, if_neg (by simpa using h)]
    simp
theorem wys_snoc {L : List Nat} {rows : List (List Nat)} {r : List Nat} : wys L (rows ++ [r]) = (wys L rows).map fun p => if p.1 = r.headD 0 then (p.1, p.2 ++ lord (r.drop 1)) else p := by
  unfold wys
  rw [List.map_map]
  refine List.map_congr_left fun c _ => ?_
  show (c, wayL (rows ++ [r]) c) = if c = r.headD 0 then (c, wayL rows c ++ lord (r.drop 1)) else (c, wayL rows c)
  rw [wayL_snoc]
  by_cases h : r.headD 0 = c
  · rw [if_pos h, if_pos h.symm]
  · rw [if_neg h, if_neg fun e => h e.symm]
theorem wys_keys (L : List Nat) (rows : List (List Nat)) : (wys L rows).map (·.1) = L := by
  unfold wys
  rw [List.map_map]
  exact List.map_id L
theorem wys_lk {L : List Nat} {rows : List (List Nat)} {c : Nat} (hn : L.Nodup) (h : c ∈ L) : lk (wys L rows) c = wayL rows c :=
  lk_mem (s := wys L rows) (p := (c, wayL rows c)) (by rw [wys_keys]; exact hn) (List.mem_map.mpr ⟨c, h, rfl⟩)
theorem mem_wayL {rows : List (List Nat)} {c : Nat} {t : List Nat} : t ∈ wayL rows c ↔ Aw rows c t := by
  unfold wayL
  rw [List.mem_flatMap]
  constructor
  · rintro ⟨r, h1, h2⟩
    obtain ⟨h3, h4⟩ := List.mem_filter.mp h1
    exact ⟨r, h3, of_decide_eq_true h4, mem_lord.mp h2⟩
  · rintro ⟨r, h1, h2, h3⟩
    exact ⟨r, List.mem_filter.mpr ⟨h1, decide_eq_true h2⟩, mem_lord.mpr h3⟩
theorem wayL_len {rows : List (List Nat)} {c : Nat} (h : ∀ r ∈ rows, r.length ≤ 4) : (wayL rows c).length ≤ rows.length * 64 := by
  unfold wayL
  refine Nat.le_trans (flatMap_le (m := 64) fun r hr => lord_64 ?_) (Nat.mul_le_mul_right _ (List.length_filter_le ..))
  have := h r (List.mem_filter.mp hr).1
  rw [List.length_drop]
  omega
/-- how many ways at most -/
def wMax (w : Nat) : Nat := if w = 2 then 22 else 66
theorem wayL_max {w : Nat} {rows : List (List Nat)} (g : Gr w rows) (c : Nat) : (wayL rows c).length ≤ wMax w := by
  have h1 : (wayL rows c).length ≤ (rows.filter fun r => decide (r.headD 0 = c)).length * fct w := by
    unfold wayL
    refine flatMap_le fun r hr => ?_
    have h2 := g.len r (List.mem_filter.mp hr).1
    exact lord_fct w _ (by rw [List.length_drop, h2]; rfl)
  have h3 := List.length_filter_le (fun r : List Nat => decide (r.headD 0 = c)) rows
  have h4 := g.n
  unfold wMax
  rcases g.w23 with rfl | rfl
  · rw [if_pos rfl]
    have : fct 2 = 2 := by decide
    rw [this] at h1
    omega
  · rw [if_neg (by decide)]
    have : fct 3 = 6 := by decide
    rw [this] at h1
    omega
def blst2 (w : Nat) (sh : List Nat) : List Nat := (List.range sh.length).reverse.foldl (fun l q => l.set q (if kdf w sh q = [] then 1 else wMax w * prodL ((kdf w sh q).map fun j => l.getD j 1))) (List.replicate sh.length 1)
theorem Sh.bl2 {w : Nat} {sh : List Nat} (h : Sh w sh) : ∀ q, q < sh.length → (blst2 w sh).getD q 1 = (if kdf w sh q = [] then 1 else wMax w * prodL ((kdf w sh q).map fun j => (blst2 w sh).getD j 1)) ∧ 1 ≤ (blst2 w sh).getD q 1 ∧ (blst2 w sh).getD q 1 ≤ 10648 := fun q hq => h.all (fun w sh => ∀ q, q < sh.length → (blst2 w sh).getD q 1 = (if kdf w sh q = [] then 1 else wMax w * prodL ((kdf w sh q).map fun j => (blst2 w sh).getD j 1)) ∧ 1 ≤ (blst2 w sh).getD q 1 ∧ (blst2 w sh).getD q 1 ≤ 10648) (by decide +kernel) q hq
theorem prodL_app : ∀ xs ys : List Nat, prodL (xs ++ ys) = prodL xs * prodL ys
  | [], ys => (Nat.one_mul _).symm
  | x :: xs, ys => by rw [List.cons_append, prodL, prodL, prodL_app xs ys, Nat.mul_assoc]
theorem prodL_pos : ∀ {xs : List Nat}, (∀ x ∈ xs, 1 ≤ x) → 1 ≤ prodL xs
  | [], _ => Nat.le_refl _
  | x :: xs, h => Nat.mul_le_mul (h x (List.mem_cons_self ..)) (prodL_pos fun y hy => h y (List.mem_cons_of_mem _ hy))
/-- words put together, dict by dict -/
def wsD : List (List Nat) → List Ob → List Nat → List (List Nat)
  | acc, [], [] => acc
  | acc, d :: ds, c :: t => wsD (acc.flatMap fun u => (lk d c).map fun m => u ++ m) ds t
  | _, _, _ => []
def wsS (acc : List (List Nat)) (x : Ob × Nat) : List (List Nat) := acc.flatMap fun u => (lk x.1 x.2).map fun m => u ++ m
theorem wsD_fold : ∀ {ds : List Ob} {t : List Nat} (acc : List (List Nat)), t.length = ds.length → wsD acc ds t = (ds.zip t).foldl wsS acc
  | [], [], acc, _ => rfl
  | [], _ :: _, acc, h => by simp at h
  | _ :: _, [], acc, h => by simp at h
  | d :: ds, c :: t, acc, h => by
    show wsD _ ds t = _
    rw [wsD_fold _ (by simpa using h)]
    rfl
theorem wsS_len {ms : List Nat} : ∀ {xs : List (Ob × Nat)} {acc : List (List Nat)}, xs.length = ms.length → (∀ (k : Nat) x m, xs[k]? = some x → ms[k]? = some m → (lk x.1 x.2).length ≤ m) → (xs.foldl wsS acc).length ≤ acc.length * prodL ms := by
  induction ms with
  | nil =>
    intro xs acc h _
    rw [List.length_eq_zero_iff.mp h]
    simp [prodL]
  | cons m ms ih =>
    intro xs acc h hk
    cases xs with
    | nil => cases h
    | cons x xs =>
      rw [List.foldl_cons, prodL]
      have h1 := ih (xs := xs) (acc := wsS acc x) (by simpa using h) fun k x' m' h1 h2 => hk (k + 1) x' m' (by simpa using h1) (by simpa using h2)
      have h2 : (wsS acc x).length ≤ acc.length * m := flatMap_le fun u _ => by
        rw [List.length_map]
        exact hk 0 x m rfl rfl
      refine Nat.le_trans h1 ?_
      rw [← Nat.mul_assoc]
      exact Nat.mul_le_mul_right _ h2
theorem lfold_snoc {w : Nat} {sh ks : List Nat} {k : Nat} : lfold w sh (ks ++ [k]) = lst w sh (lfold w sh ks) k := by
  unfold lfold
  rw [List.foldl_append]
  rfl
theorem lfold_len {w : Nat} {sh : List Nat} (ks : List Nat) : (lfold w sh ks).1.length = sh.length ∧ (lfold w sh ks).2.length ≤ ks.length := by
  suffices h : ∀ n (ks : List Nat), ks.length = n → (lfold w sh ks).1.length = sh.length ∧ (lfold w sh ks).2.length ≤ n from h _ ks rfl
  intro n
  induction n with
  | zero =>
    intro ks h
    rw [List.length_eq_zero_iff.mp h]
    exact ⟨List.length_replicate, Nat.le_refl _⟩
  | succ n ih =>
    intro ks h
    obtain ⟨pre, k, rfl, hp⟩ := snoc_cases h
    obtain ⟨h1, h2⟩ := ih pre hp
    rw [lfold_snoc]
    unfold lst
    split
    · refine ⟨by rw [List.length_set]; exact h1, ?_⟩
      rw [List.length_append, List.length_take]
      simp
      omega
    · refine ⟨h1, ?_⟩
      rw [List.length_append]
      simp
      omega
end MF
end
section
set_option Elab.async false
set_option linter.all false
set_option maxRecDepth 100000
set_option maxHeartbeats 4000000
/-! KD0: defs of the text; what the module holds; lot_of. -/
namespace KD
open PySem PySem.Spec PyProof.Rows L2 KS MS KB
open MF (abc)
open SX (S)
def topS (i : Nat) : Stmt := PySem.Challenge.pw_lookdepth_k18_whole_fillings_by_all.main.body.getD i (.Pass ⟨0, 0, 0, 0⟩)
/-- a def behind the top -/
structure Dfn (K : PySem.W.Frag) (mg : Str → Option Value) (x : Str) (st : Stmt) (ps : List Str) : Prop where
  ex : ∃ (f : Addr) (fd : FuncData), L2.Fun K x x st f fd ∧ mg x = some (.ref f) ∧ Binds K fd ps []
section
variable {P : Program} {w : World} {K : PySem.W.Frag} {mg : Str → Option Value} {base : Heap}
abbrev DX (P : Program) (w : World) (K : PySem.W.Frag) (mg : Str → Option Value) (base : Heap) (N : List Str) (x : Str) (st : Stmt) (f : Addr) (cdv : Value) (A : Around) (outer : List Env) (s : Shared) (H : Hp) (E : XK) : Cx :=
  (cxOf L2.CX0 P w K mg base N x (defScope st) f cdv A outer s H E).nox
theorem Dfn.cal {x : Str} {st : Stmt} {N ps : List Str} {k : Nat} {sp : Sp} (F : Dfn K mg x st ps) (S : FnScope N ps (defScope st)) (len : ∀ vs H Q E, sp vs H Q E → vs.length = ps.length)
    (hbody : ∀ (f : Addr) (cdv : Value) (A : Around) (outer : List Env) (s : Shared) (H : Hp) (vs : List V) (Q : VK) (E : XK), Room k (A.deeper (envOfC x (defScope st) s.heap.objs.size f cdv)) → sp vs H Q E →
      WP (DX P w K mg base N x st f cdv A outer s H E) (defBody st) { nx := fun _ H' => Q .non H', rt := Q } (start N vs) H) : C8.Cal P w K mg base (k + 1) x sp [] := by
  obtain ⟨f, fd, h, hm, b⟩ := F.ex
  exact ⟨f, fd, ps, [], h.ok S len (fun cdv A outer s H vs Q E hr hsp => ⟨WP _ (defBody st), pssW, hbody f cdv A outer s H vs Q E hr hsp⟩), hm, h.kp, b, .nil⟩
/-- the built-ins are not hidden -/
structure BI (mg : Str → Option Value) : Prop where
  isinstance : mg "isinstance" = none
  int : mg "int" = none
  bool : mg "bool" = none
  str : mg "str" = none
  enumerate : mg "enumerate" = none
  len : mg "len" = none
  all : mg "all" = none
  any : mg "any" = none
  sorted : mg "sorted" = none
  set : mg "set" = none
  range : mg "range" = none
  zip : mg "zip" = none
  sum : mg "sum" = none
  min : mg "min" = none
  repr : mg "repr" = none
  list : mg "list" = none
  tuple : mg "tuple" = none
/-- the module's names -/
structure GC (K : PySem.W.Frag) (mg : Str → Option Value) : Prop where
  bi : BI mg
  letters : ∃ u, mg "LETTERS" = some u ∧ RelV (tx abc) u
  untold : ∃ u, mg "UNTOLD" = some u ∧ RelV (tx [63]) u
  manies : ∃ a, mg "MANIES" = some (.ref a) ∧ ∀ H, SqT K H a [.int 2, .int 3]
/-! ### lot_of -/
abbrev sLot : Stmt := topS 19
theorem scLot : FnScope ["labels"] ["labels"] (defScope sLot) := ⟨rfl, rfl, rfl, by decide +kernel, rfl, by decide +kernel, by decide +kernel⟩
theorem flat_sg : ∀ l : List Nat, (sg l).flatten = l
  | [] => rfl
  | c :: l => by
    show [c] ++ (sg l).flatten = c :: l
    rw [flat_sg l]
    rfl
theorem filt {α : Type} : ∀ xs : List α, (xs.filter fun _ => true) = xs
  | [] => rfl
  | x :: xs => by rw [List.filter_cons, if_pos rfl, filt xs]
theorem len_sg (l : List Nat) : (sg l).length = l.length := by unfold sg; rw [List.length_map]
theorem sum_sg : ∀ l : List Nat, ((sg l).map (·.length)).sum = l.length
  | [] => rfl
  | c :: l => by
    show (1 + ((sg l).map (·.length)).sum : Nat) = l.length + 1
    rw [sum_sg l]
    omega
theorem ltL_sg (a b : Nat) : ltL [a] [b] = ltN a b := by
  rw [ltL_cons]
  simp [ltL]
theorem insU_sg (c : Nat) : ∀ l : List Nat, insU ltL [c] (sg l) = sg (insU ltN c l)
  | [] => rfl
  | d :: l => by
    show insU ltL [c] ([d] :: sg l) = _
    unfold insU
    rw [ltL_sg, ltL_sg]
    split
    · rfl
    · split
      · rw [insU_sg c l]; rfl
      · rfl
theorem usort_sg : ∀ l : List Nat, usort ltL (sg l) = sg (usort ltN l)
  | [] => rfl
  | c :: l => by
    show insU ltL [c] (usort ltL (sg l)) = _
    rw [usort_sg l, insU_sg]
    rfl
theorem insU_len {α : Type} {lt : α → α → Bool} (c : α) : ∀ l : List α, (insU lt c l).length ≤ l.length + 1
  | [] => Nat.le_refl _
  | d :: l => by
    unfold insU
    split
    · exact Nat.le_refl _
    · split
      · have := insU_len (lt := lt) c l
        rw [List.length_cons, List.length_cons]
        omega
      · exact Nat.le_succ _
theorem usort_len {α : Type} {lt : α → α → Bool} : ∀ l : List α, (usort lt l).length ≤ l.length
  | [] => Nat.le_refl _
  | c :: l => by
    show (insU lt c (usort lt l)).length ≤ _
    have h1 := insU_len (lt := lt) c (usort lt l)
    have h2 := usort_len (lt := lt) l
    rw [List.length_cons]
    omega
abbrev DLot (K : PySem.W.Frag) (mg : Str → Option Value) : Prop := Dfn K mg "lot_of" sLot ["labels"]
/-- of a text -/
theorem cal_lotS (g : GC K mg) (D : DLot K mg) : C8.Cal P w K mg base 1 "lot_of" (sp1 rT (fun l => l.length ≤ 4000) fun l => rT.r (usort ltN l)) [] := by
  refine D.cal scLot (fun vs H Q E ⟨x, v, B, e, _⟩ => by rw [e]; rfl) fun f cdv A outer s H vs Q E hr ⟨l, v, B, e, i, r, hz, q⟩ => ?_
  subst e
  refine wp_ret i (g_join (g_sortSetS rfl g.bi.sorted g.bi.set (gv 0 r) hz) ?_) fun v B1 H1 f p => q v B1 H1 f ?_
  · show ((usort ltL (sg l)).map (·.length)).sum ≤ 100000
    rw [usort_sg, sum_sg]
    exact Nat.le_trans (usort_len l) (Nat.le_trans hz (by decide))
  · have p : rT.r (usort ltL (sg l)).flatten v B1 := p
    rw [usort_sg, flat_sg] at p
    exact p
/-- of a list of signs -/
theorem cal_lotL (g : GC K mg) (D : DLot K mg) : C8.Cal P w K mg base 1 "lot_of" (sp1 (rL rT) (fun ls => ls.length ≤ 4000 ∧ ∃ l, ls = sg l) fun ls => rT.r (usort ltN ls.flatten)) [] := by
  refine D.cal scLot (fun vs H Q E ⟨x, v, B, e, _⟩ => by rw [e]; rfl) fun f cdv A outer s H vs Q E hr ⟨ls, v, B, e, i, r, ⟨hz, l, el⟩, q⟩ => ?_
  subst e
  subst el
  rw [len_sg] at hz
  refine wp_ret i (g_join (g_sortSetT rfl g.bi.sorted g.bi.set (gv 0 r) (metS (by rw [len_sg]; exact hz))) ?_) fun v B1 H1 f p => q v B1 H1 f ?_
  · rw [usort_sg, sum_sg]
    exact Nat.le_trans (usort_len l) (Nat.le_trans hz (by decide))
  · have p : rT.r (usort ltL (sg l)).flatten v B1 := p
    rw [usort_sg, flat_sg] at p
    show rT.r (usort ltN (sg l).flatten) v B1
    rw [flat_sg]
    exact p
end
end KD
end
section
set_option Elab.async false
set_option linter.all false
set_option maxRecDepth 100000
set_option maxHeartbeats 4000000
/-! KD1: is_integer, is_many, shape_fault, is_shape, is_marks. -/
namespace KD
open PySem PySem.Spec PyProof.Rows L2 KS MS KB
open SX (S)
open MF (abc Mk Sh kd need need_snoc)
section
variable {P : Program} {w : World} {K : PySem.W.Frag} {mg : Str → Option Value} {base : Heap}
theorem enum_at {α : Type} {n : Nat} {xs : List α} {pre post : List (Nat × α)} {a : Nat × α} (h : (List.range n).zip xs = pre ++ a :: post) : a.1 = pre.length ∧ xs[pre.length]? = some a.2 ∧ pre.length < n := by
  have h1 : ((List.range n).zip xs)[pre.length]? = some a := by rw [h, List.getElem?_append_right (Nat.le_refl _), Nat.sub_self]; rfl
  obtain ⟨h2, h3⟩ := List.getElem?_zip_eq_some.mp h1
  have h4 : pre.length < n := by
    have := (List.getElem?_eq_some_iff.mp h2).1
    rw [List.length_range] at this
    exact this
  rw [List.getElem?_range h4] at h2
  exact ⟨(Option.some.inj h2).symm, h3, h4⟩
abbrev DInt (K : PySem.W.Frag) (mg : Str → Option Value) : Prop := Dfn K mg "is_integer" (topS 4) ["thing"]
abbrev DMany (K : PySem.W.Frag) (mg : Str → Option Value) : Prop := Dfn K mg "is_many" (topS 5) ["thing"]
abbrev DFault (K : PySem.W.Frag) (mg : Str → Option Value) : Prop := Dfn K mg "shape_fault" (topS 6) ["many", "thing"]
abbrev DShape (K : PySem.W.Frag) (mg : Str → Option Value) : Prop := Dfn K mg "is_shape" (topS 7) ["many", "thing"]
abbrev DMarks (K : PySem.W.Frag) (mg : Str → Option Value) : Prop := Dfn K mg "is_marks" (topS 8) ["thing"]
theorem scInt : FnScope ["thing"] ["thing"] (defScope (topS 4)) := ⟨rfl, rfl, rfl, by decide +kernel, rfl, by decide +kernel, by decide +kernel⟩
theorem scMany : FnScope ["thing"] ["thing"] (defScope (topS 5)) := ⟨rfl, rfl, rfl, by decide +kernel, rfl, by decide +kernel, by decide +kernel⟩
theorem scFault : FnScope ["many", "thing", "k", "sign", "wanted"] ["many", "thing"] (defScope (topS 6)) := ⟨rfl, rfl, rfl, by decide +kernel, rfl, by decide +kernel, by decide +kernel⟩
theorem scShape : FnScope ["many", "thing"] ["many", "thing"] (defScope (topS 7)) := ⟨rfl, rfl, rfl, by decide +kernel, rfl, by decide +kernel, by decide +kernel⟩
theorem scMarks : FnScope ["thing", "sign"] ["thing"] (defScope (topS 8)) := ⟨rfl, rfl, rfl, by decide +kernel, rfl, by decide +kernel, by decide +kernel⟩
theorem ty_I {K : PySem.W.Frag} {n : Int} : ∀ v H, rI.r n v H → ∃ t, TyX K H v (.type t) ∧ kitB t "int" = some true := fun v H r => by
  cases r
  exact ⟨"int", .base (.int n), by decide +kernel⟩
theorem ty_Ib {K : PySem.W.Frag} {n : Int} : ∀ v H, rI.r n v H → ∃ t, TyX K H v (.type t) ∧ kitB t "bool" = some false := fun v H r => by
  cases r
  exact ⟨"int", .base (.int n), by decide +kernel⟩
theorem ty_S {K : PySem.W.Frag} {l : List Nat} : ∀ v H, rT.r l v H → ∃ t, TyX K H v (.type t) ∧ kitB t "str" = some true := fun v H r => by
  cases r
  exact ⟨"str", .base (.str _), by decide +kernel⟩
theorem cal_int (g : GC K mg) (D : DInt K mg) : C8.Cal P w K mg base 1 "is_integer" (sp1 rI (fun _ => True) fun _ => rB.r true) [] := by
  refine D.cal scInt (fun vs H Q E ⟨x, v, B, e, _⟩ => by rw [e]; rfl) fun f cdv A outer s H vs Q E hr ⟨n, v, B, e, i, r, _, q⟩ => ?_
  subst e
  exact wp_ret i ((g_and (g_isi g.bi.isinstance g.bi.int (by decide +kernel) (gv 0 r) ty_I (fun _ _ _ h => h)) fun _ => g_one (g_not (g_isi g.bi.isinstance g.bi.bool (by decide +kernel) (gv 0 r) ty_Ib (fun _ _ _ h => h)))).is (y := true) rfl) fun v B1 H1 f p => q v B1 H1 f p
theorem rb_many {K : PySem.W.Frag} {a : Addr} {n : Int} {B : Hp} (hs : ∀ H, SqT K H a [.int 2, .int 3]) (hn : n = 2 ∨ n = 3) : RB (rIn K false) rI n rV (.ref a) B true := fun v w B1 H1 _ ih rv rw' Q q => by
  cases rv
  cases rw'
  refine ⟨a, [.int 2, .int 3], rfl, .inr (hs H1), rfl, rfl, ?_⟩
  rcases hn with rfl | rfl
  · exact q
  · exact q
theorem cal_many (g : GC K mg) (D : DInt K mg) (D2 : DMany K mg) : C8.Cal P w K mg base 2 "is_many" (sp1 rI (fun n => n = 2 ∨ n = 3) fun _ => rB.r true) [] := by
  refine D2.cal scMany (fun vs H Q E ⟨x, v, B, e, _⟩ => by rw [e]; rfl) fun f cdv A outer s H vs Q E hr ⟨n, v, B, e, i, r, hn, q⟩ => ?_
  subst e
  obtain ⟨a, h1, h2⟩ := g.manies
  exact wp_ret i ((g_and (g_call1 (cal_int g D) hr (Nat.le_refl _) (gv 0 r) trivial) fun _ => g_one (g_cmp (τ := rV) (y := .ref a) op_in_seq (gv 0 r) (g_gc (v := .ref a) (fun _ => rfl) ⟨_, h1, rfl⟩) (rb_many h2 hn))).is (y := true) rfl) fun v B1 H1 f p => q v B1 H1 f p
theorem cal_fault (g : GC K mg) (D : DFault K mg) : C8.Cal P w K mg base 1 "shape_fault" (sp2 rN rT Sh fun _ _ => (rO rT).r none) [] := by
  refine D.cal scFault (fun vs H Q E ⟨x, y, v, u, B, e, _⟩ => by rw [e]; rfl) fun f cdv A outer s H vs Q E hr ⟨wd, sh, v, u, B, e, i, r, r2, hp, q⟩ => ?_
  subst e
  have hlen := hp.len
  refine wp_if i (t_not (t_val (g_isi g.bi.isinstance g.bi.str (by decide +kernel) (gv 1 r2) ty_S (fun _ _ _ h => h)))) (fun z => by cases z) fun _ B1 H1 f1 => ?_
  refine wp_nil ?_
  refine wp_for (fun pre σ' Bj Hj => KB.Fr B H Bj Hj ∧ ∃ a b, σ' = [some v, some u, a, b, none]) f1.i (gi_enumS g.bi.enumerate (gv 1 r2)) (pg_tup rfl (pgs_cons (pg_name (i := 2) scFault.nd rfl (.inl rfl)) (pgs_cons (pg_name (i := 3) scFault.nd rfl (.inl rfl)) pgs_nil))) (fun B2 H2 f2 => ⟨f1.trans f2, none, none, rfl⟩) (fun pre a post v' σ' Bj H2 Bb H3 hx x2 x3 ⟨F, a1, b1, e⟩ f3 r3 => ?_) (fun σ' B2 H2 x1 x2 ⟨F, a1, b1, e⟩ => ?_) rfl (hgm := gm_pair)
  · subst e
    refine g_pr f3.i r3 fun vx vy rx ry => ?_
    obtain ⟨c, hc, ec⟩ := sg_get (enum_at hx).2.1
    rw [ec] at ry
    have hs := hp.sign c (List.mem_of_getElem? hc)
    refine wp_if f3.i (t_cmp op_notIn_sign (gv 3 ry) g_str rb_notin) (fun z => ?_) fun _ B4 H4 f4 => ?_
    · rcases hs with rfl | rfl <;> exact absurd z (by decide)
    · exact wp_nil (wp_nil ⟨B4, f4.b, f4.i, (F.trans f3).trans f4, _, _, rfl⟩)
  · subst e
    refine wp_set 4 F.i g_int (fun v4 B3 H3 f3 r4 => ?_) scFault.nd
    cases r4
    have F := F.trans f3
    refine wp_for (fun pre σ' Bj Hj => KB.Fr B H Bj Hj ∧ ∃ a b, σ' = [some v, some u, a, b, some (.int (need wd (sh.take pre.length)))]) F.i (gi_enumS g.bi.enumerate (gv 1 r2)) (pg_tup rfl (pgs_cons (pg_name (i := 2) scFault.nd rfl (.inl rfl)) (pgs_cons (pg_name (i := 3) scFault.nd rfl (.inl rfl)) pgs_nil))) (fun B2 H2 f2 => ⟨F.trans f2, _, _, rfl⟩) (fun pre a post v' σ' Bj H2 Bb H3 hx y2 y3 ⟨F, a1, b1, e⟩ f3 r3 => ?_) (fun σ' B2 H2 y1 y2 ⟨F, a2, b2, e⟩ => ?_) rfl (hgm := gm_pair)
    · subst e
      refine g_pr f3.i r3 fun vx vy rx ry => ?_
      obtain ⟨en1, en2, en3⟩ := enum_at hx
      obtain ⟨c, hc, ec⟩ := sg_get en2
      rw [ec] at ry
      have hne := hp.need.2 _ en3
      refine wp_if f3.i (t_cmp (ρ := rI) op_eq (gv 4 (x := need wd (sh.take pre.length)) rfl) g_int rb_eqI) (fun z => absurd (of_decide_eq_true z) hne) fun _ B4 H4 f4 => ?_
      refine wp_nil ?_
      refine wp_augI 4 f4.i rfl (g_if (t_cmp op_eq (gv 3 ry) g_str rb_eqT) (fun z => (g_sub (gv 0 (ρ := rI) (x := (wd : Int)) r) g_int).is (y := if c = 43 then (wd : Int) - 1 else -1) ?_) (fun z => (g_neg g_int).is ?_)) (fun B5 H5 f5 => ?_) scFault.nd
      · have : [c] = [43] := of_decide_eq_true z
        rw [if_pos (List.head_eq_of_cons_eq this)]
      · have : [c] ≠ [43] := of_decide_eq_false z
        rw [if_neg fun e => this (by rw [e])]
      · refine wp_nil ⟨B5, f4.b.trans f5.b, f5.i, ((F.trans f3).trans f4).trans f5, vx, vy, ?_⟩
        rw [List.length_append, List.length_singleton, List.take_add_one, hc]
        show _ = [some v, some u, some vx, some vy, some (V.int (need wd (sh.take pre.length ++ [c])))]
        rw [need_snoc]
        rfl
    · subst e
      refine wp_ret F.i (g_if (t_cmp (ρ := rI) op_gt (gv 4 rfl) g_int rb_gt) (fun z => ?_) fun _ => g_non (ρ := rT)) fun v5 B5 H5 f5 r5 => q v5 B5 H5 (F.trans f5) r5
      have hl : ((List.range sh.length).zip (sg sh)).length = sh.length := by
        rw [List.length_zip, List.length_range, len_sg]; omega
      rw [hl, List.take_length, hp.need.1] at z
      cases z
theorem nn_T : ∀ (x : List Nat) v H, rT.r x v H → v ≠ .non := fun x v H r e => by
  rw [show v = tx x from r] at e
  cases e
theorem cal_shape (g : GC K mg) (D1 : DInt K mg) (D2 : DMany K mg) (D3 : DFault K mg) (D : DShape K mg) : C8.Cal P w K mg base 3 "is_shape" (sp2 rN rT Sh fun _ _ => rB.r true) [] := by
  refine D.cal scShape (fun vs H Q E ⟨x, y, v, u, B, e, _⟩ => by rw [e]; rfl) fun f cdv A outer s H vs Q E hr ⟨wd, sh, v, u, B, e, i, r, r2, hp, q⟩ => ?_
  subst e
  have hw : (wd : Int) = 2 ∨ (wd : Int) = 3 := by rcases hp.w23 with h | h <;> omega
  exact wp_ret i ((g_and (g_call1 (cal_many g D1 D2) hr (Nat.le_refl _) (gv 0 (ρ := rI) (x := (wd : Int)) r) hw) fun _ => g_one (g_cmp op_isN (g_call2 (cal_fault g D3) hr (by decide) (gv 0 r) (gv 1 r2) hp) (g_non (ρ := rT)) (rb_is nn_T))).is (y := true) rfl) fun v B1 H1 f p => q v B1 H1 f p
theorem cal_marks (g : GC K mg) (D : DMarks K mg) : C8.Cal P w K mg base 1 "is_marks" (sp1 rT (fun m => m.length ≤ 100 ∧ ∀ c ∈ m, c ∈ abc ∨ c = 63) fun _ => rB.r true) [] := by
  refine D.cal scMarks (fun vs H Q E ⟨x, v, B, e, _⟩ => by rw [e]; rfl) fun f cdv A outer s H vs Q E hr ⟨m, v, B, e, i, r, ⟨hz, hm⟩, q⟩ => ?_
  subst e
  refine wp_ret i ((g_and (g_isi g.bi.isinstance g.bi.str (by decide +kernel) (gv 0 r) ty_S (fun _ _ _ h => h)) fun _ => g_one (g_all rfl g.bi.all (g_lc (own := [("sign", 1)]) (j := 1) (fun _ => true) (fun l => decide (l.headD 0 ∈ abc) || decide (l = [63])) rfl scMarks.nd (blkOk_by (by change blkC ["thing", "sign"] (defScope (topS 8)) _ _ = true; decide +kernel)) (fun _ _ _ _ _ => pg_name scMarks.nd rfl (.inl rfl)) (gi_str (gv 0 r)) (by rw [len_sg]; omega) fun a va B1 ha x ra s0 H0 C cl fp => ⟨ts_nil, fun _ => ?_⟩))).is (y := true) ?_) fun v B1 H1 f p => q v B1 H1 f p
  · obtain ⟨c, hc, rfl⟩ := List.mem_map.mp ha
    exact g_or (g_cmp op_in_sign (gv 1 ra) (g_gc (P := rT.r abc) (fun _ => rfl) g.letters) rb_in) fun _ => g_one (g_cmp op_eq (gv 1 ra) (g_gc (P := rT.r [63]) (fun _ => rfl) g.untold) rb_eqT)
  · rw [Bool.true_and, List.all_eq_true]
    intro b hb
    obtain ⟨l, hl, rfl⟩ := List.mem_map.mp hb
    obtain ⟨c, hc, rfl⟩ := List.mem_map.mp (List.mem_filter.mp hl).1
    rcases hm c hc with h | h
    · simp [h]
    · simp [h]
end
end KD
end
section
set_option Elab.async false
set_option linter.all false
set_option maxRecDepth 100000
set_option maxHeartbeats 4000000
/-! KD2: parents_by, children_by. -/
namespace KD
open PySem PySem.Spec PyProof.Rows L2 KS MS KB
open SX (S)
open MF (abc Mk Sh kd need need_snoc ps1 ps1_len pst pfold pfold_snoc pfold_len par cst cfold)
section
variable {P : Program} {w : World} {K : PySem.W.Frag} {mg : Str → Option Value} {base : Heap}
abbrev DPar (K : PySem.W.Frag) (mg : Str → Option Value) : Prop := Dfn K mg "parents_by" (topS 10) ["many", "shape"]
abbrev DKid (K : PySem.W.Frag) (mg : Str → Option Value) : Prop := Dfn K mg "children_by" (topS 11) ["many", "shape"]
theorem scPar : FnScope ["many", "shape", "parents", "waiting", "place", "sign", "parent", "wanted"] ["many", "shape"] (defScope (topS 10)) := ⟨rfl, rfl, rfl, by decide +kernel, rfl, by decide +kernel, by decide +kernel⟩
theorem scKid : FnScope ["many", "shape", "children", "place", "parent", "sign"] ["many", "shape"] (defScope (topS 11)) := ⟨rfl, rfl, rfl, by decide +kernel, rfl, by decide +kernel, by decide +kernel⟩
def oV : Option Nat → V
  | none => .non
  | some n => nI n
def prs (pre : List (Nat × List Nat)) : List (Nat × Nat) := pre.map fun x => (x.1, x.2.headD 0)
theorem prs_zip (n : Nat) (sh : List Nat) : prs ((List.range n).zip (sg sh)) = (List.range n).zip sh := by
  unfold prs sg
  rw [List.zip_map_right, List.map_map]
  conv => rhs; rw [← List.map_id ((List.range n).zip sh)]
  rfl
theorem rel_oV {os : List (Option Nat)} {H : Hp} : Paired (fun x v => (rO rN).r x v H) os (os.map oV) := by
  induction os with
  | nil => exact .nil
  | cons o os ih =>
    refine .cons ?_ ih
    cases o <;> rfl
theorem p_last {α : Type} {F : α → V → Prop} : ∀ {xs : List α} {ws : List V}, Paired F xs ws → ∀ x, xs.getLast? = some x → ∃ v, ws[ws.length - 1]? = some v ∧ F x v := by
  intro xs ws h x hx
  rw [List.getLast?_eq_getElem?] at hx
  obtain ⟨v, h1, h2⟩ := p_get h hx
  rw [Paired.length h] at h1
  exact ⟨v, h1, h2⟩
theorem p_but {α : Type} {F : α → V → Prop} {xs : List α} {ws : List V} (h : Paired F xs ws) : Paired F xs.dropLast ws.dropLast := by
  rw [List.dropLast_eq_take, List.dropLast_eq_take, Paired.length h]
  exact p_take _ h
theorem cal_par (g : GC K mg) (D : DPar K mg) : C8.Cal P w K mg base 1 "parents_by" (sp2 rN rT Sh fun wd sh => (rL (rO rN)).r (par wd sh)) [] := by
  refine D.cal scPar (fun vs H Q E ⟨x, y, v, u, B, e, _⟩ => by rw [e]; rfl) fun f cdv A outer s H vs Q E hr ⟨wd, sh, v, u, B, e, i, r, r2, hp, q⟩ => ?_
  subst e
  have hlen := hp.len
  refine wp_setN 2 (fun l1 hl1 => ?_) scPar.nd
  have m1 : One B H l1 (.lst []) B (upd H l1 (.lst [])) := One.new (Fr.refl i) hl1 nf_lst
  refine wp_setN 3 (fun l2 hl2 => ?_) scPar.nd
  have m2 : One B H l2 (.lst []) B _ := One.new m1.F hl2 nf_lst
  have m1 := m1.step ((Fr.refl m1.F.i).mut (o := .lst []) hl2 (m1.F.i.fresh hl2))
  have ne : l1 ≠ l2 := fun e => by
    subst e
    rw [upd_same] at hl2
    cases hl2
  refine wp_for (fun pre σ' Bj Hj => ∃ a b c d ws, σ' = [some v, some u, some (.ref l1), some (.ref l2), a, b, c, d] ∧ One B H l1 (.lst ((pfold wd (prs pre)).1.map oV)) Bj Hj ∧ One B H l2 (.lst ws) Bj Hj ∧ Paired (fun x v => (rP rN rN).r x v Bj) (pfold wd (prs pre)).2 ws) m2.F.i (gi_enumS g.bi.enumerate (gv 1 r2)) (pg_tup rfl (pgs_cons (pg_name (i := 4) scPar.nd rfl (.inl rfl)) (pgs_cons (pg_name (i := 5) scPar.nd rfl (.inl rfl)) pgs_nil))) (fun B2 H2 f2 => ⟨none, none, none, none, [], rfl, m1.step f2, m2.step f2, .nil⟩) (fun pre a post v' σ' Bj H2 Bb H3 hx x2 x3 ⟨a1, b1, c1, d1, ws, e, m1, m2, pr⟩ f3 r3 => ?_) (fun σ' B2 H2 x1 x2 ⟨a1, b1, c1, d1, ws, e, m1, m2, pr⟩ => ?_) rfl (hgm := gm_pair)
  · subst e
    refine g_pr f3.i r3 fun vx vy rx ry => ?_
    obtain ⟨en1, en2, en3⟩ := enum_at hx
    obtain ⟨c, hc, ec⟩ := sg_get en2
    rw [ec] at ry
    have m1 := m1.step f3
    have m2 := m2.step f3
    have pr := pmap pr fun x v r => (rP rN rN).ex f3.b r
    have lp := pfold_len (w := wd) (prs pre)
    have hpre : (prs pre).length = pre.length := List.length_map _
    have stp : pfold wd (prs (pre ++ [a])) = pst wd (pfold wd (prs pre)) (a.1, c) := by
      have : prs (pre ++ [a]) = prs pre ++ [(a.1, c)] := by
        unfold prs
        rw [List.map_append, List.map_singleton, ec]
        rfl
      rw [this, pfold_snoc]
    generalize hs : pfold wd (prs pre) = st at pr m1 m2 stp lp
    refine wp_cut (fun σ2 H5 => ∃ c d B5 ws1, σ2 = [some v, some u, some (.ref l1), some (.ref l2), some vx, some vy, c, d] ∧ Ex Bb B5 ∧ One B H l1 (.lst ((ps1 st).1.map oV)) B5 H5 ∧ One B H l2 (.lst ws1) B5 H5 ∧ Paired (fun x v => (rP rN rN).r x v B5) (ps1 st).2 ws1) ?_ ?_
    · refine ws_if m2.fin.i (t_cmp (ρ := rI) op_eq (GE.n (g_lenL g.bi.len (gv 3 (ρ := rL (rP rN rN)) (x := st.2) ⟨l2, ws, rfl, upd_same, pmap pr fun x v r => (rP rN rN).ex m2.up r⟩))) g_int rb_eqI) (fun z B4 H4 f4 => ?_) (fun z B4 H4 f4 => ?_)
      · have z : st.2 = [] := by
          have z := of_decide_eq_true z
          exact List.length_eq_zero_iff.mp (by omega)
        have n1 := m1.un2 m2 ne f4
        have n2 := m2.un f4
        refine wp_app n1.F.i (gvv 2) (g_non (ρ := rN)) n1.h (by rw [List.length_map]; omega) (fun w5 B5 H5 f5 r5 h5 => ?_)
        have r5 : w5 = .non := r5
        have k1 := (n1.step f5).put (o' := .lst (st.1.map oV ++ [w5])) nf_lst
        have k2 := (n2.step f5).other (o' := .lst (st.1.map oV ++ [w5])) (n1.step f5) ne.symm
        refine wp_nil ⟨_, _, B5, ws, rfl, (f4.un m2.b).b.trans f5.b, ?_, k2, ?_⟩
        · unfold ps1
          rw [z, List.getLast?_nil]
          show One B H l1 (.lst ((st.1 ++ [none]).map oV)) B5 _
          rw [List.map_append]
          rw [r5] at k1
          subst r5
          exact k1
        · unfold ps1
          rw [z, List.getLast?_nil]
          rw [z] at pr
          exact pmap (show Paired (fun x v => (rP rN rN).r x v Bb) [] ws from pr) fun x v r => (rP rN rN).ex ((f4.un m2.b).b.trans f5.b) r
      · have z : st.2 ≠ [] := fun e => by
          have z := of_decide_eq_false z
          rw [e] at z
          exact z rfl
        obtain ⟨⟨pp, kk⟩, hlast⟩ : ∃ x, st.2.getLast? = some x := ⟨_, List.getLast?_eq_some_getLast z⟩
        have n1 := m1.un2 m2 ne f4
        have n2 := m2.un f4
        have prd := pmap pr fun x v r => (rP rN rN).ex (f4.un m2.b).b r
        obtain ⟨vt, ht1, t, vp, vk, et, ht2, rp, rk⟩ := p_last prd _ hlast
        subst et
        refine wp_popPair 6 7 n2.F.i (gvv 3) n2.h ht1 (n2.F.i.keep ht2 nf_tup) (fun B5 H5 f5 => ?_) rfl scPar.nd
        have n1 := (n1.step f5).other (o' := .lst ws.dropLast) (n2.step f5) ne
        have n2 := (n2.step f5).put (o' := .lst ws.dropLast) nf_lst
        have pr5 := pmap prd fun x v r => (rP rN rN).ex f5.b r
        refine wp_app n1.F.i (gvv 2) (gv 6 (ρ := rN) rp) n1.h (by rw [List.length_map]; omega) (fun w6 B6 H6 f6 r6 h6 => ?_)
        have r6 : w6 = nI pp := r6
        subst r6
        have k1 := (n1.step f6).put (o' := .lst (st.1.map oV ++ [nI pp])) nf_lst
        have k2 := (n2.step f6).other (o' := .lst (st.1.map oV ++ [nI pp])) (n1.step f6) ne.symm
        have pr6 := p_but (pmap pr5 fun x v r => (rP rN rN).ex f6.b r)
        have xb := ((f4.un m2.b).b.trans f5.b).trans f6.b
        have e1 : (ps1 st).1.map oV = st.1.map oV ++ [nI pp] := by
          unfold ps1
          rw [hlast]
          show (st.1 ++ [some pp]).map oV = _
          rw [List.map_append]
          rfl
        refine wp_if k1.F.i (t_cmp (ρ := rI) op_gt (gv 7 (x := (kk : Int)) rk) g_int rb_gt) (fun z1 B7 H7 f7 => ?_) (fun z1 B7 H7 f7 => ?_)
        · have z1 : 1 < kk := by
            have := of_decide_eq_true z1
            omega
          have j1 := k1.step f7
          have j2 := k2.step f7
          refine wp_app (P := (rP rN rN).r (pp, kk - 1)) j2.F.i (gvv 3) ?he j2.h (by rw [List.length_dropLast, ← Paired.length pr]; omega) (fun w8 B8 H8 f8 r8 h8 => ?_)
          case he => exact g_pair (gv 6 rp) (ge_nat (g_sub (gv 7 (ρ := rI) (x := (kk : Int)) rk) g_int) (by omega))
          have q2 := (j2.step f8).put (o' := .lst (ws.dropLast ++ [w8])) nf_lst
          have q1 := (j1.step f8).other (o' := .lst (ws.dropLast ++ [w8])) (j2.step f8) ne
          refine wp_nil (wp_nil ⟨_, _, B8, ws.dropLast ++ [w8], rfl, (xb.trans f7.b).trans f8.b, by rw [e1]; exact q1, q2, ?_⟩)
          unfold ps1
          rw [hlast]
          show Paired _ (if 1 < kk then st.2.dropLast ++ [(pp, kk - 1)] else st.2.dropLast) _
          rw [if_pos z1]
          exact p_app (pmap pr6 fun x v r => (rP rN rN).ex (f7.b.trans f8.b) r) (.cons r8 .nil)
        · have z1 : ¬ 1 < kk := by
            have := of_decide_eq_false z1
            omega
          refine wp_nil (wp_nil ⟨_, _, B7, ws.dropLast, rfl, xb.trans f7.b, by rw [e1]; exact k1.step f7, k2.step f7, ?_⟩)
          unfold ps1
          rw [hlast]
          show Paired _ (if 1 < kk then st.2.dropLast ++ [(pp, kk - 1)] else st.2.dropLast) _
          rw [if_neg z1]
          exact pmap pr6 fun x v r => (rP rN rN).ex f7.b r
    · rintro σ2 H5 ⟨c2, d2, B5, ws1, rfl, x5, m1, m2, pr⟩
      have len1 := ps1_len st
      refine wp_if m2.F.i (t_cmp op_eq (gv 5 ry) g_str rb_eqT) (fun z B6 H6 f6 => ?_) (fun z B6 H6 f6 => ?_)
      · have m1 := m1.step f6
        have m2 := m2.step f6
        refine wp_app (P := (rP rN rN).r (a.1, wd)) m2.F.i (gvv 3) ?he m2.h (by rw [← Paired.length pr]; omega) (fun w8 B8 H8 f8 r8 h8 => ?_)
        case he => exact g_pair (gv 4 rx) (gv 0 r)
        have q2 := (m2.step f8).put (o' := .lst (ws1 ++ [w8])) nf_lst
        have q1 := (m1.step f8).other (o' := .lst (ws1 ++ [w8])) (m2.step f8) ne
        have hc : c = 43 := List.head_eq_of_cons_eq (of_decide_eq_true z : [c] = [43])
        refine wp_nil (wp_nil ⟨B8, (x5.trans f6.b).trans f8.b, q2.F.i, _, _, _, _, ws1 ++ [w8], rfl, ?_, q2, ?_⟩)
        · rw [stp]
          unfold pst
          rw [if_pos hc]
          exact q1
        · rw [stp]
          unfold pst
          rw [if_pos hc]
          exact p_app (pmap pr fun x v r => (rP rN rN).ex (f6.b.trans f8.b) r) (.cons r8 .nil)
      · have hc : ¬ c = 43 := fun e => by
          subst e
          exact absurd z (by decide)
        refine wp_nil (wp_nil ⟨B6, x5.trans f6.b, (m1.step f6).F.i, _, _, _, _, ws1, rfl, ?_, m2.step f6, ?_⟩)
        · rw [stp]
          unfold pst
          rw [if_neg hc]
          exact m1.step f6
        · rw [stp]
          unfold pst
          rw [if_neg hc]
          exact pmap pr fun x v r => (rP rN rN).ex f6.b r
  · subst e
    rw [prs_zip] at m1
    refine wp_ret m1.fin.i (gv 2 (ρ := rL (rO rN)) (x := par wd sh) ⟨l1, _, rfl, upd_same, rel_oV⟩) fun v5 B5 H5 f5 r5 => q v5 B5 H5 (m1.fin.trans f5) r5
end
end KD
end
section
set_option Elab.async false
set_option linter.all false
set_option maxRecDepth 100000
set_option maxHeartbeats 4000000
/-! KD3: children_by. -/
namespace KD
open PySem PySem.Spec PyProof.Rows L2 KS MS KB
open SX (S)
open MF (abc Mk Sh kd need need_snoc par cst cfold)
theorem p_mk {α : Type} {F : α → V → Prop} : ∀ {xs : List α} {vs : List V}, xs.length = vs.length → (∀ (i : Nat) x v, xs[i]? = some x → vs[i]? = some v → F x v) → Paired F xs vs
  | [], [], _, _ => .nil
  | x :: xs, v :: vs, hl, h => .cons (h 0 x v rfl rfl) (p_mk (by simpa using hl) fun i x v h1 h2 => h (i + 1) x v (by simpa using h1) (by simpa using h2))
  | [], _ :: _, hl, _ => by simp at hl
  | _ :: _, [], hl, _ => by simp at hl
theorem cfold_snoc {n : Nat} {xs : List (Nat × Option Nat)} {x : Nat × Option Nat} : cfold n (xs ++ [x]) = cst (cfold n xs) x := by
  unfold cfold
  rw [List.foldl_append]
  rfl
theorem cst_len (s : List (List Nat)) (x : Nat × Option Nat) : (cst s x).length = s.length := by
  unfold cst
  split
  · rfl
  · rw [List.length_set]
theorem cfold_len {n : Nat} (xs : List (Nat × Option Nat)) : (cfold n xs).length = n := by
  suffices h : ∀ (xs : List (Nat × Option Nat)) (s : List (List Nat)), (xs.foldl cst s).length = s.length by
    unfold cfold
    rw [h, List.length_replicate]
  intro xs
  induction xs with
  | nil => intro s; rfl
  | cons x xs ih => intro s; rw [List.foldl_cons, ih, cst_len]
theorem getD_set {s : List (List Nat)} {i j : Nat} {x : List Nat} (h : j < s.length) : (s.set j x).getD i [] = if i = j then x else s.getD i [] := by
  rw [List.getD_eq_getElem?_getD, List.getD_eq_getElem?_getD, List.getElem?_set]
  by_cases e : j = i
  · subst e
    rw [if_pos rfl, if_pos h, if_pos rfl]
    rfl
  · rw [if_neg e, if_neg fun z => e z.symm]
theorem cst_getD (s : List (List Nat)) (x : Nat × Option Nat) (i : Nat) (h : ∀ p, x.2 = some p → p < s.length) : (cst s x).getD i [] = if x.2 = some i then s.getD i [] ++ [x.1] else s.getD i [] := by
  unfold cst
  split
  · rename_i e
    rw [e, if_neg (by simp)]
  · rename_i p e
    rw [getD_set (h p e), e]
    by_cases z : i = p
    · subst z
      rw [if_pos rfl, if_pos rfl]
    · rw [if_neg z, if_neg fun q => z (Option.some.inj q).symm]
theorem cfold_small {n : Nat} : ∀ (k : Nat) (xs : List (Nat × Option Nat)), xs.length = k → (∀ x ∈ xs, ∀ p, x.2 = some p → p < n) → ∀ i, ((cfold n xs).getD i []).length ≤ k
  | 0, xs, hk, _, i => by
    rw [List.length_eq_zero_iff.mp hk]
    unfold cfold
    rw [List.getD_eq_getElem?_getD, List.foldl_nil, List.getElem?_replicate]
    split <;> simp
  | k + 1, xs, hk, h, i => by
    have hne : xs ≠ [] := fun e => by rw [e] at hk; cases hk
    have e := List.dropLast_concat_getLast hne
    have hl : xs.dropLast.length = k := by rw [List.length_dropLast]; omega
    have ih := cfold_small k xs.dropLast hl (fun x hx => h x (List.dropLast_subset _ hx)) i
    rw [← e, cfold_snoc, cst_getD _ _ _ (fun p hp => by rw [cfold_len]; exact h _ (List.getLast_mem hne) p hp)]
    split
    · rw [List.length_append, List.length_singleton]; omega
    · omega
section
variable {P : Program} {w : World} {K : PySem.W.Frag} {mg : Str → Option Value} {base : Heap}
theorem nn_N : ∀ (x : Nat) v H, rN.r x v H → v ≠ .non := fun x v H r e => by
  rw [show v = nI x from r] at e
  cases e
theorem cal_kid (g : GC K mg) (D1 : DPar K mg) (D : DKid K mg) : C8.Cal P w K mg base 2 "children_by" (sp2 rN rT Sh fun wd sh => (rL (rL rN)).r (kd wd sh)) [] := by
  refine D.cal scKid (fun vs H Q E ⟨x, y, v, u, B, e, _⟩ => by rw [e]; rfl) fun f cdv A outer s H vs Q E hr ⟨wd, sh, v, u, B, e, i, r, r2, hp, q⟩ => ?_
  subst e
  have hlen := hp.len
  obtain ⟨pl1, pl2, pl3⟩ := hp.par
  refine wp_setLc 2 (own := [("sign", 5)]) (A := fun v2 H2 => ∃ (p : Addr) (ps : List Addr) (B2 : Hp), v2 = .ref p ∧ KB.Fr B H B2 H2 ∧ H p = none ∧ B2 p = none ∧ H2 p = some (.lst (ps.map V.ref)) ∧ ps.length = (sg sh).length ∧ ps.Nodup ∧ ∀ a ∈ ps, a ≠ p ∧ H a = none ∧ B2 a = none ∧ H2 a = some (.lst [])) (fun Q' q' => tlc_fresh (o0 := .lst []) nf_lst (gi_str (gv 1 r2)) (by rw [len_sg]; omega) gm_name (fun a va B1 H1 ha x1 x2 ra => ⟨rfl, rfl⟩) (fun s0 H0 C cl fp σ2 H1 Q2 q2 => g_newL H1 Q2 q2) B H (Ex.refl B) i Q' fun p ps B2 H2 f2 h1 h2 h3 h4 h5 h6 => q' _ _ ⟨p, ps, B2, rfl, f2, h1, h2, h3, h4, h5, h6⟩) (fun v2 H2 hA => ?_) rfl scKid.nd (by apply blkOk_by; change blkC ["many", "shape", "children", "place", "parent", "sign"] (defScope (topS 11)) _ _ = true; decide +kernel) (fun _ _ _ _ _ => pg_name (i := 5) scKid.nd rfl (.inl rfl)) (by rfl)
  obtain ⟨p, ps, B2, rfl, F, hp0, bp, hp2, hlp, hnd, hps⟩ := hA
  rw [len_sg] at hlp
  have Fa := F.add hp0 bp hp2
  refine wp_for (ρ := rP rN (rO rN)) (xs := (List.range (par wd sh).length).zip (par wd sh)) (fun pre σ' Bj Hj => ∃ a b c, σ' = [some v, some u, some (.ref p), a, b, c] ∧ KB.Fr B H Bj Hj ∧ Bj p = some (.lst (ps.map V.ref)) ∧ ∀ i a, ps[i]? = some a → Bj a = none ∧ Hj a = some (.lst (((cfold sh.length pre).getD i []).map nI))) Fa.i (gi_enumL g.bi.enumerate (g_call2 (cal_par g D1) hr (Nat.le_refl _) (gv 0 r) (gv 1 r2) hp)) (pg_tup rfl (pgs_cons (pg_name (i := 3) scKid.nd rfl (.inl rfl)) (pgs_cons (pg_name (i := 4) scKid.nd rfl (.inl rfl)) pgs_nil))) (fun B3 H3 f3 => ⟨_, _, _, rfl, Fa.trans f3, f3.b.lst upd_same, fun j a hj => ?_⟩) (fun pre a post v' σ' Bj H3 Bb H4 hx x2 x3 ⟨a1, b1, c1, e, F, hb, hc⟩ f3 r3 => ?_) (fun σ' B3 H3 x1 x2 ⟨a1, b1, c1, e, F, hb, hc⟩ => ?_) rfl (hgm := gm_pair)
  · obtain ⟨z1, z2, z3, z4⟩ := hps a (List.mem_of_getElem? hj)
    refine ⟨f3.out (by rw [upd_ne z1]; exact z3) z4, ?_⟩
    rw [f3.h.lst z4]
    unfold cfold
    rw [List.foldl_nil, List.getD_eq_getElem?_getD, List.getElem?_replicate]
    split <;> rfl
  · subst e
    rw [pl1] at hx
    refine g_pr f3.i r3 fun vx vy rx ry => ?_
    obtain ⟨en1, en2, en3⟩ := enum_at hx
    have hall : ∀ x ∈ (List.range sh.length).zip (par wd sh), ∀ p, x.2 = some p → p < sh.length := fun x hx p e => pl2 p (by rw [← e]; exact (List.of_mem_zip hx).2)
    have hpre : ∀ x ∈ pre, ∀ p, x.2 = some p → p < sh.length := fun x hx' => hall x (by rw [hx]; exact List.mem_append_left _ hx')
    have ha := hall a (by rw [hx]; exact List.mem_append_right _ (List.mem_cons_self ..))
    have F3 := F.trans f3
    have hb3 := f3.b.lst hb
    have hc3 : ∀ i a, ps[i]? = some a → Bb a = none ∧ H4 a = some (.lst (((cfold sh.length pre).getD i []).map nI)) := fun i a h => ⟨f3.out (hc i a h).1 (hc i a h).2, f3.h.lst (hc i a h).2⟩
    refine wp_if f3.i (t_cmp op_notN (gv 4 (ρ := rO rN) ry) (g_non (ρ := rN)) (rb_isnot nn_N)) (fun z B5 H5 f5 => ?_) (fun z B5 H5 f5 => ?_)
    · obtain ⟨pp, hpp⟩ : ∃ pp, a.2 = some pp := by
        cases h : a.2 with
        | none => rw [h] at z; cases z
        | some pp => exact ⟨pp, rfl⟩
      have hlt := ha pp hpp
      have ry' : rN.r pp vy Bb := by
        rw [hpp] at ry
        exact ry
      obtain ⟨qa, hqa⟩ : ∃ qa, ps[pp]? = some qa := ⟨ps[pp]'(by omega), List.getElem?_eq_getElem _⟩
      have hb5 := f5.b.lst hb3
      have hc5 : ∀ i a, ps[i]? = some a → B5 a = none ∧ H5 a = some (.lst (((cfold sh.length pre).getD i []).map nI)) := fun i a h => ⟨f5.out (hc3 i a h).1 (hc3 i a h).2, f5.h.lst (hc3 i a h).2⟩
      have hsm := cfold_small (n := sh.length) pre.length pre rfl hpre pp
      refine wp_app (p := qa) f5.i (g_ixL (ρ := rV) (xs := ps.map V.ref) (i := pp) (gv 2 ⟨p, _, rfl, hb5, p_mk rfl fun i x v h1 h2 => by rw [h1] at h2; cases h2; rfl⟩) (gv 4 (ρ := rI) (x := (pp : Int)) ry') (by rw [List.getElem?_map, hqa]; rfl)) (gv 3 (ρ := rN) rx) (hc5 pp qa hqa).2 (by rw [List.length_map]; omega) (fun w6 B6 H6 f6 r6 h6 => ?_)
      have r6 : w6 = nI a.1 := r6
      subst r6
      have b6 := f6.out (hc5 pp qa hqa).1 (hc5 pp qa hqa).2
      obtain ⟨_, zH⟩ := hc pp qa hqa
      have hqH : H qa = none := by
        cases zz : H qa with
        | none => rfl
        | some o => exact absurd (hps qa (List.mem_of_getElem? hqa)).2.1 (by rw [zz]; simp)
      refine wp_nil (wp_nil ⟨B6, f5.b.trans f6.b, ((F3.trans f5).trans f6).mut hqH b6 |>.i, _, _, _, rfl, ((F3.trans f5).trans f6).mut hqH b6, f6.b.lst hb5, fun j b hj => ?_⟩)
      have h1 := f6.out (hc5 j b hj).1 (hc5 j b hj).2
      have h2 := f6.h.lst (hc5 j b hj).2
      refine ⟨h1, ?_⟩
      rw [cfold_snoc, cst_getD _ _ _ (fun p e => by rw [cfold_len]; exact ha p e), hpp]
      by_cases e : j = pp
      · subst e
        rw [hqa] at hj
        cases hj
        rw [upd_same, if_pos rfl, List.map_append]
        rfl
      · have ne : b ≠ qa := fun z => by
          subst z
          have l1 := (List.getElem?_eq_some_iff.mp hj).1
          have l2 := (List.getElem?_eq_some_iff.mp hqa).1
          exact e ((List.getElem?_inj l1 hnd).mp (hj.trans hqa.symm))
        rw [upd_ne ne, if_neg fun z => e (Option.some.inj z).symm]
        exact h2
    · have hn : a.2 = none := by
        cases h : a.2 with
        | none => rfl
        | some pp => rw [h] at z; cases z
      refine wp_nil (wp_nil ⟨B5, f5.b, f5.i, _, _, _, rfl, F3.trans f5, f5.b.lst hb3, fun j b hj => ⟨f5.out (hc3 j b hj).1 (hc3 j b hj).2, ?_⟩⟩)
      rw [cfold_snoc, cst_getD _ _ _ (fun p e => by rw [cfold_len]; exact ha p e), hn, if_neg (by simp)]
      exact f5.h.lst (hc3 j b hj).2
  · subst e
    rw [pl1, pl3] at hc
    obtain ⟨F4, x4⟩ := F.adds (· ∈ ps) fun a ha => by
      obtain ⟨j, hj, e⟩ := List.getElem_of_mem ha
      exact ⟨(hps a ha).2.1, (hc j a (by rw [List.getElem?_eq_getElem hj, e])).1⟩
    refine wp_ret F4.i (gv 2 (ρ := rL (rL rN)) (x := kd wd sh) ⟨p, ps.map V.ref, rfl, x4.lst hb, p_mk (by rw [List.length_map, hlp, hp.klen]) fun j x v h1 h2 => ?_⟩) fun v5 B5 H5 f5 r5 => q v5 B5 H5 (F4.trans f5) r5
    rw [List.getElem?_map] at h2
    cases hj : ps[j]? with
    | none => rw [hj] at h2; cases h2
    | some b =>
      rw [hj] at h2
      cases h2
      refine lNn.mpr ⟨b, rfl, ?_⟩
      rw [adds_at (List.mem_of_getElem? hj), (hc j b hj).2, List.getD_eq_getElem?_getD, h1]
      rfl
end
end KD
end
section
set_option Elab.async false
set_option linter.all false
set_option maxRecDepth 100000
set_option maxHeartbeats 4000000
/-! KD4: want, want_marks, labels_in. -/
namespace KD
open PySem PySem.Spec PyProof.Rows L2 KS MS KB
open SX (S)
open MF (abc Mk Sh kd labs)
/-- a table -/
abbrev rG : R (Nat × List (List Nat)) := rP rN (rTu rT)
/-- want: its last parameter is not given -/
structure DWant (K : PySem.W.Frag) (mg : Str → Option Value) : Prop where
  ex : ∃ (f : Addr) (fd : FuncData) (ds : List Value), FunD K "want" "want" (defArgs (topS 17)) (defBody (topS 17)) (defScope (topS 17)) [.int (-1)] [] f fd ∧ mg "want" = some (.ref f) ∧ Binds K fd ["is_right", "word", "at"] ds ∧ Vals [.int (-1)] ds
theorem scWant : FnScope ["is_right", "word", "at"] ["is_right", "word", "at"] (defScope (topS 17)) := ⟨rfl, rfl, rfl, by decide +kernel, rfl, by decide +kernel, by decide +kernel⟩
theorem scWM : FnScope ["table", "shape", "marks"] ["table", "shape", "marks"] (defScope (topS 28)) := ⟨rfl, rfl, rfl, by decide +kernel, rfl, by decide +kernel, by decide +kernel⟩
theorem scLab : FnScope ["table"] ["table"] (defScope (topS 21)) := ⟨rfl, rfl, rfl, by decide +kernel, rfl, by decide +kernel, by decide +kernel⟩
def spWant : Sp := fun vs H Q _ => ∃ word B, vs = [.bl true, word, .int (-1)] ∧ Ex B H ∧ Gv (fun v _ => v = .non) B H Q
section
variable {P : Program} {w : World} {K : PySem.W.Frag} {mg : Str → Option Value} {base : Heap}
abbrev DWM (K : PySem.W.Frag) (mg : Str → Option Value) : Prop := Dfn K mg "want_marks" (topS 28) ["table", "shape", "marks"]
abbrev DLab (K : PySem.W.Frag) (mg : Str → Option Value) : Prop := Dfn K mg "labels_in" (topS 21) ["table"]
theorem cal_want (D : DWant K mg) : C8.Cal P w K mg base 1 "want" spWant [.int (-1)] := by
  obtain ⟨f, fd, ds, F, hm, b, d⟩ := D.ex
  refine ⟨f, fd, _, ds, F.ok scWant (fun vs H Q E ⟨x, B, e, _⟩ => by rw [e]; rfl) (fun cdv A outer s H vs Q E hr ⟨word, B, e, i, q⟩ => ?_), hm, F.kp, b, d⟩
  refine ⟨WP (DX P w K mg base ["is_right", "word", "at"] "want" (topS 17) f cdv A outer s H E) (defBody (topS 17)), (pssW (X := DX P w K mg base ["is_right", "word", "at"] "want" (topS 17) f cdv A outer s H E)).nox, ?_⟩
  subst e
  refine wp_if i (t_not (t_val (gv 0 (ρ := rB) (x := true) rfl))) (fun z => by cases z) fun _ B1 H1 f1 => ?_
  exact wp_nil (wp_nil (q _ B1 H1 f1 rfl))
section
variable {X : Cx} {e a b c : Expr} {es : List Expr} {σ : L2.St} {B B' : Hp} {pos px p1 p2 p3 apos cpos : Pos}
theorem g_want {j : Nat} (D : DWant X.K X.mg) (hr : Room j X.A) (hk : 1 ≤ j) {l : List Nat} (ha : GE X a σ B (rB.r true)) (hb : GE X b σ B (rT.r l)) (hg : Gl X "want" := by rfl) (he : starEach [a, b] X.env = (false, eval a X.env) :: starEach [b] X.env := by rfl) (he2 : starEach [b] X.env = (false, eval b X.env) :: starEach [] X.env := by rfl) (hpl : (backTo pos (starEach [b] X.env)).any (·.1) = false := by rfl) :
    GE X (.Call (.Name "want" px) [a, b] [] pos) σ B (fun v _ => v = .non) :=
  g_call (cal_want D) hr hk (ga2 ha hb he he2) (fun vs B1 H1 _ i ⟨v, w, e1, r1, r2⟩ Q q => ⟨w, B1, by rw [e1, show v = .bl true from r1]; rfl, i, q⟩) hg (by decide) he hpl
end
theorem cal_wm (g : GC K mg) (D1 : DInt K mg) (D2 : DMany K mg) (D3 : DFault K mg) (D4 : DShape K mg) (D5 : DMarks K mg) (D6 : DWant K mg) (D : DWM K mg) : C8.Cal P w K mg base 4 "want_marks" (sp3 rG rT rT (fun gr sh m => Sh gr.1 sh ∧ Mk sh.length m) fun _ _ _ v _ => v = .non) [] := by
  refine D.cal scWM (fun vs H Q E ⟨x, y, z, v, u, t, B, e, _⟩ => by rw [e]; rfl) fun f cdv A outer s H vs Q E hr ⟨⟨wd, rows⟩, sh, m, v, u, t, B, e, i, r, r2, r3, ⟨hp, hm⟩, q⟩ => ?_
  subst e
  have hlen := hp.len
  have hml := hm.1
  refine wp_expr i (g_want D6 hr (by decide) (g_call2 (cal_shape g D1 D2 D3 D4) hr (Nat.le_refl _) (g_fst (gv 0 r) g_int) (gv 1 r2) hp) g_str) fun v1 B1 H1 f1 _ => ?_
  refine wp_expr f1.i (g_want D6 hr (by decide) (ge_is (x := true && decide ((m.length : Int) = (sh.length : Int))) (g_and (g_call1 (cal_marks g D5) hr (by decide) (gv 2 (ρ := rT) r3) ⟨by omega, hm.2⟩) fun _ => g_one (g_cmp (ρ := rI) (τ := rI) op_eq (GE.n (g_lenS g.bi.len (gv 2 (ρ := rT) r3) (by omega))) (GE.n (g_lenS g.bi.len (gv 1 (ρ := rT) r2) (by omega))) rb_eqI)) ?_) g_str) fun v2 B2 H2 f2 _ => ?_
  · rw [hml]
    simp
  · exact wp_nil (q _ B2 H2 (f1.trans f2) rfl)
theorem flat_len {n m : Nat} : ∀ {ls : List (List Nat)}, ls.length ≤ n → (∀ l ∈ ls, l.length ≤ m) → ls.flatten.length ≤ n * m
  | [], _, _ => Nat.zero_le _
  | l :: ls, h, h2 => by
    obtain ⟨k, rfl⟩ : ∃ k, n = k + 1 := ⟨n - 1, by simp at h; omega⟩
    rw [List.flatten_cons, List.length_append, Nat.succ_mul]
    have h3 := flat_len (n := k) (ls := ls) (by simpa using h) fun l hl => h2 l (List.mem_cons_of_mem _ hl)
    have h4 := h2 l (List.mem_cons_self ..)
    omega
theorem sum_flat (ls : List (List Nat)) : (ls.map (·.length)).sum = ls.flatten.length := by
  rw [List.length_flatten]
theorem cal_lab (g : GC K mg) (D1 : DLot K mg) (D : DLab K mg) : C8.Cal P w K mg base 2 "labels_in" (sp1 rG (fun gr => gr.2.length ≤ 11 ∧ ∀ l ∈ gr.2, l.length ≤ 4) fun gr => rT.r (labs gr.2)) [] := by
  refine D.cal scLab (fun vs H Q E ⟨x, v, B, e, _⟩ => by rw [e]; rfl) fun f cdv A outer s H vs Q E hr ⟨⟨wd, rows⟩, v, B, e, i, r, ⟨h1, h2⟩, q⟩ => ?_
  subst e
  have hl : rows.flatten.length ≤ 44 := flat_len h1 h2
  exact wp_ret i (g_call1 (cal_lotS g D1) hr (Nat.le_refl _) (g_joinTu (g_snd (gv 0 r) g_int) (by rw [sum_flat]; omega)) (by omega)) fun v B1 H1 f p => q v B1 H1 f p
end
end KD
end
section
set_option Elab.async false
set_option linter.all false
set_option maxRecDepth 100000
set_option maxHeartbeats 4000000
/-! KD5: orders_of. -/
namespace KD
open PySem PySem.Spec PyProof.Rows L2 KS MS KB
open SX (S)
open MF (abc Mk Sh kd ostep ostn ordsOf mem_ostn ostn_len usort_le)
theorem scOf : FnScope ["labels", "found", "lap", "one", "late"] ["labels"] (defScope (topS 22)) := ⟨rfl, rfl, rfl, by decide +kernel, rfl, by decide +kernel, by decide +kernel⟩
theorem ostep_eq (l : List Nat) (xs : List (List Nat)) : (xs.flatMap fun a => ((sg (usort ltN l)).filter fun t => decide (a.count (t.headD 0) < l.count (t.headD 0))).map fun t => a ++ t) = ostep l xs := by
  unfold ostep
  congr 1
  funext a
  unfold sg
  rw [List.filter_map, List.map_map]
  rfl
section
variable {P : Program} {w : World} {K : PySem.W.Frag} {mg : Str → Option Value} {base : Heap}
abbrev DOf (K : PySem.W.Frag) (mg : Str → Option Value) : Prop := Dfn K mg "orders_of" (topS 22) ["labels"]
theorem cal_of (g : GC K mg) (D1 : DLot K mg) (D : DOf K mg) : C8.Cal P w K mg base 2 "orders_of" (sp1 rT (fun l => l.length ≤ 3) fun l => (rL rT).r (ordsOf l)) [] := by
  refine D.cal scOf (fun vs H Q E ⟨x, v, B, e, _⟩ => by rw [e]; rfl) fun f cdv A outer s H vs Q E hr ⟨l, v, B, e, i, r, hl, q⟩ => ?_
  subst e
  refine wp_set 1 i (g_lst1 (ρ := rT) (x := []) g_str) (fun v1 B1 H1 f1 r1 => ?_) scOf.nd
  refine wp_for (ρ := rT) (xs := sg l) (fun pre σ' Bj Hj => ∃ a b, σ' = [some v, some b, a, none, none] ∧ KB.Fr B H Bj Hj ∧ (rL rT).r (ostn l pre.length) b Bj) f1.i (gi_str (gv 0 r)) (pg_name (i := 2) scOf.nd rfl (.inl rfl)) (fun B2 H2 f2 => ⟨_, _, rfl, f1.trans f2, (rL rT).ex f2.b r1⟩) (fun pre a post v' σ' Bj H2 Bb H3 hx x2 x3 ⟨a1, b1, e, F, rb⟩ f3 r3 => ?_) (fun σ' B2 H2 x1 x2 ⟨a1, b1, e, F, rb⟩ => ?_) rfl (hgm := gm_name)
  · subst e
    have hpre : pre.length < l.length := by
      have := congrArg List.length hx
      rw [len_sg, List.length_append, List.length_cons] at this
      omega
    have hp3 : (ostn l pre.length).length ≤ 27 := by
      refine Nat.le_trans (ostn_len _) (Nat.le_trans (Nat.pow_le_pow_left hl _) ?_)
      have : pre.length ≤ 3 := by omega
      exact Nat.le_trans (Nat.pow_le_pow_right (by decide) this) (by decide)
    have ul := usort_le (l := l)
    have hol : ∀ o ∈ ostn l pre.length, o.length ≤ 3 := fun o ho => by
      have := ((mem_ostn _ o).mp ho).1
      omega
    refine wp_setLc2 (own := [("one", 3), ("late", 4)]) (vs1 := [4]) (j := 3) (j1 := 4) (ρ := rT) (τ := rT) (υ := rT) 1 (fun a t => a ++ t) (fun a t => decide (a.count (t.headD 0) < l.count (t.headD 0))) (m := 3) (ys := fun _ => sg (usort ltN l)) f3.i (gi_list (gv 1 ((rL rT).ex f3.b rb))) (fun a _ => by rw [len_sg]; omega) (by omega) (fun a va B1 ha x1 ra s0 H0 C cl fp => ?_) (fun a va b vb B1 ha hb x1 ra rb' s0 H0 C cl fp => ?_) (fun v4 B4 H4 f4 r4 => ?_) rfl scOf.nd (by apply blkOk_by; change blkC ["labels", "found", "lap", "one", "late"] (defScope (topS 22)) _ _ = true; decide +kernel) (fun _ _ _ _ _ => pg_name (i := 3) scOf.nd rfl (.inl rfl)) (fun _ _ _ _ _ => pg_name (i := 4) scOf.nd rfl (.inl rfl)) (by decide) (by rfl)
    · exact gi_str (g_call1 (cal_lotS g D1) hr (Nat.le_refl _) (gv 0 (ρ := rT) r) (by omega))
    · obtain ⟨c, hc, rfl⟩ := List.mem_map.mp hb
      have ho := hol a ha
      refine ⟨ts_one ?_, fun _ => g_cat (gv 3 ra) (gv 4 rb') ?_⟩
      · refine (t_cmp (ρ := rI) (τ := rI) (x := ((a.count c : Nat) : Int)) (y := ((l.count c : Nat) : Int)) op_lt (GE.n (g_count (gv 3 ra) (gv 4 rb'))) (GE.n (g_count (gv 0 (ρ := rT) r) (gv 4 rb'))) rb_lt).is ?_
        show decide _ = decide _
        simp
      · show a.length + 1 ≤ _
        omega
    · have r4' : (rL rT).r (ostn l (pre ++ [a]).length) v4 B4 := by
        rw [ostep_eq] at r4
        rw [List.length_append]
        exact r4
      exact wp_nil ⟨B4, f4.b, f4.i, _, _, rfl, (F.trans f3).trans f4, r4'⟩
  · subst e
    rw [len_sg] at rb
    exact wp_ret F.i (gv 1 rb) fun v5 B5 H5 f5 r5 => q v5 B5 H5 (F.trans f5) r5
end
end KD
end
section
set_option Elab.async false
set_option linter.all false
set_option maxRecDepth 100000
set_option maxHeartbeats 4000000
/-! KD6: orders_by. -/
namespace KD
open PySem PySem.Spec PyProof.Rows L2 KS MS KB
open SX (S)
open MF (abc Mk Sh kd ordsOf ostn_len Ob ob1 obst obf obf_snoc lk obys obf_keys)
theorem scBy : FnScope ["rows", "found", "row", "top"] ["rows"] (defScope (topS 23)) := ⟨rfl, rfl, rfl, by decide +kernel, rfl, by decide +kernel, by decide +kernel⟩
theorem ordsOf_len {l : List Nat} (h : l.length ≤ 3) : (ordsOf l).length ≤ 27 := by
  refine Nat.le_trans (ostn_len _) (Nat.le_trans (Nat.pow_le_pow_left h _) ?_)
  exact Nat.le_trans (Nat.pow_le_pow_right (by decide) h) (by decide)
/-- the dict as it stands: the keys, the addresses of the lists -/
def kvO (s : Ob) (as : List Addr) : List (Key × V) := List.zipWith (fun p a => (kL p.1, V.ref a)) s as
theorem kvO_keys : ∀ {s : Ob} {as : List Addr}, ∀ p ∈ kvO s as, ∃ c ∈ s.map (·.1), p.1 = kL c
  | [], as, p, hp => by simp [kvO] at hp
  | q :: s, [], p, hp => by simp [kvO] at hp
  | q :: s, a :: as, p, hp => by
    rcases List.mem_cons.mp (show p ∈ (kL q.1, V.ref a) :: kvO s as from hp) with rfl | hp
    · exact ⟨q.1, List.mem_cons_self .., rfl⟩
    · obtain ⟨c, h1, h2⟩ := kvO_keys p hp
      exact ⟨c, List.mem_cons_of_mem _ h1, h2⟩
theorem kvO_len (s : Ob) (as : List Addr) : (kvO s as).length ≤ s.length := by
  unfold kvO
  rw [List.length_zipWith]
  omega
theorem kvO_look (c : Nat) : ∀ {s : Ob} {as : List Addr}, as.length = s.length → (c ∉ s.map (·.1) ∧ valV (kvO s as) (kL c) = none) ∨ ∃ (i : Nat) (p : Nat × List (List Nat)) (a : Addr), s[i]? = some p ∧ as[i]? = some a ∧ p.1 = c ∧ valV (kvO s as) (kL c) = some (.ref a)
  | [], [], _ => .inl ⟨by simp, rfl⟩
  | [], _ :: _, h => by simp at h
  | _ :: _, [], h => by simp at h
  | q :: s, a :: as, h => by
    by_cases e : q.1 = c
    · exact .inr ⟨0, q, a, rfl, rfl, e, valV_pos (show kL q.1 = kL c by rw [e])⟩
    · rcases kvO_look c (s := s) (as := as) (by simpa using h) with ⟨h1, h2⟩ | ⟨i, p, b, h1, h2, h3, h4⟩
      · refine .inl ⟨fun z => ?_, ?_⟩
        · rcases List.mem_cons.mp z with z | z
          · exact e z.symm
          · exact h1 z
        · rw [show kvO (q :: s) (a :: as) = (kL q.1, V.ref a) :: kvO s as from rfl, valV_neg (fun z => e (kL_inj z))]
          exact h2
      · refine .inr ⟨i + 1, p, b, by simpa using h1, by simpa using h2, h3, ?_⟩
        rw [show kvO (q :: s) (a :: as) = (kL q.1, V.ref a) :: kvO s as from rfl, valV_neg (fun z => e (kL_inj z))]
        exact h4
theorem kvO_map {f : Nat × List (List Nat) → Nat × List (List Nat)} (h : ∀ p, (f p).1 = p.1) : ∀ {s : Ob} {as : List Addr}, kvO (s.map f) as = kvO s as
  | [], as => rfl
  | q :: s, [] => rfl
  | q :: s, a :: as => by
    show (kL (f q).1, V.ref a) :: kvO (s.map f) as = (kL q.1, V.ref a) :: kvO s as
    rw [h, kvO_map h]
theorem kvO_snoc {c : Nat} {os : List (List Nat)} {b : Addr} : ∀ {s : Ob} {as : List Addr}, as.length = s.length → kvO (s ++ [(c, os)]) (as ++ [b]) = kvO s as ++ [(kL c, V.ref b)]
  | [], [], _ => rfl
  | [], _ :: _, h => by simp at h
  | _ :: _, [], h => by simp at h
  | q :: s, a :: as, h => by
    show (kL q.1, V.ref a) :: kvO (s ++ [(c, os)]) (as ++ [b]) = _
    rw [kvO_snoc (by simpa using h)]
    rfl
theorem kvO_p {H : Hp} : ∀ {s : Ob} {as : List Addr}, as.length = s.length → (∀ (i : Nat) p a, s[i]? = some p → as[i]? = some a → (rL rT).r p.2 (.ref a) H) → Paired (fun x p => p.1 = kL x.1 ∧ (rL rT).r x.2 p.2 H) s (kvO s as)
  | [], [], _, _ => .nil
  | [], _ :: _, h, _ => by simp at h
  | _ :: _, [], h, _ => by simp at h
  | q :: s, a :: as, h, k => .cons ⟨rfl, k 0 q a rfl rfl⟩ (kvO_p (by simpa using h) fun i p b h1 h2 => k (i + 1) p b (by simpa using h1) (by simpa using h2))
/-- each list of at most so many -/
theorem ob_small (m : Nat) : ∀ (k : Nat) (rows : List (List Nat)), rows.length = k → (∀ r ∈ rows, (ordsOf (r.drop 1)).length ≤ m) → (obf rows).length ≤ k ∧ ∀ p ∈ obf rows, p.2.length ≤ k * m
  | 0, rows, h, _ => by
    rw [List.length_eq_zero_iff.mp h]
    exact ⟨Nat.le_refl _, fun p hp => nomatch hp⟩
  | k + 1, rows, h, hr => by
    obtain ⟨pre, row, rfl, hp⟩ := MF.snoc_cases h
    obtain ⟨h1, h2⟩ := ob_small m k pre hp fun r h => hr r (List.mem_append_left _ h)
    have h3 := hr row (List.mem_append_right _ (List.mem_singleton.mpr rfl))
    rw [obf_snoc, Nat.succ_mul]
    unfold obst ob1
    split
    · refine ⟨by rw [List.length_map]; omega, fun p hp => ?_⟩
      obtain ⟨p', h4, rfl⟩ := List.mem_map.mp hp
      have h5 := h2 p' h4
      split
      · rw [List.length_append]; omega
      · omega
    · refine ⟨by rw [List.length_append, List.length_singleton]; omega, fun p hp => ?_⟩
      rcases List.mem_append.mp hp with hp | hp
      · have := h2 p hp
        omega
      · rw [List.mem_singleton] at hp
        subst hp
        show (ordsOf (row.drop 1)).length ≤ _
        omega
section
variable {P : Program} {w : World} {K : PySem.W.Frag} {mg : Str → Option Value} {base : Heap}
abbrev DBy (K : PySem.W.Frag) (mg : Str → Option Value) : Prop := Dfn K mg "orders_by" (topS 23) ["rows"]
theorem cal_by (g : GC K mg) (D1 : DLot K mg) (D2 : DOf K mg) (D : DBy K mg) : C8.Cal P w K mg base 3 "orders_by" (sp1 (rTu rT) (fun rows => rows.length ≤ 11 ∧ ∀ r ∈ rows, 0 < r.length ∧ r.length ≤ 4) fun rows => (rD (rL rT)).r (obys rows)) [] := by
  refine D.cal scBy (fun vs H Q E ⟨x, v, B, e, _⟩ => by rw [e]; rfl) fun f cdv A outer s H vs Q E hr ⟨rows, v, B, e, i, r, ⟨hn, hl⟩, q⟩ => ?_
  subst e
  have hu := hu_of hr
  have nfO : ∀ (s : Ob) (as : List Addr), NF (.dK (kvO s as)) := fun s as => nf_dK fun p hp => by
    obtain ⟨c, _, h⟩ := kvO_keys p hp
    exact ⟨c, h⟩
  refine wp_setD 1 (fun d hd => ?_) scBy.nd
  have m : One B H d (.dK (kvO [] [])) B _ := One.new (Fr.refl i) hd (nfO [] [])
  refine wp_for (ρ := rT) (xs := rows) (fun pre σ' Bj Hj => ∃ (a : Option V) (as : List Addr), σ' = [some v, some (.ref d), a, none] ∧ One B H d (.dK (kvO (obf pre) as)) Bj Hj ∧ as.length = (obf pre).length ∧ as.Nodup ∧ ∀ (j : Nat) p a, (obf pre)[j]? = some p → as[j]? = some a → One B H a (.lst (p.2.map tx)) Bj Hj) m.F.i (gi_tup (gv 0 r)) (pg_name (i := 2) scBy.nd rfl (.inl rfl)) (fun B2 H2 f2 => ⟨none, [], rfl, m.step f2, rfl, List.nodup_nil, fun j p a h => nomatch h⟩) (fun pre a post v' σ' Bj H2 Bb H3 hx x2 x3 ⟨a1, as, e, m, hal, hnd, hm⟩ f3 r3 => ?_) (fun σ' B2 H2 x1 x2 ⟨a1, as, e, m, hal, hnd, hm⟩ => ?_) rfl (hgm := gm_name)
  · subst e
    have ha : a ∈ rows := by rw [hx]; exact List.mem_append_right _ (List.mem_cons_self ..)
    obtain ⟨l1, l2⟩ := hl a ha
    obtain ⟨c, t, rfl⟩ : ∃ c t, a = c :: t := by
      cases a with
      | nil => cases l1
      | cons c t => exact ⟨c, t, rfl⟩
    have hpre : pre.length ≤ 11 := by
      have := congrArg List.length hx
      rw [List.length_append, List.length_cons] at this
      omega
    have hlt : t.length ≤ 3 := by simpa using l2
    have hot := ordsOf_len hlt
    obtain ⟨sm1, sm2⟩ := ob_small 27 pre.length pre rfl fun r hr => by
      refine ordsOf_len ?_
      have := (hl r (by rw [hx]; exact List.mem_append_left _ hr)).2
      rw [List.length_drop]
      omega
    have m := m.step f3
    have hm := fun j p a h1 h2 => (hm j p a h1 h2).step f3
    have kl := kvO_len (obf pre) as
    have stp : obf (pre ++ [c :: t]) = ob1 (obf pre) c (ordsOf t) := by rw [obf_snoc]; rfl
    refine wp_sdx (kvs := kvO (obf pre) as) (k := c) (ys := ordsOf t) hu m (gvv 1) (g_ixS (i := 0) (gv 2 (ρ := rT) r3) g_int rfl (by omega)) (g_call1 (cal_of g D1 D2) hr (Nat.le_refl _) (g_slFrom (i := 1) (gv 2 (ρ := rT) r3) g_int (by omega)) hlt) (by omega) (fun p hp => by obtain ⟨c, _, h⟩ := kvO_keys p hp; exact ⟨c, h⟩) (by omega) (fun v5 h5 => ?_) (fun h5 qa B5 H5 hqa hqd n1 n2 x5 oth => ?_)
    · rcases kvO_look c hal with ⟨_, h⟩ | ⟨j, p, a, h1, h2, h3, h4⟩
      · rw [h] at h5
        cases h5
      · rw [h4] at h5
        cases h5
        have ma := hm j p a h1 h2
        have hps := sm2 p (List.mem_of_getElem? h1)
        refine ⟨a, _, rfl, ma, by rw [List.length_map]; omega, fun B5 H5 n1 n2 x5 oth => ?_⟩
        have hmem : ((obf pre).map (·.1)).contains c = true := List.contains_iff_mem.mpr (List.mem_map.mpr ⟨p, List.mem_of_getElem? h1, h3⟩)
        have e1 : ob1 (obf pre) c (ordsOf t) = (obf pre).map fun p => if p.1 = c then (p.1, p.2 ++ ordsOf t) else p := by unfold ob1; rw [if_pos hmem]
        refine wp_nil ⟨B5, x5, n1.F.i, _, as, rfl, ?_, ?_, hnd, fun j2 p2 a2 g1 g2 => ?_⟩
        · rw [stp, e1, kvO_map (fun p => by split <;> rfl)]
          exact n1
        · rw [stp, e1, List.length_map]
          exact hal
        · rw [stp, e1, List.getElem?_map] at g1
          obtain ⟨p3, g3, g4⟩ := Option.map_eq_some_iff.mp g1
          by_cases ej : j2 = j
          · subst ej
            rw [h2] at g2
            cases g2
            rw [h1] at g3
            cases g3
            rw [if_pos h3] at g4
            rw [← g4]
            show One B H a (.lst ((p.2 ++ ordsOf t).map tx)) B5 H5
            rw [List.map_append]
            exact n2
          · have nk : p3.1 ≠ c := fun e => by
              have nd := (obf_keys pre).1
              have q1 : ((obf pre).map (·.1))[j2]? = some c := by rw [List.getElem?_map, g3, ← e]; rfl
              have q2 : ((obf pre).map (·.1))[j]? = some c := by rw [List.getElem?_map, h1, ← h3]; rfl
              exact ej ((List.getElem?_inj (List.getElem?_eq_some_iff.mp q1).1 nd).mp (q1.trans q2.symm))
            rw [if_neg nk] at g4
            subst g4
            have na : a2 ≠ a := fun e => by
              subst e
              exact ej ((List.getElem?_inj (List.getElem?_eq_some_iff.mp g2).1 hnd).mp (g2.trans h2.symm))
            have m2 := hm j2 p3 a2 g3 g2
            have nd2 : a2 ≠ d := fun e => by
              subst e
              have := m.h
              rw [m2.h] at this
              cases this
            obtain ⟨z1, z2⟩ := oth a2 _ nd2 na m2.h
            exact m2.fr n1.F (z2 m2.b) z1
    · rcases kvO_look c hal with ⟨h1, h2⟩ | ⟨j, p, a, h1, h2, h3, h4⟩
      · have hmem : ¬ ((obf pre).map (·.1)).contains c = true := fun z => h1 (List.contains_iff_mem.mp z)
        have e1 : ob1 (obf pre) c (ordsOf t) = obf pre ++ [(c, ordsOf t)] := by unfold ob1; rw [if_neg hmem]
        have hput : putK (kvO (obf pre) as) (kL c) (.ref qa) = kvO (obf pre ++ [(c, ordsOf t)]) (as ++ [qa]) := by
          rw [kvO_snoc hal]
          exact putK_new fun p hp e => by
            obtain ⟨c', g1, g2⟩ := kvO_keys p hp
            rw [g2] at e
            rw [kL_inj e] at g1
            exact h1 g1
        rw [hput] at n1
        have nq : ∀ a ∈ as, a ≠ qa := fun a ha e => by
          subst e
          obtain ⟨j, hj, e2⟩ := List.getElem_of_mem ha
          have hj' : j < (obf pre).length := by omega
          have := (hm j _ a (List.getElem?_eq_getElem hj') (by rw [List.getElem?_eq_getElem hj, e2])).h
          rw [hqa] at this
          cases this
        refine wp_nil ⟨B5, x5, n1.F.i, _, as ++ [qa], rfl, by rw [stp, e1]; exact n1, by rw [stp, e1, List.length_append, List.length_append, hal]; rfl, List.nodup_append.mpr ⟨hnd, by simp, fun a ha b hb e => ?_⟩, fun j2 p2 a2 g1 g2 => ?_⟩
        · rw [List.mem_singleton] at hb
          exact nq a ha (e.trans hb)
        · rw [stp, e1] at g1
          by_cases ej : j2 < as.length
          · rw [List.getElem?_append_left ej] at g2
            rw [List.getElem?_append_left (by omega)] at g1
            have m2 := hm j2 p2 a2 g1 g2
            have nd2 : a2 ≠ d := fun e => by
              subst e
              have := m.h
              rw [m2.h] at this
              cases this
            obtain ⟨z1, z2⟩ := oth a2 _ nd2 (nq a2 (List.mem_of_getElem? g2)) m2.h
            exact m2.fr n1.F (z2 m2.b) z1
          · rw [List.getElem?_append_right (by omega)] at g1 g2
            have e0 : j2 - as.length = 0 := by
              have := (List.getElem?_eq_some_iff.mp g2).1
              rw [List.length_singleton] at this
              omega
            rw [e0] at g2
            rw [← hal, e0] at g1
            cases g1
            cases g2
            exact n2
      · rw [h4] at h5
        cases h5
  · subst e
    obtain ⟨F4, x4⟩ := m.F.adds (fun a => a = d ∨ a ∈ as) fun a ha => by
      rcases ha with rfl | ha
      · exact ⟨m.n, m.b⟩
      · obtain ⟨j, hj, e⟩ := List.getElem_of_mem ha
        have hj' : j < (obf rows).length := by omega
        have := hm j _ a (List.getElem?_eq_getElem hj') (by rw [List.getElem?_eq_getElem hj, e])
        exact ⟨this.n, this.b⟩
    have hrd : (rD (rL rT)).r (obf rows) (.ref d) (adds (fun a => a = d ∨ a ∈ as) B2 H2) := ⟨d, kvO (obf rows) as, rfl, .inl (by rw [adds_at (.inl rfl)]; exact m.h), kvO_p hal fun j p a h1 h2 => lT.mpr ⟨a, rfl, by rw [adds_at (.inr (List.mem_of_getElem? h2))]; exact (hm j p a h1 h2).h⟩⟩
    obtain ⟨sm1, sm2⟩ := ob_small 27 rows.length rows rfl fun r hr => by
      refine ordsOf_len ?_
      have := (hl r hr).2
      rw [List.length_drop]
      omega
    have hk := (obf_keys rows).1
    have lkk : ∀ p ∈ obf rows, look (obf rows) p.1 = some p.2 := fun p hp => by
      have : ∀ (s : Ob), (s.map (·.1)).Nodup → p ∈ s → look s p.1 = some p.2 := by
        intro s
        induction s with
        | nil => intro _ h; cases h
        | cons x s ih =>
          intro nd hp
          rw [List.map_cons, List.nodup_cons] at nd
          rcases List.mem_cons.mp hp with rfl | hp
          · simp [look]
          · have ne : x.1 ≠ p.1 := fun e => nd.1 (List.mem_map.mpr ⟨p, hp, e.symm⟩)
            have := ih nd.2 hp
            unfold look at this ⊢
            rw [List.find?_cons, decide_eq_false ne]
            exact this
      exact this _ hk hp
    have hres : ((obf rows).map fun p => [p.1]).map (fun l => (l.headD 0, ssort ltL (lk (obf rows) (l.headD 0)))) = obys rows := by
      unfold obys
      rw [List.map_map]
      refine List.map_congr_left fun p hp => ?_
      show (p.1, ssort ltL (lk (obf rows) p.1)) = _
      have : lk (obf rows) p.1 = p.2 := by
        have h := lkk p hp
        unfold look at h
        unfold lk
        rw [h]
        rfl
      rw [this]
    have hkk : (((obf rows).map fun p => [p.1]).map fun l : List Nat => l.headD 0).Nodup := by
      rw [List.map_map]
      exact hk
    refine wp_ret F4.i (g_lock (ρ := rD (rL rT)) (x := obys rows) hrd fun d2 kvs o B6 e1 h1 pr lk2 => ?_) fun v5 B5 H5 f5 r5 => q v5 B5 H5 (F4.trans f5) r5
    cases e1
    have hrd6 := lk2 (rD (rL rT)) hrd
    refine ge_is (g_dc (ρ := rT) (τ := rL rT) (own := [("top", 3)]) (j := 3) (fun l => l.headD 0) (fun l => ssort ltL (lk (obf rows) (l.headD 0))) rfl scBy.nd (by apply blkOk_by; change blkC ["rows", "found", "row", "top"] (defScope (topS 23)) _ _ = true; decide +kernel) (fun _ _ _ _ _ => pg_name (i := 3) scBy.nd rfl (.inl rfl)) (gi_keysF (ok := fun v x => (rL rT).r x.2 v B6) (gvv 1) h1 pr) (by rw [List.length_map]; omega) hkk fun a va B7 ha x7 ra s0 H0 C cl fp => ?_) hres
    obtain ⟨p, hp, rfl⟩ := List.mem_map.mp ha
    refine ⟨gv 3 ra, ?_⟩
    have hl2 : lk (obf rows) p.1 = p.2 := by
      have h := lkk p hp
      unfold look at h
      unfold lk
      rw [h]
      rfl
    show GE _ _ _ _ ((rL rT).r (ssort ltL (lk (obf rows) p.1)))
    rw [hl2]
    exact g_sortT g.bi.sorted (g_dget hu (gv 1 ((rD (rL rT)).ex x7 hrd6)) (gv 3 ra) (lkk p hp))
end
end KD
end
section
set_option Elab.async false
set_option linter.all false
set_option maxRecDepth 100000
set_option maxHeartbeats 4000000
/-! KD7: fits, tops_above. -/
namespace KD
open PySem PySem.Spec PyProof.Rows L2 KS MS KB
open SX (S)
open MF (abc Mk Sh kd Ob lk lk_mem OkO fitB topsAb)
theorem scFit : FnScope ["order", "lots", "label", "lot"] ["order", "lots"] (defScope (topS 24)) := ⟨rfl, rfl, rfl, by decide +kernel, rfl, by decide +kernel, by decide +kernel⟩
theorem scTops : FnScope ["orders", "lots", "top", "order"] ["orders", "lots"] (defScope (topS 25)) := ⟨rfl, rfl, rfl, by decide +kernel, rfl, by decide +kernel, by decide +kernel⟩
theorem fit_all : ∀ {o : List Nat} {ls : List (List Nat)}, (((sg o).zip ls).map fun x => decide (x.1.headD 0 ∈ x.2)).all id = fitB o ls
  | [], ls => by simp [sg, fitB]
  | c :: o, [] => by simp [sg, fitB]
  | c :: o, l :: ls => by
    have := fit_all (o := o) (ls := ls)
    show (decide (c ∈ l) && _) = (decide (c ∈ l) && _)
    rw [← this]
    rfl
theorem look_mem {s : Ob} {p : Nat × List (List Nat)} (nd : (s.map (·.1)).Nodup) (hp : p ∈ s) : look s p.1 = some p.2 := by
  induction s with
  | nil => cases hp
  | cons x s ih =>
    rw [List.map_cons, List.nodup_cons] at nd
    unfold look
    rw [List.find?_cons]
    rcases List.mem_cons.mp hp with rfl | hp
    · simp
    · have ne : x.1 ≠ p.1 := fun e => nd.1 (List.mem_map.mpr ⟨p, hp, e.symm⟩)
      have := ih nd.2 hp
      rw [decide_eq_false ne]
      exact this
section
variable {P : Program} {w : World} {K : PySem.W.Frag} {mg : Str → Option Value} {base : Heap}
abbrev DFit (K : PySem.W.Frag) (mg : Str → Option Value) : Prop := Dfn K mg "fits" (topS 24) ["order", "lots"]
abbrev DTops (K : PySem.W.Frag) (mg : Str → Option Value) : Prop := Dfn K mg "tops_above" (topS 25) ["orders", "lots"]
theorem cal_fit (g : GC K mg) (D : DFit K mg) : C8.Cal P w K mg base 1 "fits" (sp2 rT (rL rT) (fun o ls => o.length = ls.length ∧ o.length ≤ 100) fun o ls => rB.r (fitB o ls)) [] := by
  refine D.cal scFit (fun vs H Q E ⟨x, y, v, u, B, e, _⟩ => by rw [e]; rfl) fun f cdv A outer s H vs Q E hr ⟨o, ls, v, u, B, e, i, r, r2, ⟨h1, h2⟩, q⟩ => ?_
  subst e
  refine wp_ret i (ge_is (g_all rfl g.bi.all (g_lc2 (ρ := rT) (τ := rT) (υ := rB) (own := [("label", 2), ("lot", 3)]) (j := 2) (k := 3) (fun _ => true) (fun x => decide (x.1.headD 0 ∈ x.2)) rfl scFit.nd (by apply blkOk_by; change blkC ["order", "lots", "label", "lot"] (defScope (topS 24)) _ _ = true; decide +kernel) (fun _ _ _ _ _ => pg_tup rfl (pgs_cons (pg_name (i := 2) scFit.nd rfl (.inl rfl)) (pgs_cons (pg_name (i := 3) scFit.nd rfl (.inl rfl)) pgs_nil))) (gi_zipSL g.bi.zip (gv 0 r) (gv 1 r2) h1) (by rw [List.length_zip, len_sg]; omega) fun x y vx vy B1 hxy x1 rx ry s0 H0 C cl fp => ⟨ts_nil, fun _ => ?_⟩)) ?_) fun v B1 H1 f p => q v B1 H1 f p
  · obtain ⟨c, hc, rfl⟩ := List.mem_map.mp (List.of_mem_zip hxy).1
    exact g_cmp op_in_sign (gv 2 rx) (gv 3 ry) rb_in
  · rw [filt, fit_all]
theorem cal_tops (g : GC K mg) (D1 : DLot K mg) (D2 : DFit K mg) (D : DTops K mg) : C8.Cal P w K mg base 2 "tops_above" (sp2 (rD (rL rT)) (rL rT) (fun O ls => OkO ls.length O ∧ ls.length ≤ 3) fun O ls => rT.r (topsAb O ls)) [] := by
  refine D.cal scTops (fun vs H Q E ⟨x, y, v, u, B, e, _⟩ => by rw [e]; rfl) fun f cdv A outer s H vs Q E hr ⟨O, ls, v, u, B, e, i, r, r2, ⟨ok, h3⟩, q⟩ => ?_
  subst e
  have hu := hu_of hr
  have hn := ok.n
  have eqL : (((O.map fun p => [p.1]).filter fun l => ((lk O (l.headD 0)).map fun o => fitB o ls).any id).map fun l => l) = sg ((O.filter fun p => p.2.any fun o => fitB o ls).map (·.1)) := by
    rw [List.map_id', List.filter_map]
    unfold sg
    rw [List.map_map]
    have : (O.filter ((fun l : List Nat => ((lk O (l.headD 0)).map fun o => fitB o ls).any id) ∘ fun p => [p.1])) = O.filter fun p => p.2.any fun o => fitB o ls := by
      refine List.filter_congr fun p hp => ?_
      show ((lk O p.1).map fun o => fitB o ls).any id = _
      rw [lk_mem ok.nd hp, List.any_map]
      rfl
    rw [this]
    rfl
  have hlen : ((O.filter fun p => p.2.any fun o => fitB o ls).map (·.1)).length ≤ 11 := by
    rw [List.length_map]
    exact Nat.le_trans (List.length_filter_le ..) hn
  refine wp_ret i (ge_is (g_call1 (ρ := rL rT) (x := sg ((O.filter fun p => p.2.any fun o => fitB o ls).map (·.1))) (cal_lotL g D1) hr (by decide) (g_lock (ρ := rL rT) r fun d2 kvs o B6 e1 h1 pr lk2 => ?_) ⟨by rw [len_sg]; omega, _, rfl⟩) ?_) fun v B1 H1 f p => q v B1 H1 f p
  · subst e1
    refine ge_is (g_lc (ρ := rT) (τ := rT) (own := [("top", 2), ("order", 3)]) (j := 2) (fun l => ((lk O (l.headD 0)).map fun o => fitB o ls).any id) (fun l => l) rfl scTops.nd (by apply blkOk_by; change blkC ["orders", "lots", "top", "order"] (defScope (topS 25)) _ _ = true; decide +kernel) (fun _ _ _ _ _ => pg_name (i := 2) scTops.nd rfl (.inl rfl)) (gi_keysF (ok := fun v x => (rL rT).r x.2 v B6) (gvv 0) h1 pr) (by rw [List.length_map]; omega) fun a va B7 ha x7 ra s0 H0 C cl fp => ⟨ts_one (t_val ?_), fun _ => gv 2 ra⟩) eqL
    obtain ⟨p, hp, rfl⟩ := List.mem_map.mp ha
    have hm := ok.m p hp
    have hl := ok.len p hp
    show GE _ _ _ _ (rB.r (((lk O p.1).map fun o => fitB o ls).any id))
    rw [lk_mem ok.nd hp]
    refine g_any rfl g.bi.any (ge_is (x := (p.2.filter fun _ => true).map fun o => fitB o ls) (g_lc (ρ := rT) (τ := rB) (own := [("order", 3)]) (j := 3) (fun _ => true) (fun o => fitB o ls) rfl scTops.nd ?_ (fun _ _ _ _ _ => pg_name (i := 3) scTops.nd rfl (.inl rfl)) (gi_list (g_dget hu (gv 0 (lk2 (rD (rL rT)) r |> (rD (rL rT)).ex x7)) (gv 2 ra) (look_mem ok.nd hp))) (by omega) fun o vo B8 ho x8 ro s1 H1 C1 cl1 fp1 => ⟨ts_nil, fun _ => ?_⟩) ?_)
    · apply blkOk_by
      change blkC ["orders", "lots", "top", "order"] (relabel _ (envOfC "tops_above" (defScope (topS 25)) 0 0 Value.none)) _ _ = true
      decide +kernel
    · exact g_call2 (cal_fit g D2) hr (by decide) (gv 3 ro) (gv 1 ((rL rT).ex (x7.trans x8) (lk2 (rL rT) r2))) ⟨by rw [hl o ho], by rw [hl o ho]; omega⟩
    · rw [filt]
  · rw [flat_sg]
    rfl
end
end KD
end
section
set_option Elab.async false
set_option linter.all false
set_option maxRecDepth 100000
set_option maxHeartbeats 4000000
/-! KD8: lots_by, tops_by. -/
namespace KD
open PySem PySem.Spec PyProof.Rows L2 KS MS KB
open SX (S)
open MF (abc Mk Sh kd kdf Ob lk OkO Gr labs obys topsAb lotV IsArr IsLots dp_step)
theorem scLots : FnScope ["table", "shape", "marks", "orders", "children", "labels", "lots", "place", "sign", "child"] ["table", "shape", "marks"] (defScope (topS 26)) := ⟨rfl, rfl, rfl, by decide +kernel, rfl, by decide +kernel, by decide +kernel⟩
theorem scTB : FnScope ["table", "shape", "marks"] ["table", "shape", "marks"] (defScope (topS 30)) := ⟨rfl, rfl, rfl, by decide +kernel, rfl, by decide +kernel, by decide +kernel⟩
theorem getD_at {α : Type} {xs : List α} {i : Nat} {d : α} (h : i < xs.length) : xs[i]? = some (xs.getD i d) := by
  rw [List.getD_eq_getElem?_getD, List.getElem?_eq_getElem h]
  rfl
theorem down_at {n : Nat} {pre post : List Nat} {a : Nat} (h : (List.range n).reverse = pre ++ a :: post) : a = n - 1 - pre.length ∧ pre.length < n := by
  have hl := congrArg List.length h
  rw [List.length_reverse, List.length_range, List.length_append, List.length_cons] at hl
  have h1 : (List.range n).reverse[pre.length]? = some a := by rw [h, List.getElem?_append_right (Nat.le_refl _), Nat.sub_self]; rfl
  rw [List.getElem?_reverse (by rw [List.length_range]; omega), List.length_range, List.getElem?_range (by omega)] at h1
  exact ⟨(Option.some.inj h1).symm, by omega⟩
theorem map_const {α β : Type} (c : β) : ∀ xs : List α, (xs.map fun _ => c) = List.replicate xs.length c
  | [] => rfl
  | x :: xs => by rw [List.map_cons, map_const c xs]; rfl
theorem getD_rep {α : Type} {n q : Nat} {c d : α} (h : q < n) : (List.replicate n c).getD q d = c := by
  rw [List.getD_eq_getElem?_getD, List.getElem?_replicate, if_pos h]
  rfl
theorem set_self' {α : Type} {xs : List α} {p : Nat} {d c : α} (h : xs.getD p d = c) (hp : p < xs.length) : xs.set p c = xs := by
  rw [List.getD_eq_getElem?_getD, List.getElem?_eq_getElem hp] at h
  have h : xs[p] = c := h
  rw [← h, List.set_getElem_self]
section
variable {P : Program} {w : World} {K : PySem.W.Frag} {mg : Str → Option Value} {base : Heap}
abbrev DLots (K : PySem.W.Frag) (mg : Str → Option Value) : Prop := Dfn K mg "lots_by" (topS 26) ["table", "shape", "marks"]
abbrev DTB (K : PySem.W.Frag) (mg : Str → Option Value) : Prop := Dfn K mg "tops_by" (topS 30) ["table", "shape", "marks"]
/-- the defs of the package -/
structure PD (K : PySem.W.Frag) (mg : Str → Option Value) : Prop where
  g : GC K mg
  int : DInt K mg
  many : DMany K mg
  fault : DFault K mg
  shape : DShape K mg
  marks : DMarks K mg
  par : DPar K mg
  kid : DKid K mg
  want : DWant K mg
  lot : DLot K mg
  lab : DLab K mg
  of : DOf K mg
  by' : DBy K mg
  fit : DFit K mg
  tops : DTops K mg
  lots : DLots K mg
  wm : DWM K mg
theorem Gr.len4 {wd : Nat} {rows : List (List Nat)} (gr : Gr wd rows) : ∀ r ∈ rows, 0 < r.length ∧ r.length ≤ 4 := fun r hr => by
  have := gr.len r hr
  rcases gr.w23 with h | h <;> omega
/-- what the functions are given -/
def Giv (gr : Nat × List (List Nat)) (sh m : List Nat) : Prop := Gr gr.1 gr.2 ∧ Sh gr.1 sh ∧ Mk sh.length m
theorem cal_lots (D : PD K mg) : C8.Cal P w K mg base 4 "lots_by" (sp3 rG rT rT Giv fun gr sh m => (rW (rL rT) (IsLots gr.1 gr.2 sh m)).r ()) [] := by
  have g := D.g
  refine D.lots.cal scLots (fun vs H Q E ⟨x, y, z, v, u, t, B, e, _⟩ => by rw [e]; rfl) fun f cdv A outer s H vs Q E hr ⟨⟨wd, rows⟩, sh, m, v, u, t, B, e, i, r, r2, r3, ⟨gr, hp, hm⟩, q⟩ => ?_
  subst e
  have hlen := hp.len
  have hml := hm.1
  have hrl := gr.n
  have okO := gr.okO
  have hr4 : ∀ r ∈ rows, 0 < r.length ∧ r.length ≤ 4 := Gr.len4 gr
  refine wp_tup3 3 4 5 i (g_call1 (cal_by g D.lot D.of D.by') hr (by decide) (g_snd (gv 0 r) g_int) ⟨hrl, hr4⟩) (g_call2 (cal_kid g D.par D.kid) hr (by decide) (g_fst (gv 0 r) g_int) (gv 1 r2) hp) (g_call1 (cal_lab g D.lot D.lab) hr (by decide) (gv 0 r) ⟨hrl, fun l hl => (hr4 l hl).2⟩) (fun vo vc vl B1 H1 f1 ro rc rl => ?_) rfl scLots.nd
  refine wp_setLcN 6 (own := [("sign", 8)]) (jt := 8) (τ := rT) f1.i (fun _ => true) (fun _ => labs rows) (gi_str (gv 1 r2)) (by rw [len_sg]; omega) (fun a va B2 ha x2 ra s0 H0 C cl fp => ⟨ts_nil, fun _ => gv 5 rl⟩) (fun l ws B2 H2 m2 pr2 => ?_) rfl scLots.nd (by apply blkOk_by; change blkC ["table", "shape", "marks", "orders", "children", "labels", "lots", "place", "sign", "child"] (defScope (topS 26)) _ _ = true; decide +kernel) (fun _ _ _ _ _ => pg_name (i := 8) scLots.nd rfl (.inl rfl))
  have ew : ws = (List.replicate sh.length (labs rows)).map tx := by
    have := (pv_map (ρ := rT) (f := tx) fun _ _ => Iff.rfl).mp pr2
    rw [this, filt, map_const, len_sg]
  subst ew
  have ro2 := (rD (rL rT)).ex m2.F.b ro
  have rc2 := (rL (rL rN)).ex m2.F.b rc
  have mm := One.from f1 m2
  refine wp_for (ρ := rN) (xs := (List.range sh.length).reverse) (fun pre σ' Bj Hj => ∃ (a : Option V) (ls : List (List Nat)), σ' = [some v, some u, some t, some vo, some vc, some vl, some (.ref l), a, none, none] ∧ One B H l (.lst (ls.map tx)) Bj Hj ∧ ls.length = sh.length ∧ (∀ q, sh.length - pre.length ≤ q → q < sh.length → ls.getD q [] = lotV (obys rows) (labs rows) (m.getD q 0) (kdf wd sh q) ((kdf wd sh q).map fun j => ls.getD j [])) ∧ ∀ q, q < sh.length - pre.length → ls.getD q [] = labs rows) mm.F.i (gi_down g.bi.range (g_sub (GE.n (g_lenS g.bi.len (gv 1 (ρ := rT) r2) (by omega))) g_int) (g_neg g_int) (g_neg g_int) (by omega)) (pg_name (i := 7) scLots.nd rfl (.inl rfl)) (fun B3 H3 f3 => ⟨none, _, rfl, mm.step f3, List.length_replicate, fun q h1 h2 => ?_, fun q h1 => getD_rep (by omega)⟩) (fun pre a post v' σ' Bj H3 Bb H4 hx x2 x3 ⟨a1, ls, e, mj, hls, hd, hu⟩ f3 r3' => ?_) (fun σ' B3 H3 x1 x2 ⟨a1, ls, e, mj, hls, hd, hu⟩ => ?_) rfl (hgm := gm_name)
  · rw [List.length_nil] at h1
    omega
  · subst e
    obtain ⟨ea, hpl⟩ := down_at hx
    have hap : a < sh.length := by omega
    have mb := mj.step f3
    have xb := x2.trans f3.b
    have rob := (rD (rL rT)).ex xb ro2
    have rcb := (rL (rL rN)).ex xb rc2
    have hki : (kd wd sh)[a]? = some (kdf wd sh a) := getD_at (by rw [hp.klen]; exact hap)
    obtain ⟨hk1, hk2⟩ := hp.kidsL a
    have hkl : (kdf wd sh a).length ≤ 3 := by
      rcases hk2 with h | h
      · rw [h]; simp
      · rw [h]; rcases hp.w23 with h | h <;> omega
    have hLa : ls.getD a [] = labs rows := hu a (by omega)
    refine wp_cut (fun σ2 H5 => ∃ B5, σ2 = [some v, some u, some t, some vo, some vc, some vl, some (.ref l), some v', none, none] ∧ Ex Bb B5 ∧ One B H l (.lst ((ls.set a (if kdf wd sh a = [] then labs rows else topsAb (obys rows) ((kdf wd sh a).map fun j => ls.getD j []))).map tx)) B5 H5) ?_ ?_
    · refine ws_if f3.i (t_cmp (ρ := rI) op_gt (GE.n (g_lenL g.bi.len (g_ixL (gv 4 rcb) (gv 7 (ρ := rI) (x := (a : Int)) r3') hki))) g_int rb_gt) (fun z B5 H5 f5 => ?_) (fun z B5 H5 f5 => ?_)
      · have hne : kdf wd sh a ≠ [] := fun e => by
          rw [e] at z
          cases z
        have hkw : (kdf wd sh a).length = wd := hk2.resolve_left hne
        have m5 := mb.step f5
        have ro5 := (rD (rL rT)).ex (f5.b.trans m5.up) rob
        have rc5 := (rL (rL rN)).ex (f5.b.trans m5.up) rcb
        refine wp_setix (ρ := rT) (x := topsAb (obys rows) ((kdf wd sh a).map fun j => ls.getD j [])) (n := a) m5.fin.i (g_call2 (cal_tops g D.lot D.fit D.tops) hr (by decide) (gv 3 ro5) (ge_is (g_lc (ρ := rN) (τ := rT) (own := [("child", 9)]) (j := 9) (fun _ => true) (fun j => ls.getD j []) rfl scLots.nd (by apply blkOk_by; change blkC ["table", "shape", "marks", "orders", "children", "labels", "lots", "place", "sign", "child"] (defScope (topS 26)) _ _ = true; decide +kernel) (fun _ _ _ _ _ => pg_name (i := 9) scLots.nd rfl (.inl rfl)) (gi_list (g_ixL (gv 4 rc5) (gv 7 (ρ := rI) (x := (a : Int)) r3') hki)) (by omega) fun j vj B6 hj x6 rj s0 H0 C cl fp => ⟨ts_nil, fun _ => g_ixL (gv 6 ((rL rT).ex x6 (lT.mpr ⟨l, rfl, upd_same⟩))) (gv 9 (ρ := rI) (x := (j : Int)) rj) (getD_at (by have := hk1 j hj; omega))⟩) (by rw [filt])) ⟨by rw [List.length_map, hkw]; exact okO, by rw [List.length_map]; omega⟩) (gvv 6) (gv 7 (ρ := rI) (x := (a : Int)) r3') m5.h (by rw [List.length_map]; omega) (fun w6 B6 H6 f6 r6 h6 => ?_)
        have r6 : w6 = tx _ := r6
        subst r6
        have m6 := m5.un f6
        refine wp_nil ⟨del B6 l, rfl, f5.b.trans (f6.un m5.b).b, ?_⟩
        rw [if_neg hne, List.map_set]
        exact m6.put nf_lst
      · have he : kdf wd sh a = [] := by
          cases h : kdf wd sh a with
          | nil => rfl
          | cons x y =>
            rw [h] at z
            have z := of_decide_eq_false z
            simp at z
        refine wp_nil ⟨B5, rfl, f5.b, ?_⟩
        rw [if_pos he, set_self' hLa (by omega)]
        exact mb.step f5
    · rintro σ2 H5 ⟨B5, rfl, x5, m5⟩
      generalize hbv : (if kdf wd sh a = [] then labs rows else topsAb (obys rows) ((kdf wd sh a).map fun j => ls.getD j [])) = bv at m5
      have hmi : m[a]? = some (m.getD a 0) := getD_at (by omega)
      have fin : ∀ (B6 H6 : Hp) (x : List Nat), Ex Bb B6 → One B H l (.lst ((ls.set a x).map tx)) B6 H6 → x = lotV (obys rows) (labs rows) (m.getD a 0) (kdf wd sh a) ((kdf wd sh a).map fun j => ls.getD j []) → ∃ B3, Ex Bb B3 ∧ Ex B3 H6 ∧ ∃ (a' : Option V) (ls' : List (List Nat)), [some v, some u, some t, some vo, some vc, some vl, some (.ref l), some v', none, none] = [some v, some u, some t, some vo, some vc, some vl, some (.ref l), a', none, none] ∧ One B H l (.lst (ls'.map tx)) B3 H6 ∧ ls'.length = sh.length ∧ (∀ q, sh.length - (pre ++ [a]).length ≤ q → q < sh.length → ls'.getD q [] = lotV (obys rows) (labs rows) (m.getD q 0) (kdf wd sh q) ((kdf wd sh q).map fun j => ls'.getD j [])) ∧ ∀ q, q < sh.length - (pre ++ [a]).length → ls'.getD q [] = labs rows := fun B6 H6 x x6 m6 hxv => by
        refine ⟨B6, x6, m6.F.i, _, ls.set a x, rfl, m6, by rw [List.length_set]; exact hls, fun q h1 h2 => ?_, fun q h1 => ?_⟩
        · rw [List.length_append, List.length_singleton] at h1
          exact dp_step (V := fun q vs => lotV (obys rows) (labs rows) (m.getD q 0) (kdf wd sh q) vs) (fun q => (hp.kidsL q).1) [] hls hap (fun q g1 g2 => hd q (by omega) g2) hxv q (by omega) h2
        · rw [List.length_append, List.length_singleton] at h1
          rw [List.getD_eq_getElem?_getD, List.getElem?_set, if_neg (by omega), ← List.getD_eq_getElem?_getD]
          exact hu q (by omega)
      refine wp_if m5.F.i (t_cmp op_ne (g_ixS (gv 2 (ρ := rT) r3) (gv 7 (ρ := rI) (x := (a : Int)) r3') hmi (by omega)) (g_gc (P := rT.r [63]) (fun _ => rfl) g.untold) rb_neT) (fun z B6 H6 f6 => ?_) (fun z B6 H6 f6 => ?_)
      · have hc : m.getD a 0 ≠ 63 := fun e => by
          rw [e] at z
          cases z
        have m6 := m5.step f6
        have hlv : (ls.set a bv)[a]? = some bv := by rw [List.getElem?_set, if_pos rfl, if_pos (by omega)]
        refine wp_setix (ρ := rT) (x := if m.getD a 0 ∈ bv then [m.getD a 0] else []) (n := a) m6.fin.i (g_if (t_cmp op_in_sign (g_ixS (gv 2 (ρ := rT) r3) (gv 7 (ρ := rI) (x := (a : Int)) r3') hmi (by omega)) (g_ixL (ρ := rT) (gv 6 (lT.mpr ⟨l, rfl, upd_same⟩)) (gv 7 (ρ := rI) (x := (a : Int)) r3') hlv) rb_in) (fun z => ge_is (g_ixS (gv 2 (ρ := rT) r3) (gv 7 (ρ := rI) (x := (a : Int)) r3') hmi (by omega)) (by rw [if_pos (of_decide_eq_true z)])) (fun z => ge_is g_str (by rw [if_neg (of_decide_eq_false z)]; rfl))) (gvv 6) (gv 7 (ρ := rI) (x := (a : Int)) r3') m6.h (by rw [List.length_map, List.length_set]; omega) (fun w7 B7 H7 f7 r7 h7 => ?_)
        have r7 : w7 = tx _ := r7
        subst r7
        have m7 := (m6.un f7).put (o' := .lst (((ls.set a bv).map tx).set a (tx (if m.getD a 0 ∈ bv then [m.getD a 0] else [])))) nf_lst
        refine wp_nil (wp_nil (fin (del B7 l) _ (if m.getD a 0 ∈ bv then [m.getD a 0] else []) ((x5.trans f6.b).trans (f7.un m6.b).b) ?_ ?_))
        · have e : (ls.set a (if m.getD a 0 ∈ bv then [m.getD a 0] else [])).map tx = ((ls.set a bv).map tx).set a (tx (if m.getD a 0 ∈ bv then [m.getD a 0] else [])) := by rw [List.map_set, List.map_set, List.set_set]
          rw [e]
          exact m7
        · unfold lotV
          rw [if_neg hc, hbv]
      · have hc : m.getD a 0 = 63 := by
          have z : decide ([m.getD a 0] = [63]) = true := by simpa using z
          exact List.head_eq_of_cons_eq (of_decide_eq_true z)
        refine wp_nil (wp_nil (fin B6 H6 bv (x5.trans f6.b) (m5.step f6) ?_))
        unfold lotV
        rw [if_pos hc, hbv]
  · subst e
    rw [List.length_reverse, List.length_range] at hd
    refine wp_ret mj.fin.i (gv 6 (ρ := rL rT) (x := ls) (lT.mpr ⟨l, rfl, upd_same⟩)) fun v5 B5 H5 f5 r5 => q v5 B5 H5 (mj.fin.trans f5) ⟨ls, ⟨hls, fun q' h => hd q' (by omega) h⟩, r5⟩
theorem cal_tb (D : PD K mg) (D2 : DTB K mg) : C8.Cal P w K mg base 5 "tops_by" (sp3 rG rT rT Giv fun gr sh m => (rW rT fun l => ∃ ls, IsLots gr.1 gr.2 sh m ls ∧ l = ls.getD 0 []).r ()) [] := by
  refine D2.cal scTB (fun vs H Q E ⟨x, y, z, v, u, t, B, e, _⟩ => by rw [e]; rfl) fun f cdv A outer s H vs Q E hr ⟨⟨wd, rows⟩, sh, m, v, u, t, B, e, i, r, r2, r3, ⟨gr, hp, hm⟩, q⟩ => ?_
  subst e
  refine wp_expr i (g_call3 (cal_wm D.g D.int D.many D.fault D.shape D.marks D.want D.wm) hr (by decide) (gv 0 r) (gv 1 r2) (gv 2 r3) ⟨hp, hm⟩) fun v1 B1 H1 f1 _ => ?_
  refine wp_ret f1.i (g_ixLW (g_call3 (cal_lots D) hr (by decide) (gv 0 (rG.ex f1.b r)) (gv 1 r2) (gv 2 r3) ⟨gr, hp, hm⟩) (i := 0) g_int (fun xs hx => by rw [hx.1]; exact hp.pos)) fun v2 B2 H2 f2 ⟨l, ⟨ls, h1, h2⟩, r4⟩ => q v2 B2 H2 (f1.trans f2) ⟨l, ⟨ls, h1, ?_⟩, r4⟩
  rw [List.getD_eq_getElem?_getD, h2]
  rfl
end
end KD
end
section
set_option Elab.async false
set_option linter.all false
set_option maxRecDepth 100000
set_option maxHeartbeats 4000000
/-! KD9: filled. -/
namespace KD
open PySem PySem.Spec PyProof.Rows L2 KS MS KB
open SX (S)
open MF (abc Mk Sh kd kdf Ob lk OkO Gr labs obys topsAb lotV IsArr IsLots dp_step FInv IsFilled firstO kidL setAll setAll_snoc setAll_len fitB fitB_get lot_inner lk_mem)
abbrev nmF : List Str := ["table", "shape", "marks", "lots", "orders", "children", "found", "place", "some", "child", "below", "label", "lot", "order"]
theorem scFil : FnScope nmF ["table", "shape", "marks"] (defScope (topS 31)) := ⟨rfl, rfl, rfl, by decide +kernel, rfl, by decide +kernel, by decide +kernel⟩
theorem lotV_len {O : Ob} {L ks : List Nat} {c : Nat} {vs : List (List Nat)} (h : O.length ≤ 11) (hL : L.length ≤ 11) : (lotV O L c ks vs).length ≤ 11 := by
  have h1 : (if ks = [] then L else topsAb O vs).length ≤ 11 := by
    split
    · exact hL
    · unfold topsAb
      refine Nat.le_trans (usort_len _) ?_
      rw [List.length_map]
      exact Nat.le_trans (List.length_filter_le ..) h
  unfold lotV
  generalize (if ks = [] then L else topsAb O vs) = a at *
  split
  · exact h1
  · split <;> simp
theorem lots_len {wd : Nat} {rows : List (List Nat)} {sh m : List Nat} {ls : List (List Nat)} (gr : Gr wd rows) (h : IsLots wd rows sh m ls) : ∀ l ∈ ls, l.length ≤ 11 := fun l hl => by
  obtain ⟨i, hi, e⟩ := List.getElem_of_mem hl
  have h1 := h.2 i (by rw [← h.1]; exact hi)
  rw [List.getD_eq_getElem?_getD, List.getElem?_eq_getElem hi] at h1
  have h1 : ls[i] = _ := h1
  rw [← e, h1]
  exact lotV_len gr.okO.n (Nat.le_trans gr.few (by decide))
theorem rT_list {ls : List (List Nat)} {ws : List V} {H : Hp} (h : Paired (fun x v => rT.r x v H) ls ws) : ws = ls.map tx := (pv_map (ρ := rT) (f := tx) fun _ _ => Iff.rfl).mp h
section
variable {P : Program} {w : World} {K : PySem.W.Frag} {mg : Str → Option Value} {base : Heap}
abbrev DFil (K : PySem.W.Frag) (mg : Str → Option Value) : Prop := Dfn K mg "filled" (topS 31) ["table", "shape", "marks"]
theorem cal_fil (D : PD K mg) (D2 : DFil K mg) : C8.Cal P w K mg base 5 "filled" (sp3 rG rT rT Giv fun gr sh m => (rW (rO rT) (IsFilled gr.1 gr.2 sh m)).r ()) [] := by
  have g := D.g
  refine D2.cal scFil (fun vs H Q E ⟨x, y, z, v, u, t, B, e, _⟩ => by rw [e]; rfl) fun f cdv A outer s H vs Q E hr ⟨⟨wd, rows⟩, sh, m, v, u, t, B, e, i, r, r2, r3, ⟨gr, hp, hm⟩, q⟩ => ?_
  subst e
  have hu := hu_of hr
  have hlen := hp.len
  have hrl := gr.n
  have okO := gr.okO
  have hr4 : ∀ r ∈ rows, 0 < r.length ∧ r.length ≤ 4 := Gr.len4 gr
  refine wp_expr i (g_call3 (cal_wm g D.int D.many D.fault D.shape D.marks D.want D.wm) hr (by decide) (gv 0 r) (gv 1 r2) (gv 2 r3) ⟨hp, hm⟩) fun v0 B0 H0 f0 _ => ?_
  refine wp_tup3 3 4 5 (ρ := rW (rL rT) (IsLots wd rows sh m)) (x := ()) f0.i (g_call3 (cal_lots D) hr (by decide) (gv 0 (rG.ex f0.b r)) (gv 1 r2) (gv 2 r3) ⟨gr, hp, hm⟩) (g_call1 (cal_by g D.lot D.of D.by') hr (by decide) (g_snd (gv 0 (rG.ex f0.b r)) g_int) ⟨hrl, hr4⟩) (g_call2 (cal_kid g D.par D.kid) hr (by decide) (g_fst (gv 0 (rG.ex f0.b r)) g_int) (gv 1 r2) hp) (fun vl vo vc B1 H1 f1 rl ro rc => ?_) rfl scFil.nd
  obtain ⟨ls, hls, rl⟩ := rl
  have hll := hls.1
  have F := f0.trans f1
  have l0 : ls[0]? = some (ls.getD 0 []) := getD_at (by rw [hll]; exact hp.pos)
  refine wp_if F.i (t_cmp op_eq (g_ixL (i := 0) (gv 3 rl) g_int l0) g_str rb_eqT) (fun z B2 H2 f2 => ?_) (fun z B2 H2 f2 => ?_)
  · exact wp_ret f2.i (g_non (ρ := rT)) fun v5 B5 H5 f5 r5 => q v5 B5 H5 ((F.trans f2).trans f5) ⟨none, ⟨ls, hls, .inl ⟨of_decide_eq_true z, rfl⟩⟩, r5⟩
  have hne0 : ls.getD 0 [] ≠ [] := of_decide_eq_false z
  refine wp_nil ?_
  have F := F.trans f2
  have rl := (rL rT).ex f2.b rl
  have ro := (rD (rL rT)).ex f2.b ro
  have rc := (rL (rL rN)).ex f2.b rc
  refine wp_setLcM 6 (own := [("lot", 12)]) (jt := 12) (τ := rT) F.i (fun _ => true) (fun l => l.take 1) (gi_list (gv 3 rl)) (by omega) (fun a va B3 ha x3 ra s0 H0 C cl fp => ⟨ts_nil, fun _ => g_slTo (i := 1) (gv 12 ra) g_int (by have := lots_len gr hls a ha; omega)⟩) (fun l ws B3 H3 m3 pr3 => ?_) rfl scFil.nd (by apply blkOk_by; change blkC nmF (defScope (topS 31)) _ _ = true; decide +kernel) (fun _ _ _ _ _ => pg_name (i := 12) scFil.nd rfl (.inl rfl)) (by rfl)
  have ew := rT_list pr3
  subst ew
  rw [filt] at m3
  have rl := (rL rT).ex m3.F.b rl
  have ro := (rD (rL rT)).ex m3.F.b ro
  have rc := (rL (rL rN)).ex m3.F.b rc
  have mm := One.from F m3
  have hklen : (kd wd sh).length = sh.length := hp.klen
  refine wp_for (ρ := rP rN (rL rN)) (xs := (List.range (kd wd sh).length).zip (kd wd sh)) (fun pre σ' Bj Hj => ∃ (a b c d e' : Option V) (fs : List (List Nat)), σ' = [some v, some u, some t, some vl, some vo, some vc, some (.ref l), a, b, c, d, e', none, none] ∧ One B H l (.lst (fs.map tx)) Bj Hj ∧ FInv sh.length (kdf wd sh) (fun q => ls.getD q []) (fun q c => firstO (obys rows) (kidL wd sh ls q) c) pre.length fs) mm.F.i (gi_enumL g.bi.enumerate (gv 5 rc)) (pg_tup rfl (pgs_cons (pg_name (i := 7) scFil.nd rfl (.inl rfl)) (pgs_cons (pg_name (i := 8) scFil.nd rfl (.inr rfl)) pgs_nil))) (fun B4 H4 f4 => ⟨none, none, none, none, none, _, rfl, mm.step f4, ?_⟩) (fun pre a post v' σ' Bj H4 Bb H5 hx x4 x5 ⟨a1, b1, c1, d1, e1, fs, e, mj, inv⟩ f5 r5 => ?_) (fun σ' B4 H4 x1 x2 ⟨a1, b1, c1, d1, e1, fs, e, mj, inv⟩ => ?_) rfl (hgm := gm_pair)
  · have gt : ∀ q, (ls.map fun l => l.take 1).getD q [] = (ls.getD q []).take 1 := fun q => by
      rw [List.getD_eq_getElem?_getD, List.getElem?_map, List.getD_eq_getElem?_getD]
      cases ls[q]? <;> rfl
    refine ⟨by rw [List.length_map]; exact hll, fun q hq hv => ?_, fun p hp => (nomatch hp), gt 0⟩
    rcases hv with e | ⟨p, h, _⟩
    · subst e
      rw [gt]
      cases h : ls.getD 0 [] with
      | nil => exact absurd h hne0
      | cons c r => exact ⟨c, List.mem_cons_self .., rfl⟩
    · cases h
  · subst e
    refine g_pr f5.i r5 fun vx vy rx ry => ?_
    obtain ⟨en1, en2, en3⟩ := enum_at hx
    rw [hklen] at en3
    have ea1 : a.2 = kdf wd sh pre.length := by
      have := getD_at (xs := kd wd sh) (i := pre.length) (d := []) (by omega)
      rw [en2] at this
      exact Option.some.inj this
    rw [ea1] at ry
    rw [en1] at rx
    generalize hpl : pre.length = p at *
    have mb := mj.step f5
    have xb := x4.trans f5.b
    have rl := (rL rT).ex xb rl
    have ro := (rD (rL rT)).ex xb ro
    obtain ⟨hk1, hk2⟩ := hp.kidsL p
    have hfl := inv.len
    refine wp_if f5.i (t_cmp (ρ := rI) op_gt (GE.n (g_lenL g.bi.len (gv 8 ry))) g_int rb_gt) (fun z B6 H6 f6 => ?_) (fun z B6 H6 f6 => ?_)
    · have hne : kdf wd sh p ≠ [] := fun e => by
        rw [e] at z
        cases z
      have hkw : (kdf wd sh p).length = wd := hk2.resolve_left hne
      obtain ⟨c, hca, hfp⟩ := inv.vis p en3 (by
        rcases hp.every p en3 with h | ⟨q, h1, h2⟩
        · exact .inl h
        · exact .inr ⟨q, h1, h2⟩)
      have hca : c ∈ ls.getD p [] := hca
      have hV := hls.2 p en3
      rw [hV] at hca
      obtain ⟨pp, hpp, epp, o0, ho0, hfit0⟩ := lot_inner hne hca okO.nd
      have hlk : lk (obys rows) c = pp.2 := by rw [← epp]; exact lk_mem okO.nd hpp
      have m6 := mb.step f6
      have xu := f6.b.trans m6.up
      have hfi : fs[p]? = some [c] := by
        have := getD_at (xs := fs) (i := p) (d := []) (by omega)
        rw [hfp] at this
        exact this
      have hml := okO.m pp hpp
      have hol : ∀ o ∈ pp.2, o.length = wd := okO.len pp hpp
      have hw3 : wd ≤ 3 := by rcases hp.w23 with h | h <;> omega
      have lkl : look (obys rows) c = some pp.2 := by rw [← epp]; exact look_mem okO.nd hpp
      refine wp_setLcM 10 (own := [("order", 13)]) (jt := 13) (ρ := rT) (τ := rT) (xs := pp.2) m6.fin.i (fun o => fitB o (kidL wd sh ls p)) (fun o => o) (gi_list (g_dget hu (gv 4 ((rD (rL rT)).ex xu ro)) (g_ixL (ρ := rT) (gv 6 (lT.mpr ⟨l, rfl, upd_same⟩)) (gv 7 (ρ := rI) (x := (p : Int)) rx) hfi) lkl)) (by omega) (fun o vo' B7 ho x7 ra s0 H0 C cl fp => ⟨ts_one (t_val ?_), fun _ => gv 13 ra⟩) (fun l2 ws B7 H7 m7 pr7 => ?_) rfl scFil.nd (by apply blkOk_by; change blkC nmF (defScope (topS 31)) _ _ = true; decide +kernel) (fun _ _ _ _ _ => pg_name (i := 13) scFil.nd rfl (.inl rfl)) (by rfl)
      · have hkl : (kidL wd sh ls p).length = wd := by
          unfold kidL
          rw [List.length_map, hkw]
        refine g_call2 (cal_fit g D.fit) hr (by decide) (gv 13 ra) (ge_is (g_lc (ρ := rN) (τ := rT) (own := [("child", 9)]) (j := 9) (fun _ => true) (fun j => ls.getD j []) rfl scFil.nd ?_ (fun _ _ _ _ _ => pg_name (i := 9) scFil.nd rfl (.inl rfl)) (gi_list (gv 8 ((rL rN).ex (xu.trans x7) ry))) (by omega) fun j vj B8 hj x8 rj s1 H1 C1 cl1 fp1 => ⟨ts_nil, fun _ => g_ixL (gv 3 ((rL rT).ex ((xu.trans x7).trans x8) rl)) (gv 9 (ρ := rI) (x := (j : Int)) rj) (getD_at (by have := hk1 j hj; omega))⟩) (by rw [filt])) ⟨by rw [hol o ho, List.length_map, hkw], by rw [hol o ho]; omega⟩
        apply blkOk_by
        change blkC nmF (relabel _ (envOfC "filled" (defScope (topS 31)) 0 0 Value.none)) _ _ = true
        decide +kernel
      · have ew := rT_list pr7
        rw [List.map_id'] at ew
        subst ew
        obtain ⟨ne2, m8, x8⟩ := m6.unAdd m7
        generalize hbel : pp.2.filter (fun o => fitB o (kidL wd sh ls p)) = bel at m7 m8 x8
        have hmem0 : o0 ∈ bel := by rw [← hbel]; exact List.mem_filter.mpr ⟨ho0, hfit0⟩
        obtain ⟨o1, br, hb1⟩ : ∃ o1 br, bel = o1 :: br := by
          cases bel with
          | nil => cases hmem0
          | cons x y => exact ⟨x, y, rfl⟩
        have hm1 : o1 ∈ pp.2 ∧ fitB o1 (kidL wd sh ls p) = true := List.mem_filter.mp (by rw [hbel, hb1]; exact List.mem_cons_self ..)
        have hf1 : firstO (obys rows) (kidL wd sh ls p) c = some o1 := by
          unfold firstO
          rw [hlk, hbel, hb1]
          rfl
        have hl1 : o1.length = (kdf wd sh p).length := by rw [hkw]; exact hol o1 hm1.1
        have rbel : (rL rT).r bel (.ref l2) (upd (del B7 l) l2 (.lst (bel.map tx))) := lT.mpr ⟨l2, rfl, upd_same⟩
        have ry8 := (rL rN).ex (f6.b.trans x8) ry
        refine wp_for (ρ := rP rN rT) (xs := (kdf wd sh p).zip (sg o1)) (fun pre2 σ' Bj Hj => ∃ (c d : Option V), σ' = [some v, some u, some t, some vl, some vo, some vc, some (.ref l), some vx, some vy, c, some (.ref l2), d, none, none] ∧ One B H l (.lst ((setAll fs pre2).map tx)) Bj Hj) m8.F.i (gi_zipLS g.bi.zip (gv 8 ry8) (g_ixL (i := 0) (gv 10 rbel) g_int (by rw [hb1]; rfl)) hl1.symm) (pg_tup rfl (pgs_cons (pg_name (i := 9) scFil.nd rfl (.inl rfl)) (pgs_cons (pg_name (i := 11) scFil.nd rfl (.inl rfl)) pgs_nil))) (fun B9 H9 f9 => ⟨_, _, rfl, m8.step f9⟩) (fun pre2 a2 post2 v2 σ2 Bj2 H9 Bb2 H10 hx2 x9 x10 ⟨c2, d2, e, mj2⟩ f10 r10 => ?_) (fun σ2 B9 H9 y1 y2 ⟨c2, d2, e, mj2⟩ => ?_) rfl (hgm := gm_pair)
        · subst e
          refine g_pr f10.i r10 fun vx2 vy2 rx2 ry2 => ?_
          have ha2 : a2 ∈ (kdf wd sh p).zip (sg o1) := by rw [hx2]; exact List.mem_append_right _ (List.mem_cons_self ..)
          have hj := hk1 a2.1 (List.of_mem_zip ha2).1
          have m10 := mj2.step f10
          refine wp_setix (ρ := rT) (x := a2.2) (n := a2.1) f10.i (gv 11 ry2) (gvv 6) (gv 9 (ρ := rI) (x := (a2.1 : Int)) rx2) m10.h (by rw [List.length_map, setAll_len]; omega) (fun w11 B11 H11 f11 r11 h11 => ?_)
          have r11 : w11 = tx a2.2 := r11
          subst r11
          have m11 := (m10.step f11).put (o' := .lst (((setAll fs pre2).map tx).set a2.1 (tx a2.2))) nf_lst
          refine wp_nil ⟨B11, f11.b, m11.F.i, _, _, rfl, ?_⟩
          rw [setAll_snoc, List.map_set]
          exact m11
        · subst e
          have esg : sg o1 = o1.map fun c => [c] := rfl
          rw [esg] at mj2
          refine wp_nil (wp_nil ⟨B9, (f6.b.trans x8).trans y1, mj2.F.i, _, _, _, _, _, _, rfl, mj2, ?_⟩)
          rw [List.length_append, List.length_singleton, hpl]
          refine inv.inner (fun p => (hp.kidsL p).1) hp.kn (fun p q j h1 h2 => hp.dis h1 h2) hfp hf1 hl1 fun k j d h1 h2 => ?_
          exact fitB_get hm1.2 k (ls.getD j []) d (by unfold kidL; rw [List.getElem?_map, h1]; rfl) h2
    · have he : kdf wd sh p = [] := by
        cases h : kdf wd sh p with
        | nil => rfl
        | cons x y =>
          rw [h] at z
          have z := of_decide_eq_false z
          simp at z
      refine wp_nil (wp_nil ⟨B6, f6.b, (mb.step f6).F.i, _, _, _, _, _, fs, rfl, mb.step f6, ?_⟩)
      rw [List.length_append, List.length_singleton, hpl]
      exact inv.leaf he
  · subst e
    have hxl : ((List.range (kd wd sh).length).zip (kd wd sh)).length = sh.length := by
      rw [List.length_zip, List.length_range, hklen]
      omega
    rw [hxl] at inv
    have h1 : ∀ x ∈ fs, x.length ≤ 1 := fun x hx => by
      obtain ⟨k, hk, e⟩ := List.getElem_of_mem hx
      obtain ⟨c, _, h⟩ := inv.vis k (by rw [← inv.len]; exact hk) (by
        rcases hp.every k (by rw [← inv.len]; exact hk) with h | ⟨q, h1, h2⟩
        · exact .inl h
        · exact .inr ⟨q, by have := inv.len; omega, h2⟩)
      rw [List.getD_eq_getElem?_getD, List.getElem?_eq_getElem hk] at h
      have h : fs[k] = [c] := h
      rw [← e, h]
      exact Nat.le_refl _
    have hfl := flat_len (n := 7) (m := 1) (ls := fs) (by rw [inv.len]; exact hlen) h1
    refine wp_ret mj.fin.i (g_join (ls := fs) (gv 6 (lT.mpr ⟨l, rfl, upd_same⟩)) (by rw [sum_flat]; omega)) fun v5 B5 H5 f5 r5 => q v5 B5 H5 (mj.fin.trans f5) ⟨some fs.flatten, ⟨ls, hls, .inr ⟨hne0, fs, inv, rfl⟩⟩, r5⟩
end
end KD
end
section
set_option Elab.async false
set_option linter.all false
set_option maxRecDepth 100000
set_option maxHeartbeats 4000000
/-! KD10: forced. -/
namespace KD
open PySem PySem.Spec PyProof.Rows L2 KS MS KB
open SX (S)
open MF (abc Mk Sh kd kdf Ob lk OkO Gr labs obys topsAb lotV IsArr IsLots dp_step SInv IsForced belowL sval kidL setAll setAll_snoc setAll_len fitB fitB_get lot_inner lk_mem zip_swap lotV_nd)
abbrev nmFo : List Str := ["table", "shape", "marks", "lots", "orders", "children", "found", "place", "some", "below", "k", "child", "sign", "top", "order", "lot"]
theorem scFor : FnScope nmFo ["table", "shape", "marks"] (defScope (topS 34)) := ⟨rfl, rfl, rfl, by decide +kernel, rfl, by decide +kernel, by decide +kernel⟩
section
variable {P : Program} {w : World} {K : PySem.W.Frag} {mg : Str → Option Value} {base : Heap}
abbrev DFor (K : PySem.W.Frag) (mg : Str → Option Value) : Prop := Dfn K mg "forced" (topS 34) ["table", "shape", "marks"]
theorem cal_for (D : PD K mg) (D2 : DFor K mg) : C8.Cal P w K mg base 5 "forced" (sp3 rG rT rT Giv fun gr sh m => (rW (rO rT) (IsForced gr.1 gr.2 sh m)).r ()) [] := by
  have g := D.g
  refine D2.cal scFor (fun vs H Q E ⟨x, y, z, v, u, t, B, e, _⟩ => by rw [e]; rfl) fun f cdv A outer s H vs Q E hr ⟨⟨wd, rows⟩, sh, m, v, u, t, B, e, i, r, r2, r3, ⟨gr, hp, hm⟩, q⟩ => ?_
  subst e
  have hu := hu_of hr
  have hlen := hp.len
  have hrl := gr.n
  have okO : OkO wd (obys rows) := gr.okO
  have hr4 : ∀ r ∈ rows, 0 < r.length ∧ r.length ≤ 4 := Gr.len4 gr
  refine wp_expr i (g_call3 (cal_wm g D.int D.many D.fault D.shape D.marks D.want D.wm) hr (by decide) (gv 0 r) (gv 1 r2) (gv 2 r3) ⟨hp, hm⟩) fun v0 B0 H0 f0 _ => ?_
  refine wp_tup3 3 4 5 (ρ := rW (rL rT) (IsLots wd rows sh m)) (x := ()) f0.i (g_call3 (cal_lots D) hr (by decide) (gv 0 (rG.ex f0.b r)) (gv 1 r2) (gv 2 r3) ⟨gr, hp, hm⟩) (g_call1 (cal_by g D.lot D.of D.by') hr (by decide) (g_snd (gv 0 (rG.ex f0.b r)) g_int) ⟨hrl, hr4⟩) (g_call2 (cal_kid g D.par D.kid) hr (by decide) (g_fst (gv 0 (rG.ex f0.b r)) g_int) (gv 1 r2) hp) (fun vl vo vc B1 H1 f1 rl ro rc => ?_) rfl scFor.nd
  obtain ⟨ls, hls, rl⟩ := rl
  have hll := hls.1
  have F := f0.trans f1
  have l0 : ls[0]? = some (ls.getD 0 []) := getD_at (by rw [hll]; exact hp.pos)
  refine wp_if F.i (t_cmp op_eq (g_ixL (i := 0) (gv 3 rl) g_int l0) g_str rb_eqT) (fun z B2 H2 f2 => ?_) (fun z B2 H2 f2 => ?_)
  · exact wp_ret f2.i (g_non (ρ := rT)) fun v5 B5 H5 f5 r5 => q v5 B5 H5 ((F.trans f2).trans f5) ⟨none, ⟨ls, hls, .inl ⟨of_decide_eq_true z, rfl⟩⟩, r5⟩
  have hne0 : ls.getD 0 [] ≠ [] := of_decide_eq_false z
  refine wp_nil ?_
  have F := F.trans f2
  have rl := (rL rT).ex f2.b rl
  have ro := (rD (rL rT)).ex f2.b ro
  have rc := (rL (rL rN)).ex f2.b rc
  refine wp_setLcM 6 (own := [("sign", 12)]) (jt := 12) (τ := rT) F.i (fun _ => true) (fun _ => []) (gi_str (gv 1 r2)) (by rw [len_sg]; omega) (fun a va B3 ha x3 ra s0 H0 C cl fp => ⟨ts_nil, fun _ => g_str⟩) (fun l ws B3 H3 m3 pr3 => ?_) rfl scFor.nd (by apply blkOk_by; change blkC nmFo (defScope (topS 34)) _ _ = true; decide +kernel) (fun _ _ _ _ _ => pg_name (i := 12) scFor.nd rfl (.inl rfl)) (by rfl)
  have ew := rT_list pr3
  rw [filt, map_const, len_sg] at ew
  subst ew
  have rl := (rL rT).ex m3.F.b rl
  have ro := (rD (rL rT)).ex m3.F.b ro
  have rc := (rL (rL rN)).ex m3.F.b rc
  have mm := One.from F m3
  refine wp_setix (ρ := rT) (x := ls.getD 0 []) (n := 0) mm.F.i (g_ixL (i := 0) (gv 3 rl) g_int l0) (gvv 6) g_int mm.h (by rw [List.length_map, List.length_replicate]; exact hp.pos) (fun w4 B4 H4 f4 r4 h4 => ?_)
  have r4 : w4 = tx (ls.getD 0 []) := r4
  subst r4
  have mm := (mm.step f4).put (o' := .lst (((List.replicate sh.length []).map tx).set 0 (tx (ls.getD 0 [])))) nf_lst
  rw [← List.map_set] at mm
  have rl := (rL rT).ex f4.b rl
  have ro := (rD (rL rT)).ex f4.b ro
  have rc := (rL (rL rN)).ex f4.b rc
  have hklen : (kd wd sh).length = sh.length := hp.klen
  rw [← List.map_set]
  refine wp_for (ρ := rP rN (rL rN)) (xs := (List.range (kd wd sh).length).zip (kd wd sh)) (fun pre σ' Bj Hj => ∃ (a b c d e' : Option V) (fs : List (List Nat)), σ' = [some v, some u, some t, some vl, some vo, some vc, some (.ref l), a, b, c, d, e', none, none, none, none] ∧ One B H l (.lst (fs.map tx)) Bj Hj ∧ SInv sh.length (kdf wd sh) (fun q => ls.getD q []) (obys rows) (kidL wd sh ls) pre.length fs) mm.F.i (gi_enumL g.bi.enumerate (gv 5 rc)) (pg_tup rfl (pgs_cons (pg_name (i := 7) scFor.nd rfl (.inl rfl)) (pgs_cons (pg_name (i := 8) scFor.nd rfl (.inr rfl)) pgs_nil))) (fun B5 H5 f5 => ⟨none, none, none, none, none, _, rfl, mm.step f5, ?_⟩) (fun pre a post v' σ' Bj H4 Bb H5 hx x4 x5 ⟨a1, b1, c1, d1, e1, fs, e, mj, inv⟩ f5 r5 => ?_) (fun σ' B4 H4 x1 x2 ⟨a1, b1, c1, d1, e1, fs, e, mj, inv⟩ => ?_) rfl (hgm := gm_pair)
  · have g0 : ((List.replicate sh.length ([] : List Nat)).set 0 (ls.getD 0 [])).getD 0 [] = ls.getD 0 [] := by
      rw [MF.getD_set', if_pos ⟨rfl, by rw [List.length_replicate]; exact hp.pos⟩]
    refine ⟨by rw [List.length_set, List.length_replicate], fun q hq hv => ?_, fun p hp => (nomatch hp), g0⟩
    rcases hv with e | ⟨p, h, _⟩
    · subst e
      rw [g0]
      refine ⟨fun c hc => hc, ?_⟩
      rw [hls.2 0 hq]
      exact lotV_nd (asc_nd stoN (asc_usort stoN _))
    · cases h
  · subst e
    refine g_pr f5.i r5 fun vx vy rx ry => ?_
    obtain ⟨en1, en2, en3⟩ := enum_at hx
    rw [hklen] at en3
    have ea1 : a.2 = kdf wd sh pre.length := by
      have := getD_at (xs := kd wd sh) (i := pre.length) (d := []) (by omega)
      rw [en2] at this
      exact Option.some.inj this
    rw [ea1] at ry
    rw [en1] at rx
    generalize hpl : pre.length = p at *
    have mb := mj.step f5
    have xb := x4.trans f5.b
    have rl := (rL rT).ex xb rl
    have ro := (rD (rL rT)).ex xb ro
    obtain ⟨hk1, hk2⟩ := hp.kidsL p
    have hfl := inv.len
    refine wp_if f5.i (t_cmp (ρ := rI) op_gt (GE.n (g_lenL g.bi.len (gv 8 ry))) g_int rb_gt) (fun z B6 H6 f6 => ?_) (fun z B6 H6 f6 => ?_)
    · have hne : kdf wd sh p ≠ [] := fun e => by
        rw [e] at z
        cases z
      have hkw : (kdf wd sh p).length = wd := hk2.resolve_left hne
      obtain ⟨hca, hcn⟩ := inv.vis p en3 (by
        rcases hp.every p en3 with h | ⟨q, h1, h2⟩
        · exact .inl h
        · exact .inr ⟨q, h1, h2⟩)
      have hca : ∀ c ∈ fs.getD p [], c ∈ ls.getD p [] := hca
      have hfp11 : (fs.getD p []).length ≤ 11 := by
        refine Nat.le_trans (hcn.length_le_of_subset hca) (lots_len gr hls _ ?_)
        have := getD_at (xs := ls) (i := p) (d := []) (by omega)
        exact List.mem_of_getElem? this
      have key : ∀ c ∈ fs.getD p [], ∃ pp ∈ obys rows, pp.1 = c ∧ lk (obys rows) c = pp.2 := fun c hc => by
        have h1 := hca c hc
        rw [hls.2 p en3] at h1
        obtain ⟨pp, hpp, epp, _⟩ := lot_inner hne h1 okO.nd
        exact ⟨pp, hpp, epp, by rw [← epp]; exact lk_mem okO.nd hpp⟩
      have m6 := mb.step f6
      have xu := f6.b.trans m6.up
      have hfi : fs[p]? = some (fs.getD p []) := getD_at (by omega)
      have hw3 : wd ≤ 3 := by rcases hp.w23 with h | h <;> omega
      refine wp_setLc2M (own := [("top", 13), ("order", 14)]) (vs1 := [14]) (j := 13) (j1 := 14) (ρ := rT) (τ := rT) (υ := rT) 9 (fun _ b => b) (fun _ _ => true) (m := 300) (xs := sg (fs.getD p [])) (ys := fun a => lk (obys rows) (a.headD 0)) m6.fin.i (gi_str (g_ixL (ρ := rT) (gv 6 (lT.mpr ⟨l, rfl, upd_same⟩)) (gv 7 (ρ := rI) (x := (p : Int)) rx) hfi)) (fun a ha => ?_) (by rw [len_sg]; omega) (fun a va B7 ha x7 ra s0 H0 C cl fp => ?_) (fun a va b vb B7 ha hb x7 ra rb' s0 H0 C cl fp => ⟨ts_nil, fun _ => gv 14 rb'⟩) (fun l2 ws B7 H7 m7 pr7 => ?_) rfl scFor.nd (by apply blkOk_by; change blkC nmFo (defScope (topS 34)) _ _ = true; decide +kernel) (fun _ _ _ _ _ => pg_name (i := 13) scFor.nd rfl (.inl rfl)) (fun _ _ _ _ _ => pg_name (i := 14) scFor.nd rfl (.inl rfl)) (by decide) (by rfl)
      · obtain ⟨c, hc, rfl⟩ := List.mem_map.mp ha
        obtain ⟨pp, hpp, epp, hlk⟩ := key c hc
        show (lk (obys rows) c).length ≤ 300
        rw [hlk]
        exact okO.m pp hpp
      · obtain ⟨c, hc, rfl⟩ := List.mem_map.mp ha
        obtain ⟨pp, hpp, epp, hlk⟩ := key c hc
        show GI _ _ _ _ _ rT (lk (obys rows) c)
        rw [hlk]
        exact gi_list (g_dget hu (gv 4 ((rD (rL rT)).ex (xu.trans x7) ro)) (gv 13 ra) (by rw [← epp]; exact look_mem okO.nd hpp))
      · have ew := rT_list pr7
        have e7 : ((sg (fs.getD p [])).flatMap fun a => ((lk (obys rows) (a.headD 0)).filter fun _ => true).map fun b => b) = (fs.getD p []).flatMap fun c => lk (obys rows) c := by
          unfold sg
          rw [List.flatMap_map]
          congr 1
          funext c
          rw [List.map_id', filt]
          rfl
        rw [e7] at ew
        subst ew
        obtain ⟨ne2, m8, x8⟩ := m6.unAdd m7
        generalize hall : ((fs.getD p []).flatMap fun c => lk (obys rows) c) = all at m7 m8 x8
        have hal : all.length ≤ 3300 := by
          rw [← hall]
          refine Nat.le_trans (MF.flatMap_le (m := 300) fun c hc => ?_) (by omega)
          obtain ⟨pp, hpp, epp, hlk⟩ := key c hc
          rw [hlk]
          exact okO.m pp hpp
        have hol : ∀ o ∈ all, o.length = wd := fun o ho => by
          rw [← hall] at ho
          obtain ⟨c, hc, h⟩ := List.mem_flatMap.mp ho
          obtain ⟨pp, hpp, epp, hlk⟩ := key c hc
          rw [hlk] at h
          exact okO.len pp hpp o h
        have xa := f6.b.trans x8
        refine wp_setLcM 9 (own := [("order", 14)]) (jt := 14) (ρ := rT) (τ := rT) (xs := all) m8.F.i (fun o => fitB o (kidL wd sh ls p)) (fun o => o) (gi_list (gv 9 (lT.mpr ⟨l2, rfl, upd_same⟩))) (by omega) (fun o vo' B9 ho x9 ra s0 H0 C cl fp => ⟨ts_one (t_val ?_), fun _ => gv 14 ra⟩) (fun l3 ws3 B9 H9 m9 pr9 => ?_) rfl scFor.nd (by apply blkOk_by; change blkC nmFo (defScope (topS 34)) _ _ = true; decide +kernel) (fun _ _ _ _ _ => pg_name (i := 14) scFor.nd rfl (.inl rfl)) (by rfl)
        · refine g_call2 (cal_fit g D.fit) hr (by decide) (gv 14 ra) (ge_is (g_lc (ρ := rN) (τ := rT) (own := [("child", 11)]) (j := 11) (fun _ => true) (fun j => ls.getD j []) rfl scFor.nd ?_ (fun _ _ _ _ _ => pg_name (i := 11) scFor.nd rfl (.inl rfl)) (gi_list (gv 8 ((rL rN).ex (xa.trans x9) ry))) (by omega) fun j vj B10 hj x10 rj s1 H1 C1 cl1 fp1 => ⟨ts_nil, fun _ => g_ixL (gv 3 ((rL rT).ex ((xa.trans x9).trans x10) rl)) (gv 11 (ρ := rI) (x := (j : Int)) rj) (getD_at (by have := hk1 j hj; omega))⟩) (by rw [filt])) ⟨by rw [hol o ho, List.length_map, hkw], by rw [hol o ho]; omega⟩
          apply blkOk_by
          change blkC nmFo (relabel _ (envOfC "forced" (defScope (topS 34)) 0 0 Value.none)) _ _ = true
          decide +kernel
        · have ew := rT_list pr9
          rw [List.map_id'] at ew
          subst ew
          obtain ⟨ne3, m10, x10⟩ := m8.addO m9
          have hbel : all.filter (fun o => fitB o (kidL wd sh ls p)) = belowL (obys rows) (kidL wd sh ls p) (fs.getD p []) := by
            unfold belowL
            rw [hall]
          rw [hbel] at m10 x10
          have hbl : ∀ o ∈ belowL (obys rows) (kidL wd sh ls p) (fs.getD p []), o ∈ all ∧ fitB o (kidL wd sh ls p) = true := fun o ho => by
            rw [← hbel] at ho
            exact List.mem_filter.mp ho
          have hbn : (belowL (obys rows) (kidL wd sh ls p) (fs.getD p [])).length ≤ 3300 := by
            rw [← hbel]
            exact Nat.le_trans (List.length_filter_le ..) hal
          have hsv : ∀ k, sval (obys rows) (kidL wd sh ls p) (fs.getD p []) k = usort ltN ((belowL (obys rows) (kidL wd sh ls p) (fs.getD p [])).map fun o => o.getD k 0) := fun k => rfl
          generalize hbb : belowL (obys rows) (kidL wd sh ls p) (fs.getD p []) = bel at *
          have ry10 := (rL rN).ex (xa.trans x10) ry
          have rbel : (rL rT).r bel (.ref l3) (upd B9 l3 (.lst (bel.map tx))) := lT.mpr ⟨l3, rfl, upd_same⟩
          refine wp_for (ρ := rP rN rN) (xs := (List.range (kdf wd sh p).length).zip (kdf wd sh p)) (fun pre2 σ' Bj Hj => ∃ (c d : Option V), σ' = [some v, some u, some t, some vl, some vo, some vc, some (.ref l), some vx, some vy, some (.ref l3), c, d, none, none, none, none] ∧ One B H l (.lst ((setAll fs (pre2.map fun x => (x.2, sval (obys rows) (kidL wd sh ls p) (fs.getD p []) x.1))).map tx)) Bj Hj) m10.F.i (gi_enumL g.bi.enumerate (gv 8 ry10)) (pg_tup rfl (pgs_cons (pg_name (i := 10) scFor.nd rfl (.inr rfl)) (pgs_cons (pg_name (i := 11) scFor.nd rfl (.inl rfl)) pgs_nil))) (fun B11 H11 f11 => ⟨_, _, rfl, m10.step f11⟩) (fun pre2 a2 post2 v2 σ2 Bj2 H11 Bb2 H12 hx2 x11 x12 ⟨c2, d2, e, mj2⟩ f12 r12 => ?_) (fun σ2 B11 H11 y1 y2 ⟨c2, d2, e, mj2⟩ => ?_) rfl (hgm := gm_pair)
          · subst e
            refine g_pr f12.i r12 fun vx2 vy2 rx2 ry2 => ?_
            have ha2 : a2 ∈ (List.range (kdf wd sh p).length).zip (kdf wd sh p) := by rw [hx2]; exact List.mem_append_right _ (List.mem_cons_self ..)
            have hj := hk1 a2.2 (List.of_mem_zip ha2).2
            have hkk : a2.1 < wd := by
              have := (List.of_mem_zip ha2).1
              rw [List.mem_range] at this
              omega
            have m12 := mj2.step f12
            refine wp_setix (ρ := rT) (x := sval (obys rows) (kidL wd sh ls p) (fs.getD p []) a2.1) (n := a2.2) f12.i (g_call1 (ρ := rL rT) (x := sg (bel.map fun o => o.getD a2.1 0)) (cal_lotL g D.lot) hr (by decide) (ge_is (g_lc (ρ := rT) (τ := rT) (own := [("order", 14)]) (j := 14) (fun _ => true) (fun o => [o.getD a2.1 0]) rfl scFor.nd (by apply blkOk_by; change blkC nmFo (defScope (topS 34)) _ _ = true; decide +kernel) (fun _ _ _ _ _ => pg_name (i := 14) scFor.nd rfl (.inl rfl)) (gi_list (gv 9 ((rL rT).ex (x11.trans f12.b) rbel))) (by omega) fun o vo' B13 ho x13 ra s1 H1 C1 cl1 fp1 => ⟨ts_nil, fun _ => g_ixS (gv 14 ra) (gv 10 (ρ := rI) (x := (a2.1 : Int)) rx2) (getD_at (by rw [hol o (hbl o ho).1]; exact hkk)) (by rw [hol o (hbl o ho).1]; omega)⟩) (by rw [filt]; unfold sg; rw [List.map_map]; rfl)) ⟨by rw [len_sg, List.length_map]; omega, _, rfl⟩ (hT := fun v H h => by rw [hsv]; rw [flat_sg] at h; exact h)) (gvv 6) (gv 11 (ρ := rI) (x := (a2.2 : Int)) ry2) m12.h (by rw [List.length_map, setAll_len]; omega) (fun w13 B13 H13 f13 r13 h13 => ?_)
            have r13 : w13 = tx _ := r13
            subst r13
            have m13 := (m12.step f13).put (o' := .lst (((setAll fs (pre2.map fun x => (x.2, sval (obys rows) (kidL wd sh ls p) (fs.getD p []) x.1))).map tx).set a2.2 (tx (sval (obys rows) (kidL wd sh ls p) (fs.getD p []) a2.1)))) nf_lst
            refine wp_nil ⟨B13, f13.b, m13.F.i, _, _, rfl, ?_⟩
            rw [List.map_append, List.map_singleton, setAll_snoc, List.map_set]
            exact m13
          · subst e
            rw [zip_swap (fun k => sval (obys rows) (kidL wd sh ls p) (fs.getD p []) k)] at mj2
            refine wp_nil (wp_nil ⟨B11, (xa.trans x10).trans y1, mj2.F.i, _, _, _, _, _, _, rfl, mj2, ?_⟩)
            rw [List.length_append, List.length_singleton, hpl]
            refine inv.inner (fun p => (hp.kidsL p).1) hp.kn (fun p q j h1 h2 => hp.dis h1 h2) fun k j h1 c hc => ?_
            rw [hsv] at hc
            obtain ⟨o, ho, e⟩ := List.mem_map.mp ((mem_usort stoN).mp hc)
            obtain ⟨h2, h3⟩ := hbl o ho
            have hkl : k < (kdf wd sh p).length := (List.getElem?_eq_some_iff.mp h1).1
            refine fitB_get h3 k (ls.getD j []) c (by unfold kidL; rw [List.getElem?_map, h1]; rfl) ?_
            rw [← e]
            exact getD_at (by rw [hol o h2]; omega)
    · have he : kdf wd sh p = [] := by
        cases h : kdf wd sh p with
        | nil => rfl
        | cons x y =>
          rw [h] at z
          have z := of_decide_eq_false z
          simp at z
      refine wp_nil (wp_nil ⟨B6, f6.b, (mb.step f6).F.i, _, _, _, _, _, fs, rfl, mb.step f6, ?_⟩)
      rw [List.length_append, List.length_singleton, hpl]
      exact inv.leaf he
  · subst e
    have hxl : ((List.range (kd wd sh).length).zip (kd wd sh)).length = sh.length := by
      rw [List.length_zip, List.length_range, hklen]
      omega
    rw [hxl] at inv
    have h11 : ∀ x ∈ fs, x.length ≤ 11 := fun x hx => by
      obtain ⟨k, hk, e⟩ := List.getElem_of_mem hx
      have hk' : k < sh.length := by rw [← inv.len]; exact hk
      obtain ⟨h1, h2⟩ := inv.vis k hk' (by
        rcases hp.every k hk' with h | ⟨q, h1, h2⟩
        · exact .inl h
        · exact .inr ⟨q, by omega, h2⟩)
      have hgk : fs.getD k [] = x := by
        rw [List.getD_eq_getElem?_getD, List.getElem?_eq_getElem hk]
        exact e
      rw [hgk] at h1 h2
      refine Nat.le_trans (h2.length_le_of_subset h1) (lots_len gr hls _ ?_)
      exact List.mem_of_getElem? (getD_at (xs := ls) (i := k) (d := []) (by omega))
    have h1 : ∀ x ∈ (fs.map fun l => if l.length = 1 then l else [63]), x.length ≤ 1 := fun x hx => by
      obtain ⟨y, _, rfl⟩ := List.mem_map.mp hx
      split
      · omega
      · exact Nat.le_refl _
    have hfl := flat_len (n := 7) (m := 1) (ls := fs.map fun l => if l.length = 1 then l else [63]) (by rw [List.length_map, inv.len]; exact hlen) h1
    have hfl7 := inv.len
    refine wp_ret mj.fin.i (g_join (ls := fs.map fun (l : List Nat) => if l.length = 1 then l else [63]) (ge_is (g_lc (ρ := rT) (τ := rT) (own := [("lot", 15)]) (j := 15) (fun _ => true) (fun (l : List Nat) => if l.length = 1 then l else [63]) rfl scFor.nd (by apply blkOk_by; change blkC nmFo (defScope (topS 34)) _ _ = true; decide +kernel) (fun _ _ _ _ _ => pg_name (i := 15) scFor.nd rfl (.inl rfl)) (gi_list (gv 6 (lT.mpr ⟨l, rfl, upd_same⟩))) (by omega) fun x vx B6 hx x6 rx s1 H1 C1 cl1 fp1 => ⟨ts_nil, fun _ => g_if (t_cmp (ρ := rI) op_eq (GE.n (g_lenS g.bi.len (gv 15 rx) (by have := h11 x hx; omega))) g_int rb_eqI) (fun z => ge_is (gv 15 rx) (if_pos (by have := of_decide_eq_true z; omega)).symm) (fun z => ge_is (g_gc (P := rT.r [63]) (fun _ => rfl) g.untold) (if_neg (by have := of_decide_eq_false z; omega)).symm)⟩) (by rw [filt])) (by rw [sum_flat]; omega)) fun v5 B5 H5 f5 r5 => q v5 B5 H5 (mj.fin.trans f5) ⟨some _, ⟨ls, hls, .inr ⟨hne0, fs, inv, rfl⟩⟩, r5⟩
end
end KD
end
section
set_option Elab.async false
set_option linter.all false
set_option maxRecDepth 100000
set_option maxHeartbeats 4000000
/-! KD11: ways_below, count_filled. -/
namespace KD
open PySem PySem.Spec PyProof.Rows L2 KS MS KB
open SX (S)
open MF (abc Mk Sh kd kdf Ob lk OkO Gr labs obys lk_mem IsArr dp_step Dn lko lkn prw wfold wfold_snoc wfold_all blst Bd cntB cntV IsCnts cntB_bd cntV_bd)
theorem scWays : FnScope ["order", "counts", "some", "found", "child", "label"] ["order", "counts", "some"] (defScope (topS 32)) := ⟨rfl, rfl, rfl, by decide +kernel, rfl, by decide +kernel, by decide +kernel⟩
abbrev nmCo : List Str := ["table", "shape", "marks", "orders", "children", "counts", "place", "some", "label", "sign", "top", "one"]
theorem scCnt : FnScope nmCo ["table", "shape", "marks"] (defScope (topS 33)) := ⟨rfl, rfl, rfl, by decide +kernel, rfl, by decide +kernel, by decide +kernel⟩
theorem p_set {α : Type} {F : α → V → Prop} {x : α} {w : V} (hf : F x w) : ∀ {xs : List α} {ws : List V} (n : Nat), Paired F xs ws → Paired F (xs.set n x) (ws.set n w)
  | _, _, _, .nil => .nil
  | _, _, 0, .cons r t => .cons hf t
  | _, _, n + 1, .cons r t => .cons r (p_set hf n t)
theorem ge_lN {X : Cx} {e : Expr} {σ : L2.St} {B : Hp} {xs : List Nat} (h : GE X e σ B ((rL rN).r xs)) : GE X e σ B ((rL rI).r (xs.map fun (n : Nat) => (n : Int))) := h.imp fun v B1 _ r => by
  obtain ⟨a, e, h⟩ := lNn.mp r
  exact lI.mpr ⟨a, e, by rw [h, List.map_map]; rfl⟩
theorem sum_cast : ∀ xs : List Nat, (xs.map fun (n : Nat) => (n : Int)).sum = ((xs.sum : Nat) : Int)
  | [] => rfl
  | x :: xs => by rw [List.map_cons, List.sum_cons, List.sum_cons, sum_cast xs]; rfl
theorem nodl {ws : List V} : ¬ (rD rN).ok (.obj (.lst ws)) := fun h => by
  rcases h with h | ⟨_, e, _⟩
  · exact h
  · cases e
theorem look_lko (d : Dn) (c : Nat) : look d c = lko d c := rfl
section
variable {P : Program} {w : World} {K : PySem.W.Frag} {mg : Str → Option Value} {base : Heap}
abbrev DWays (K : PySem.W.Frag) (mg : Str → Option Value) : Prop := Dfn K mg "ways_below" (topS 32) ["order", "counts", "some"]
abbrev DCnt (K : PySem.W.Frag) (mg : Str → Option Value) : Prop := Dfn K mg "count_filled" (topS 33) ["table", "shape", "marks"]
theorem cal_ways (g : GC K mg) (D : DWays K mg) : C8.Cal P w K mg base 1 "ways_below" (sp3 rT (rL (rD rN)) (rL rN) (fun o cs ks => o.length = ks.length ∧ ks.length ≤ 100 ∧ ∀ j ∈ ks, j < cs.length ∧ Bd (cs.getD j []) 27000000) fun o cs ks => rN.r (prw (ks.map fun j => cs.getD j []) o)) [] := by
  refine D.cal scWays (fun vs H Q E ⟨x, y, z, v, u, t, B, e, _⟩ => by rw [e]; rfl) fun f cdv A outer s H vs Q E hr ⟨o, cs, ks, v, u, t, B, e, i, r, r2, r3, ⟨h1, h2, h3⟩, q⟩ => ?_
  subst e
  have hu := hu_of hr
  refine wp_set 3 i g_int (fun v4 B1 H1 f1 r4 => ?_) scWays.nd
  cases r4
  refine wp_for (ρ := rP rN rT) (xs := ks.zip (sg o)) (fun pre σ' Bj Hj => ∃ (a b : Option V), σ' = [some v, some u, some t, some (nI (wfold cs pre)), a, b] ∧ KB.Fr B H Bj Hj) f1.i (gi_zipLS g.bi.zip (gv 2 ((rL rN).ex f1.b r3)) (gv 0 r) h1.symm) (pg_tup rfl (pgs_cons (pg_name (i := 4) scWays.nd rfl (.inl rfl)) (pgs_cons (pg_name (i := 5) scWays.nd rfl (.inl rfl)) pgs_nil))) (fun B2 H2 f2 => ⟨none, none, rfl, f1.trans f2⟩) (fun pre a post v' σ' Bj H2 Bb H3 hx x2 x3 ⟨a1, b1, e, F⟩ f3 r3' => ?_) (fun σ' B2 H2 x1 x2 ⟨a1, b1, e, F⟩ => ?_) rfl (hgm := gm_pair)
  · subst e
    refine g_pr f3.i r3' fun vx vy rx ry => ?_
    have ha : a ∈ ks.zip (sg o) := by rw [hx]; exact List.mem_append_right _ (List.mem_cons_self ..)
    obtain ⟨hj1, hj2⟩ := h3 a.1 (List.of_mem_zip ha).1
    obtain ⟨c, hc, ec⟩ := List.mem_map.mp (List.of_mem_zip ha).2
    rw [← ec] at ry
    have F := F.trans f3
    have hb := Bd.lkn hj2 (c := c)
    refine wp_set 3 F.i (ge_nat (g_mul (i := ((wfold cs pre : Nat) : Int)) (j := ((lkn (cs.getD a.1 []) c : Nat) : Int)) (gv 3 (ρ := rI) rfl) (GE.n (g_dget2 (ρ := rN) (x := 0) hu (g_ixL (gv 1 ((rL (rD rN)).ex F.b r2)) (gv 4 (ρ := rI) (x := (a.1 : Int)) rx) (getD_at hj1)) (gv 5 ry) (ge_nat g_int rfl))) (.inr ⟨by omega, by omega⟩)) (n := wfold cs (pre ++ [a])) ?_) (fun v4 B4 H4 f4 r4 => ?_) scWays.nd
    · rw [wfold_snoc, ← ec]
      exact (Int.natCast_mul _ _).symm
    · have r4 : v4 = nI (wfold cs (pre ++ [a])) := r4
      subst r4
      exact wp_nil ⟨B4, f4.b, f4.i, _, _, rfl, F.trans f4⟩
  · subst e
    have ew : wfold cs (ks.zip (sg o)) = prw (ks.map fun j => cs.getD j []) o := wfold_all h1
    rw [ew]
    exact wp_ret F.i (gv 3 (ρ := rN) rfl) fun v5 B5 H5 f5 r5 => q v5 B5 H5 (F.trans f5) r5
theorem cal_cnt (D : PD K mg) (D1 : DWays K mg) (D2 : DCnt K mg) : C8.Cal P w K mg base 5 "count_filled" (sp3 rG rT rT Giv fun gr sh m => (rW rN (fun n => ∃ cs, IsCnts gr.1 gr.2 sh m cs ∧ n = ((cs.getD 0 []).map (·.2)).sum)).r ()) [] := by
  have g := D.g
  refine D2.cal scCnt (fun vs H Q E ⟨x, y, z, v, u, t, B, e, _⟩ => by rw [e]; rfl) fun f cdv A outer s H vs Q E hr ⟨⟨wd, rows⟩, sh, m, v, u, t, B, e, i, r, r2, r3, ⟨gr, hp, hm⟩, q⟩ => ?_
  subst e
  have hu := hu_of hr
  have hlen := hp.len
  have hrl : rows.length ≤ 11 := gr.n
  have hml := hm.1
  have okO : OkO wd (obys rows) := gr.okO
  have hr4 : ∀ r ∈ rows, 0 < r.length ∧ r.length ≤ 4 := Gr.len4 gr
  have hfew : (labs rows).length ≤ 3 := gr.few
  refine wp_expr i (g_call3 (cal_wm g D.int D.many D.fault D.shape D.marks D.want D.wm) hr (by decide) (gv 0 r) (gv 1 r2) (gv 2 r3) ⟨hp, hm⟩) fun v0 B0 H0 f0 _ => ?_
  refine wp_pair 3 4 f0.i (g_pair (g_call1 (cal_by g D.lot D.of D.by') hr (by decide) (g_snd (gv 0 (rG.ex f0.b r)) g_int) ⟨hrl, hr4⟩) (g_call2 (cal_kid g D.par D.kid) hr (by decide) (g_fst (gv 0 (rG.ex f0.b r)) g_int) (gv 1 r2) hp)) (fun vo vc B1 H1 f1 ro rc => ?_) rfl scCnt.nd
  have F := f0.trans f1
  refine wp_setLcN 5 (own := [("sign", 9)]) (jt := 9) (ρ := rT) (τ := rD rN) F.i (fun _ => true) (fun _ => (labs rows).map fun c => (c, 1)) (gi_str (gv 1 r2)) (by rw [len_sg]; omega) (fun a va B2 ha x2 ra s0 H0 C cl fp => ⟨ts_nil, fun _ => ge_is (g_dc (ρ := rT) (τ := rN) (own := [("label", 8)]) (j := 8) (xs := sg (labs rows)) (fun l => l.headD 0) (fun _ => 1) rfl scCnt.nd (by apply blkOk_by; change blkC nmCo (relabel _ (envOfC "count_filled" (defScope (topS 33)) 0 0 Value.none)) _ _ = true; decide +kernel) (fun _ _ _ _ _ => pg_name (i := 8) scCnt.nd rfl (.inl rfl)) (gi_str (g_call1 (cal_lab g D.lot D.lab) hr (by decide) (gv 0 (rG.ex (F.b.trans x2) r)) ⟨hrl, fun l hl => (hr4 l hl).2⟩)) (by rw [len_sg]; omega) (by unfold sg; rw [List.map_map]; exact (List.map_id (labs rows)).symm ▸ asc_nd stoN (asc_usort stoN _)) fun l vl' B3 hl x3 rl' s1 H1 C1 cl1 fp1 => ?_) ?_⟩) (fun l ws B2 H2 m2 pr2 => ?_) rfl scCnt.nd (by apply blkOk_by; change blkC nmCo (defScope (topS 33)) _ _ = true; decide +kernel) (fun _ _ _ _ _ => pg_name (i := 9) scCnt.nd rfl (.inl rfl))
  · obtain ⟨c, hc, rfl⟩ := List.mem_map.mp hl
    exact ⟨gv 8 rl', ge_nat g_int rfl⟩
  · unfold sg
    rw [List.map_map]
    rfl
  rw [filt, map_const, len_sg] at pr2
  have ro := (rD (rL rT)).ex (m2.F.b) ro
  have rc := (rL (rL rN)).ex (m2.F.b) rc
  have mm := One.from F m2
  have hVd : ∀ q (vs : List Dn), cntV (obys rows) (labs rows) (m.getD q 0) (kdf wd sh q) vs = cntV (obys rows) (labs rows) (m.getD q 0) (kdf wd sh q) vs := fun _ _ => rfl
  refine wp_for (ρ := rN) (xs := (List.range sh.length).reverse) (fun pre σ' Bj Hj => ∃ (a b : Option V) (cs : List Dn) (ws : List V), σ' = [some v, some u, some t, some vo, some vc, some (.ref l), a, b, none, none, none, none] ∧ One B H l (.lst ws) Bj Hj ∧ Paired (fun x v => (rD rN).r x v Bj) cs ws ∧ cs.length = sh.length ∧ (∀ q, q < sh.length → Bd (cs.getD q []) ((blst wd sh).getD q 1)) ∧ (∀ q, sh.length - pre.length ≤ q → q < sh.length → cs.getD q [] = cntV (obys rows) (labs rows) (m.getD q 0) (kdf wd sh q) ((kdf wd sh q).map fun j => cs.getD j [])) ∧ ∀ q, q < sh.length - pre.length → cs.getD q [] = (labs rows).map fun c => (c, 1)) mm.F.i (gi_down g.bi.range (g_sub (GE.n (g_lenS g.bi.len (gv 1 (ρ := rT) r2) (by omega))) g_int) (g_neg g_int) (g_neg g_int) (by omega)) (pg_name (i := 6) scCnt.nd rfl (.inl rfl)) (fun B3 H3 f3 => ⟨none, none, _, ws, rfl, mm.step f3, pmap pr2 fun x v r => (rD rN).ex f3.b r, List.length_replicate, fun q hq => ?_, fun q h1 h2 => ?_, fun q h1 => getD_rep (by omega)⟩) (fun pre a post v' σ' Bj H3 Bb H4 hx x2 x3 ⟨a1, b1, cs, ws1, e, mj, prj, hls, hbd, hd, hu'⟩ f3 r3' => ?_) (fun σ' B3 H3 x1 x2 ⟨a1, b1, cs, ws1, e, mj, prj, hls, hbd, hd, hu'⟩ => ?_) rfl (hgm := gm_name)
  · rw [getD_rep hq]
    intro p hp'
    obtain ⟨c, _, rfl⟩ := List.mem_map.mp hp'
    exact (hp.bl q hq).2.1
  · rw [List.length_nil] at h1
    omega
  · subst e
    obtain ⟨ea, hpl⟩ := down_at hx
    have hap : a < sh.length := by omega
    have mb := mj.step f3
    have prb := pmap prj fun x v r => (rD rN).ex f3.b r
    have xb := x2.trans f3.b
    have rob := (rD (rL rT)).ex xb ro
    have rcb := (rL (rL rN)).ex xb rc
    have hki : (kd wd sh)[a]? = some (kdf wd sh a) := getD_at (by rw [hp.klen]; exact hap)
    obtain ⟨hk1, hk2⟩ := hp.kidsL a
    have hkl : (kdf wd sh a).length ≤ 3 := by
      rcases hk2 with h | h
      · rw [h]; simp
      · rw [h]; rcases hp.w23 with h | h <;> omega
    have hLa : cs.getD a [] = (labs rows).map fun c => (c, 1) := hu' a (by omega)
    have hkb : ∀ j ∈ kdf wd sh a, j < cs.length ∧ Bd (cs.getD j []) 27000000 := fun j hj => by
      have h1 := (hk1 j hj).2
      refine ⟨by omega, fun p hp' => ?_⟩
      have h2 := hbd j h1 p hp'
      exact Nat.le_trans h2 (hp.bl j h1).2.2
    have hwl : ws1.length = cs.length := (Paired.length prb).symm
    refine wp_set 7 f3.i (g_ixL (gv 4 rcb) (gv 6 (ρ := rI) (x := (a : Int)) r3') hki) (fun vk B5 H5 f5 rk => ?_) scCnt.nd (hx := .inr rfl)
    have m5 := mb.step f5
    have pr5 := pmap prb fun x v r => (rD rN).ex f5.b r
    have x5 := f5.b
    have rob := (rD (rL rT)).ex f5.b rob
    refine wp_cut (fun σ2 H6 => ∃ B6 ws2, σ2 = [some v, some u, some t, some vo, some vc, some (.ref l), some v', some vk, none, none, none, none] ∧ Ex Bb B6 ∧ One B H l (.lst ws2) B6 H6 ∧ Paired (fun x v => (rD rN).r x v B6) (cs.set a (cntB (obys rows) (labs rows) (kdf wd sh a) ((kdf wd sh a).map fun j => cs.getD j []))) ws2) ?_ ?_
    · refine ws_if m5.F.i (t_cmp (ρ := rI) op_gt (GE.n (g_lenL g.bi.len (gv 7 rk))) g_int rb_gt) (fun z B6 H6 f6 => ?_) (fun z B6 H6 f6 => ?_)
      · have hne : kdf wd sh a ≠ [] := fun e => by
          rw [e] at z
          cases z
        have hkw : (kdf wd sh a).length = wd := hk2.resolve_left hne
        have m6 := m5.step f6
        have pr6 := pmap pr5 fun x v r => (rD rN).ex (f6.b.trans m6.up) r
        have ro6 := (rD (rL rT)).ex (f6.b.trans m6.up) rob
        have rk6 := (rL rN).ex (f6.b.trans m6.up) rk
        have hn11 := okO.n
        have heq : ((obys rows).map fun p => [p.1]).map (fun l => (l.headD 0, ((lk (obys rows) (l.headD 0)).map fun o => prw ((kdf wd sh a).map fun j => cs.getD j []) o).sum)) = cntB (obys rows) (labs rows) (kdf wd sh a) ((kdf wd sh a).map fun j => cs.getD j []) := by
          unfold cntB
          rw [if_neg hne, List.map_map]
          refine List.map_congr_left fun p hp' => ?_
          show (p.1, ((lk (obys rows) p.1).map fun o => prw _ o).sum) = _
          rw [lk_mem okO.nd hp']
        refine wp_setix (ρ := rD rN) (x := cntB (obys rows) (labs rows) (kdf wd sh a) ((kdf wd sh a).map fun j => cs.getD j [])) (n := a) m6.fin.i (g_lock (ρ := rD rN) ro6 fun d2 kvs o B7 e1 h1 pr lk2 => ?_) (gvv 5) (gv 6 (ρ := rI) (x := (a : Int)) r3') m6.h (by omega) (fun w7 B7 H7 f7 r7 h7 => ?_)
        · subst e1
          have rcs : (rL (rD rN)).r cs (.ref l) (upd B6 l (.lst ws1)) := ⟨l, ws1, rfl, upd_same, pr6⟩
          refine ge_is (g_dc (ρ := rT) (τ := rN) (own := [("top", 10), ("one", 11)]) (j := 10) (fun l => l.headD 0) (fun l => ((lk (obys rows) (l.headD 0)).map fun o => prw ((kdf wd sh a).map fun j => cs.getD j []) o).sum) rfl scCnt.nd (by apply blkOk_by; change blkC nmCo (defScope (topS 33)) _ _ = true; decide +kernel) (fun _ _ _ _ _ => pg_name (i := 10) scCnt.nd rfl (.inl rfl)) (gi_keysF (ok := fun v x => (rL rT).r x.2 v B7) (gvv 3) h1 pr) (by rw [List.length_map]; omega) (by rw [List.map_map]; exact okO.nd) fun k vk' B8 hk x8 rk' s0 H0 C cl fp => ?_) heq
          obtain ⟨p, hp', rfl⟩ := List.mem_map.mp hk
          refine ⟨gv 10 rk', ?_⟩
          show GE _ _ _ _ (rN.r ((lk (obys rows) p.1).map fun o => prw ((kdf wd sh a).map fun j => cs.getD j []) o).sum)
          rw [lk_mem okO.nd hp']
          have hpm := okO.m p hp'
          have hpl' := okO.len p hp'
          refine ge_nat (g_sum rfl g.bi.sum (ge_lN (g_lc (ρ := rT) (τ := rN) (own := [("one", 11)]) (j := 11) (fun _ => true) (fun o => prw ((kdf wd sh a).map fun j => cs.getD j []) o) rfl scCnt.nd ?_ (fun _ _ _ _ _ => pg_name (i := 11) scCnt.nd rfl (.inl rfl)) (gi_list (g_dget hu (gv 3 ((rD (rL rT)).ex x8 (lk2 (rD (rL rT)) ro6))) (gv 10 rk') (look_mem okO.nd hp'))) (by omega) fun o vo' B9 ho x9 ro9 s1 H1 C1 cl1 fp1 => ⟨ts_nil, fun _ => ?_⟩))) ?_
          · apply blkOk_by
            change blkC nmCo (relabel _ (envOfC "count_filled" (defScope (topS 33)) 0 0 Value.none)) _ _ = true
            decide +kernel
          · exact g_call3 (cal_ways g D1) hr (by decide) (gv 11 ro9) (gv 5 ((rL (rD rN)).ex (x8.trans x9) (lk2 (rL (rD rN)) rcs))) (gv 7 ((rL rN).ex (x8.trans x9) (lk2 (rL rN) rk6))) ⟨by rw [hpl' o ho, hkw], by omega, hkb⟩
          · rw [sum_cast, filt]
        · have m7 := m6.un f7
          have rw7 : (rD rN).r (cntB (obys rows) (labs rows) (kdf wd sh a) ((kdf wd sh a).map fun j => cs.getD j [])) w7 (del B7 l) := (rD rN).dl (f7.b.lst upd_same) trivial nf_lst nodl r7
          refine wp_nil ⟨del B7 l, ws1.set a w7, rfl, x5.trans (f6.b.trans (f7.un m6.b).b), m7.put nf_lst, p_set rw7 a (pmap pr5 fun x v r => (rD rN).ex (f6.b.trans (f7.un m6.b).b) r)⟩
      · have he : kdf wd sh a = [] := by
          cases h : kdf wd sh a with
          | nil => rfl
          | cons x y =>
            rw [h] at z
            have z := of_decide_eq_false z
            simp at z
        refine wp_nil ⟨B6, ws1, rfl, x5.trans f6.b, m5.step f6, ?_⟩
        unfold cntB
        rw [if_pos he, set_self' hLa (by omega)]
        exact pmap pr5 fun x v r => (rD rN).ex f6.b r
    · rintro σ2 H6 ⟨B6, ws2, rfl, x6, m6, pr6⟩
      have hbb := cntB_bd (L := labs rows) hp okO hap fun j hj => hbd j (hk1 j hj).2
      have hmi : m[a]? = some (m.getD a 0) := getD_at (by omega)
      have hwl2 : ws2.length = cs.length := by rw [← Paired.length pr6, List.length_set]
      have fin : ∀ (B7 H7 : Hp) (x : Dn) (ws3 : List V), Ex Bb B7 → One B H l (.lst ws3) B7 H7 → Paired (fun x v => (rD rN).r x v B7) (cs.set a x) ws3 → x = cntV (obys rows) (labs rows) (m.getD a 0) (kdf wd sh a) ((kdf wd sh a).map fun j => cs.getD j []) → ∃ B3, Ex Bb B3 ∧ Ex B3 H7 ∧ ∃ (a' b' : Option V) (cs' : List Dn) (ws' : List V), [some v, some u, some t, some vo, some vc, some (.ref l), some v', some vk, none, none, none, none] = [some v, some u, some t, some vo, some vc, some (.ref l), a', b', none, none, none, none] ∧ One B H l (.lst ws') B3 H7 ∧ Paired (fun x v => (rD rN).r x v B3) cs' ws' ∧ cs'.length = sh.length ∧ (∀ q, q < sh.length → Bd (cs'.getD q []) ((blst wd sh).getD q 1)) ∧ (∀ q, sh.length - (pre ++ [a]).length ≤ q → q < sh.length → cs'.getD q [] = cntV (obys rows) (labs rows) (m.getD q 0) (kdf wd sh q) ((kdf wd sh q).map fun j => cs'.getD j [])) ∧ ∀ q, q < sh.length - (pre ++ [a]).length → cs'.getD q [] = (labs rows).map fun c => (c, 1) := fun B7 H7 x ws3 x7 m7 pr7 hxv => by
        have gd : ∀ q, (cs.set a x).getD q [] = if a = q ∧ a < cs.length then x else cs.getD q [] := fun q => by
          rw [List.getD_eq_getElem?_getD, List.getD_eq_getElem?_getD, List.getElem?_set]
          by_cases e : a = q
          · subst e
            rw [if_pos rfl, if_pos (by omega), if_pos ⟨rfl, by omega⟩]
            rfl
          · rw [if_neg e, if_neg fun z => e z.1]
        refine ⟨B7, x7, m7.F.i, _, _, cs.set a x, ws3, rfl, m7, pr7, by rw [List.length_set]; exact hls, fun q hq => ?_, fun q h1 h2 => ?_, fun q h1 => ?_⟩
        · rw [gd]
          split
          · rename_i e
            rw [← e.1, hxv]
            exact cntV_bd hp okO hap fun j hj => hbd j (hk1 j hj).2
          · exact hbd q hq
        · rw [List.length_append, List.length_singleton] at h1
          exact dp_step (V := fun q vs => cntV (obys rows) (labs rows) (m.getD q 0) (kdf wd sh q) vs) (fun q => (hp.kidsL q).1) [] hls hap (fun q g1 g2 => hd q (by omega) g2) hxv q (by omega) h2
        · rw [List.length_append, List.length_singleton] at h1
          rw [gd, if_neg (by omega)]
          exact hu' q (by omega)
      refine wp_if m6.F.i (t_cmp op_ne (g_ixS (gv 2 (ρ := rT) r3) (gv 6 (ρ := rI) (x := (a : Int)) r3') hmi (by omega)) (g_gc (P := rT.r [63]) (fun _ => rfl) g.untold) rb_neT) (fun z B7 H7 f7 => ?_) (fun z B7 H7 f7 => ?_)
      · have hc : m.getD a 0 ≠ 63 := fun e => by
          rw [e] at z
          cases z
        have m7 := m6.step f7
        have pr7 := pmap pr6 fun x v r => (rD rN).ex (f7.b.trans m7.up) r
        have rcs : (rL (rD rN)).r (cs.set a (cntB (obys rows) (labs rows) (kdf wd sh a) ((kdf wd sh a).map fun j => cs.getD j []))) (.ref l) (upd B7 l (.lst ws2)) := ⟨l, ws2, rfl, upd_same, pr7⟩
        have hlv : (cs.set a (cntB (obys rows) (labs rows) (kdf wd sh a) ((kdf wd sh a).map fun j => cs.getD j [])))[a]? = some (cntB (obys rows) (labs rows) (kdf wd sh a) ((kdf wd sh a).map fun j => cs.getD j [])) := by rw [List.getElem?_set, if_pos rfl, if_pos (by omega)]
        refine wp_setix (ρ := rD rN) (x := [(m.getD a 0, lkn (cntB (obys rows) (labs rows) (kdf wd sh a) ((kdf wd sh a).map fun j => cs.getD j [])) (m.getD a 0))]) (n := a) m7.fin.i (g_disp1 (ρ := rN) (g_ixS (gv 2 (ρ := rT) r3) (gv 6 (ρ := rI) (x := (a : Int)) r3') hmi (by omega)) (g_dget2 (ρ := rN) (x := 0) hu (g_ixL (gv 5 rcs) (gv 6 (ρ := rI) (x := (a : Int)) r3') hlv) (g_ixS (gv 2 (ρ := rT) r3) (gv 6 (ρ := rI) (x := (a : Int)) r3') hmi (by omega)) (ge_nat g_int rfl))) (gvv 5) (gv 6 (ρ := rI) (x := (a : Int)) r3') m7.h (by omega) (fun w8 B8 H8 f8 r8 h8 => ?_)
        have m8 := m7.un f8
        have rw8 := (rD rN).dl (f8.b.lst upd_same) trivial nf_lst nodl r8
        refine wp_nil (wp_nil (fin (del B8 l) _ [(m.getD a 0, lkn (cntB (obys rows) (labs rows) (kdf wd sh a) ((kdf wd sh a).map fun j => cs.getD j [])) (m.getD a 0))] (ws2.set a w8) ((x6.trans f7.b).trans (f8.un m7.b).b) (m8.put nf_lst) ?_ ?_))
        · have := p_set rw8 a (pmap pr6 fun x v r => (rD rN).ex (f7.b.trans (f8.un m7.b).b) r)
          rw [List.set_set] at this
          exact this
        · unfold cntV
          rw [if_neg hc]
      · have hc : m.getD a 0 = 63 := by
          have z : decide ([m.getD a 0] = [63]) = true := by simpa using z
          exact List.head_eq_of_cons_eq (of_decide_eq_true z)
        refine wp_nil (wp_nil (fin B7 H7 _ ws2 (x6.trans f7.b) (m6.step f7) (pmap pr6 fun x v r => (rD rN).ex f7.b r) ?_))
        unfold cntV
        rw [if_pos hc]
  · subst e
    rw [List.length_reverse, List.length_range] at hd
    have rcs : (rL (rD rN)).r cs (.ref l) (upd B3 l (.lst ws1)) := ⟨l, ws1, rfl, upd_same, pmap prj fun x v r => (rD rN).ex mj.up r⟩
    have h0 : cs[0]? = some (cs.getD 0 []) := getD_at (by rw [hls]; exact hp.pos)
    refine wp_ret mj.fin.i (ge_nat (g_sumV rfl g.bi.sum (g_ixL (i := 0) (gv 5 rcs) g_int h0)) (n := ((cs.getD 0 []).map (·.2)).sum) ?_) fun v5 B5 H5 f5 r5 => q v5 B5 H5 (mj.fin.trans f5) ⟨_, ⟨cs, ⟨hls, fun q' h => hd q' (by omega) h⟩, rfl⟩, r5⟩
    rw [← sum_cast, List.map_map]
    rfl
end
end KD
end
section
set_option Elab.async false
set_option linter.all false
set_option maxRecDepth 100000
set_option maxHeartbeats 4000000
/-! KD12: cost_below, costs_above. -/
namespace KD
open PySem PySem.Spec PyProof.Rows L2 KS MS KB
open SX (S)
open MF (abc Mk Sh kd kdf Ob lk OkO Gr labs obys lk_mem IsArr dp_step Dn lko lkn costB costsAb minL minL_mem)
theorem scCB : FnScope ["order", "costs", "some", "child", "label"] ["order", "costs", "some"] (defScope (topS 35)) := ⟨rfl, rfl, rfl, by decide +kernel, rfl, by decide +kernel, by decide +kernel⟩
abbrev nmCA : List Str := ["orders", "costs", "some", "found", "top", "sums", "order", "one"]
theorem scCA : FnScope nmCA ["orders", "costs", "some"] (defScope (topS 36)) := ⟨rfl, rfl, rfl, by decide +kernel, rfl, by decide +kernel, by decide +kernel⟩
theorem zipmap {β : Type} {cs : List Dn} (F : Dn → Nat → β) : ∀ {ks o : List Nat}, (ks.zip (sg o)).map (fun x => F (cs.getD x.1 []) (x.2.headD 0)) = ((ks.map fun j => cs.getD j []).zip o).map fun x => F x.1 x.2
  | [], o => rfl
  | _ :: _, [] => rfl
  | k :: ks, c :: o => by
    have := zipmap (cs := cs) F (ks := ks) (o := o)
    show _ :: (ks.zip (sg o)).map _ = _ :: _
    rw [this]
    rfl
theorem any_id {α : Type} (f : α → Bool) (xs : List α) : (xs.map f).any id = xs.any f := by
  rw [List.any_map]
  rfl
theorem fm_eq {α β : Type} (g : α → Option β) (d : β) : ∀ xs : List α, (((xs.map g).filter fun o => !o.isNone).map fun o => o.getD d) = xs.filterMap g
  | [] => rfl
  | x :: xs => by
    have ih := fm_eq g d xs
    rw [List.map_cons, List.filter_cons, List.filterMap_cons]
    cases h : g x with
    | none =>
      rw [if_neg (by simp)]
      exact ih
    | some y =>
      rw [if_pos (by simp), List.map_cons, ih]
      rfl
theorem nodlO {ws : List V} : ¬ (rD rN).ok (.obj (.lst ws)) := nodl
section
variable {P : Program} {w : World} {K : PySem.W.Frag} {mg : Str → Option Value} {base : Heap}
abbrev DCB (K : PySem.W.Frag) (mg : Str → Option Value) : Prop := Dfn K mg "cost_below" (topS 35) ["order", "costs", "some"]
abbrev DCA (K : PySem.W.Frag) (mg : Str → Option Value) : Prop := Dfn K mg "costs_above" (topS 36) ["orders", "costs", "some"]
theorem cal_cb (g : GC K mg) (D : DCB K mg) : C8.Cal P w K mg base 1 "cost_below" (sp3 rT (rL (rD rN)) (rL rN) (fun o cs ks => o.length = ks.length ∧ ks.length ≤ 100 ∧ ∀ j ∈ ks, j < cs.length) fun o cs ks => (rO rN).r (costB (ks.map fun j => cs.getD j []) o)) [] := by
  refine D.cal scCB (fun vs H Q E ⟨x, y, z, v, u, t, B, e, _⟩ => by rw [e]; rfl) fun f cdv A outer s H vs Q E hr ⟨o, cs, ks, v, u, t, B, e, i, r, r2, r3, ⟨h1, h2, h3⟩, q⟩ => ?_
  subst e
  have hu := hu_of hr
  have hzl : (ks.zip (sg o)).length ≤ 100000 := by rw [List.length_zip]; omega
  have eany : ((ks.zip (sg o)).filter fun _ => true).map (fun x => !(look (cs.getD x.1 []) (x.2.headD 0)).isSome) = ((ks.map fun j => cs.getD j []).zip o).map fun x => (lko x.1 x.2).isNone := by
    rw [filt]
    have := zipmap (cs := cs) (fun d c => !(look d c).isSome) (ks := ks) (o := o)
    rw [this]
    refine List.map_congr_left fun x _ => ?_
    show (!(lko x.1 x.2).isSome) = _
    cases lko x.1 x.2 <;> rfl
  refine wp_if (k := (((ks.map fun j => cs.getD j []).zip o).any fun x => (lko x.1 x.2).isNone)) i (t_val (ge_is (g_any rfl g.bi.any (ge_is (g_lc2 (ρ := rN) (τ := rT) (υ := rB) (own := [("child", 3), ("label", 4)]) (j := 3) (k := 4) (fun _ => true) (fun x => !(look (cs.getD x.1 []) (x.2.headD 0)).isSome) rfl scCB.nd (by apply blkOk_by; change blkC ["order", "costs", "some", "child", "label"] (defScope (topS 35)) _ _ = true; decide +kernel) (fun _ _ _ _ _ => pg_tup rfl (pgs_cons (pg_name (i := 3) scCB.nd rfl (.inl rfl)) (pgs_cons (pg_name (i := 4) scCB.nd rfl (.inl rfl)) pgs_nil))) (gi_zipLS g.bi.zip (gv 2 r3) (gv 0 r) h1.symm) hzl fun x y vx vy B1 hxy x1 rx ry s0 H0 C cl fp => ⟨ts_nil, fun _ => ?_⟩) eany)) (any_id _ _))) (fun z B1 H1 f1 => ?_) (fun z B1 H1 f1 => ?_)
  · obtain ⟨c, hc, rfl⟩ := List.mem_map.mp (List.of_mem_zip hxy).2
    exact g_notinD hu (gv 4 ry) (g_ixL (gv 1 ((rL (rD rN)).ex x1 r2)) (gv 3 (ρ := rI) (x := (x : Int)) rx) (getD_at (h3 x (List.of_mem_zip hxy).1)))
  · refine wp_ret f1.i (g_non (ρ := rN)) fun v5 B5 H5 f5 r5 => q v5 B5 H5 (f1.trans f5) ?_
    show (rO rN).r (costB _ o) v5 B5
    unfold costB
    rw [if_pos z]
    exact r5
  · refine wp_nil (wp_ret f1.i (ge_nat (g_sum rfl g.bi.sum (ge_lN (g_lc2 (ρ := rN) (τ := rT) (υ := rN) (own := [("child", 3), ("label", 4)]) (j := 3) (k := 4) (fun _ => true) (fun x => lkn (cs.getD x.1 []) (x.2.headD 0)) rfl scCB.nd (by apply blkOk_by; change blkC ["order", "costs", "some", "child", "label"] (defScope (topS 35)) _ _ = true; decide +kernel) (fun _ _ _ _ _ => pg_tup rfl (pgs_cons (pg_name (i := 3) scCB.nd rfl (.inl rfl)) (pgs_cons (pg_name (i := 4) scCB.nd rfl (.inl rfl)) pgs_nil))) (gi_zipLS g.bi.zip (gv 2 ((rL rN).ex f1.b r3)) (gv 0 r) h1.symm) hzl fun x y vx vy B2 hxy x2 rx ry s0 H0 C cl fp => ⟨ts_nil, fun _ => ?_⟩))) (n := (((ks.map fun j => cs.getD j []).zip o).map fun x => lkn x.1 x.2).sum) ?_) fun v5 B5 H5 f5 r5 => q v5 B5 H5 (f1.trans f5) ?_)
    · obtain ⟨c, hc, rfl⟩ := List.mem_map.mp (List.of_mem_zip hxy).2
      have hsome : look (cs.getD x []) c = some (lkn (cs.getD x []) c) := by
        have hm : (!(look (cs.getD x []) c).isSome) ∈ ((ks.zip (sg o)).filter fun _ => true).map (fun x => !(look (cs.getD x.1 []) (x.2.headD 0)).isSome) := by
          rw [filt]
          exact List.mem_map.mpr ⟨_, hxy, rfl⟩
        rw [eany] at hm
        have hf := List.any_eq_false.mp z
        obtain ⟨y, hy, e⟩ := List.mem_map.mp hm
        have := hf y hy
        rw [e] at this
        unfold lkn
        rw [← look_lko]
        cases hl : look (cs.getD x []) c with
        | none => rw [hl] at this; exact absurd rfl this
        | some v => rfl
      exact g_dget hu (g_ixL (gv 1 ((rL (rD rN)).ex (f1.b.trans x2) r2)) (gv 3 (ρ := rI) (x := (x : Int)) rx) (getD_at (h3 x (List.of_mem_zip hxy).1))) (gv 4 ry) hsome
    · rw [sum_cast, filt, zipmap (cs := cs) (fun d c => lkn d c)]
    · show (rO rN).r (costB _ o) v5 B5
      unfold costB
      rw [if_neg (by rw [z]; simp)]
      exact r5
theorem costsAb_snoc {O : Ob} {p : Nat × List (List Nat)} {vs : List Dn} : costsAb (O ++ [p]) vs = costsAb O vs ++ (if p.2.filterMap (costB vs) = [] then [] else [(p.1, minL (p.2.filterMap (costB vs)))]) := by
  unfold costsAb
  rw [List.filterMap_append]
  congr 1
  rw [List.filterMap_cons]
  by_cases h : p.2.filterMap (costB vs) = []
  · rw [if_pos h, if_pos h]
    rfl
  · rw [if_neg h, if_neg h]
    rfl
theorem costsAb_sub {O : Ob} {vs : List Dn} : ∀ p ∈ costsAb O vs, p.1 ∈ O.map (·.1) := fun p hp => by
  unfold costsAb at hp
  obtain ⟨p', h1, h2⟩ := List.mem_filterMap.mp hp
  split at h2
  · cases h2
  · cases h2
    exact List.mem_map.mpr ⟨p', h1, rfl⟩
theorem paired_keys {ρ : R Nat} {H : Hp} : ∀ {xs : Dn} {kvs : List (Key × V)}, Paired (fun x p => p.1 = kL x.1 ∧ ρ.r x.2 p.2 H) xs kvs → ∀ p ∈ kvs, ∃ x ∈ xs, p.1 = kL x.1
  | _, _, .nil, p, hp => nomatch hp
  | _, _, .cons r t, p, hp => by
    rcases List.mem_cons.mp hp with rfl | hp
    · exact ⟨_, List.mem_cons_self .., r.1⟩
    · obtain ⟨x, h1, h2⟩ := paired_keys t p hp
      exact ⟨x, List.mem_cons_of_mem _ h1, h2⟩
theorem pk_app {α β : Type} {F : α → β → Prop} : ∀ {xs ys : List α} {vs ws : List β}, Paired F xs vs → Paired F ys ws → Paired F (xs ++ ys) (vs ++ ws) := p_app
theorem cal_ca (g : GC K mg) (D1 : DCB K mg) (D : DCA K mg) : C8.Cal P w K mg base 2 "costs_above" (sp3 (rD (rL rT)) (rL (rD rN)) (rL rN) (fun O cs ks => OkO ks.length O ∧ ks.length ≤ 3 ∧ ∀ j ∈ ks, j < cs.length) fun O cs ks => (rD rN).r (costsAb O (ks.map fun j => cs.getD j []))) [] := by
  refine D.cal scCA (fun vs H Q E ⟨x, y, z, v, u, t, B, e, _⟩ => by rw [e]; rfl) fun f cdv A outer s H vs Q E hr ⟨O, cs, ks, v, u, t, B, e, i, r, r2, r3, ⟨ok, h3, hks⟩, q⟩ => ?_
  subst e
  have hu := hu_of hr
  have hn := ok.n
  refine wp_setD 3 (fun d hd => ?_) scCA.nd
  have m : One B H d (.dK []) B _ := One.new (Fr.refl i) hd (nf_dK fun p hp => nomatch hp)
  refine wp_lock m.F.i r fun do' kvo oo L U D2 lc ev hrd pro hD2 => ?_
  subst ev
  have ned : d ≠ do' := fun e => by
    subst e
    have hb := m.b
    rcases hrd with h | ⟨_, h⟩ <;> · rw [hb] at h; cases h
  obtain ⟨mL, back⟩ := lc.one m ned (Ex.new hd)
  have hat : L B do' = some (.frz oo (.dK kvo)) := lc.at' hrd m.F.i
  have prL : Paired (fun x p => p.1 = kL x.1 ∧ (rL rT).r x.2 p.2 (L B)) O kvo := pmap pro fun x p r => ⟨r.1, lc.lr (rL rT) r.2⟩
  have rL1 := lc.lr (rD (rL rT)) r
  have rL2 := lc.lr (rL (rD rN)) r2
  have rL3 := lc.lr (rL rN) r3
  refine ws_for (ρ := rT) (xs := O.map fun p => [p.1]) (fun pre σ' Bj Hj => ∃ (a b : Option V) (kvs : List (Key × V)), σ' = [some (.ref do'), some u, some t, some (.ref d), a, b, none, none] ∧ One (L B) (L H) d (.dK kvs) Bj Hj ∧ Paired (fun x p => p.1 = kL x.1 ∧ rN.r x.2 p.2 Bj) (costsAb (O.take pre.length) (ks.map fun j => cs.getD j [])) kvs) mL.F.i (gi_keysF (ok := fun v x => (rL rT).r x.2 v (L B)) (gvv 0) hat prL) (pg_name (i := 4) scCA.nd rfl (.inl rfl)) (fun B2 H2 f2 => ⟨none, none, [], rfl, mL.step f2, .nil⟩) (fun pre a post v' σ' Bj H2 Bb H3 hx x2 x3 ⟨a1, b1, kvs, e, mj, prj⟩ f3 r3' => ?_) (fun σ' B2 H2 x1 x2 ⟨a1, b1, kvs, e, mj, prj⟩ => ?_) rfl (hgm := gm_name)
  · subst e
    have hlen := congrArg List.length hx
    rw [List.length_map, List.length_append, List.length_cons] at hlen
    have hpl : pre.length < O.length := by omega
    obtain ⟨p, hp0⟩ : ∃ p, O[pre.length]? = some p := ⟨_, List.getElem?_eq_getElem hpl⟩
    have ea : a = [p.1] := by
      have h1 : (O.map fun p => [p.1])[pre.length]? = some a := by rw [hx, List.getElem?_append_right (Nat.le_refl _), Nat.sub_self]; rfl
      rw [List.getElem?_map, hp0] at h1
      exact (Option.some.inj h1).symm
    subst ea
    have hp : p ∈ O := List.mem_of_getElem? hp0
    have hpm := ok.m p hp
    have hpl2 := ok.len p hp
    have mb := mj.step f3
    have prb := pmap prj fun (x : Nat × Nat) (p : Key × V) r => (⟨r.1, rN.ex f3.b r.2⟩ : p.1 = kL x.1 ∧ rN.r x.2 p.2 Bb)
    have xb := x2.trans f3.b
    have ro := (rD (rL rT)).ex xb rL1
    have rc := (rL (rD rN)).ex xb rL2
    have rk := (rL rN).ex xb rL3
    refine wp_setLcM 5 (own := [("order", 6)]) (jt := 6) (ρ := rT) (τ := rO rN) (xs := p.2) mb.F.i (fun _ => true) (fun o => costB (ks.map fun j => cs.getD j []) o) (gi_list (g_dget hu (gv 0 ro) (gv 4 r3') (look_mem ok.nd hp))) (by omega) (fun o vo B4 ho x4 ra s0 H0 C cl fp => ⟨ts_nil, fun _ => g_call3 (cal_cb g D1) hr (by decide) (gv 6 ra) (gv 1 ((rL (rD rN)).ex x4 rc)) (gv 2 ((rL rN).ex x4 rk)) ⟨hpl2 o ho, by omega, hks⟩⟩) (fun q1 ws1 B4 H4 m4 pr4 => ?_) rfl scCA.nd (by apply blkOk_by; change blkC nmCA (defScope (topS 36)) _ _ = true; decide +kernel) (fun _ _ _ _ _ => pg_name (i := 6) scCA.nd rfl (.inl rfl)) (by rfl)
    rw [filt] at pr4
    obtain ⟨ne4, m5, x5⟩ := mb.addO m4
    have rs1 : (rL (rO rN)).r (p.2.map fun o => costB (ks.map fun j => cs.getD j []) o) (.ref q1) (upd B4 q1 (.lst ws1)) := ⟨q1, ws1, rfl, upd_same, pmap pr4 fun x v r => (rO rN).ex (Ex.new m4.b) r⟩
    refine wp_setLcM 5 (own := [("one", 7)]) (jt := 7) (ρ := rO rN) (τ := rN) m5.F.i (fun o => !o.isNone) (fun o => o.getD 0) (gi_list (gv 5 rs1)) (by rw [List.length_map]; omega) (fun o vo B6 ho x6 ra s0 H0 C cl fp => ⟨ts_one (t_cmp op_notN (gv 7 ra) (g_non (ρ := rN)) (rb_isnot nn_N)), fun hz => ?_⟩) (fun q2 ws2 B6 H6 m6 pr6 => ?_) rfl scCA.nd (by apply blkOk_by; change blkC nmCA (defScope (topS 36)) _ _ = true; decide +kernel) (fun _ _ _ _ _ => pg_name (i := 7) scCA.nd rfl (.inl rfl)) (by rfl)
    · cases o with
      | none => cases hz
      | some n => exact gv 7 (ρ := rN) (x := n) ra
    · rw [fm_eq] at pr6
      obtain ⟨ne6, m7, x7⟩ := m5.addO m6
      have rs2 : (rL rN).r (p.2.filterMap fun o => costB (ks.map fun j => cs.getD j []) o) (.ref q2) (upd B6 q2 (.lst ws2)) := ⟨q2, ws2, rfl, upd_same, pmap pr6 fun x v r => rN.ex (Ex.new m6.b) r⟩
      have pr7 := pmap prb fun (x : Nat × Nat) (p : Key × V) r => (⟨r.1, rN.ex (x5.trans x7) r.2⟩ : p.1 = kL x.1 ∧ rN.r x.2 p.2 (upd B6 q2 (.lst ws2)))
      have etk : O.take (pre.length + 1) = O.take pre.length ++ [p] := by rw [List.take_add_one, hp0]; rfl
      have el : (pre ++ [[p.1]]).length = pre.length + 1 := by rw [List.length_append]; rfl
      refine wp_if m7.F.i (t_cmp (ρ := rI) op_gt (GE.n (g_lenL g.bi.len (gv 5 rs2))) g_int rb_gt) (fun z B8 H8 f8 => ?_) (fun z B8 H8 f8 => ?_)
      · have hne : p.2.filterMap (costB (ks.map fun j => cs.getD j [])) ≠ [] := fun e => by
          rw [show (p.2.filterMap fun o => costB (ks.map fun j => cs.getD j []) o) = [] from e] at z
          cases z
        obtain ⟨hm1, hm2⟩ := minL_mem hne
        have m8 := m7.step f8
        have pr8 := pmap pr7 fun (x : Nat × Nat) (p : Key × V) r => (⟨r.1, rN.ex f8.b r.2⟩ : p.1 = kL x.1 ∧ rN.r x.2 p.2 B8)
        have nfk : NF (.dK kvs) := m8.nf
        have hkl : kvs.length ≤ 11 := by
          rw [← Paired.length prb]
          refine Nat.le_trans MF.costsAb_n ?_
          rw [List.length_take]
          omega
        have nk : ∀ x ∈ kvs, x.1 ≠ kL p.1 := fun x hx e => by
          obtain ⟨y, h1, h2⟩ := paired_keys prb x hx
          rw [h2] at e
          have e := kL_inj e
          have h4 := costsAb_sub y h1
          rw [e] at h4
          obtain ⟨p', h5, h6⟩ := List.mem_map.mp h4
          obtain ⟨j, hj, e5⟩ := List.getElem_of_mem h5
          rw [List.length_take] at hj
          have h7 : (O.map (·.1))[j]? = some p.1 := by
            rw [List.getElem?_map, List.getElem?_eq_getElem (by omega), ← h6, ← e5, List.getElem_take]
            rfl
          have h8 : (O.map (·.1))[pre.length]? = some p.1 := by rw [List.getElem?_map, hp0]; rfl
          have := (List.getElem?_inj (by rw [List.length_map]; omega) ok.nd).mp (h7.trans h8.symm)
          omega
        refine wp_dput (kk := kL p.1) (ρ := rN) (x := minL (p.2.filterMap (costB (ks.map fun j => cs.getD j [])))) hu m8.F.i (ge_nat (g_min rfl g.bi.min (ge_lN (gv 5 ((rL rN).ex f8.b rs2))) (List.mem_map.mpr ⟨_, hm1, rfl⟩) (fun y hy => by
          obtain ⟨y', h1, rfl⟩ := List.mem_map.mp hy
          have := hm2 y' h1
          omega)) rfl) (gvv 3) (gv 4 (ρ := rV) (x := tx [p.1]) r3') m8.h nfk (by omega) (fun w9 B9 H9 f9 r9 h9 => ?_)
        rw [putK_new nk]
        have nf9 : NF (.dK (kvs ++ [(kL p.1, w9)])) := nf_dK fun x hx => by
          rcases List.mem_append.mp hx with hx | hx
          · obtain ⟨y, _, h2⟩ := paired_keys prb x hx
            exact ⟨_, h2⟩
          · rw [List.mem_singleton] at hx
            rw [hx]
            exact ⟨_, rfl⟩
        have m9 := (m8.step f9).put nf9
        refine wp_nil (wp_nil ⟨B9, ((x5.trans x7).trans f8.b).trans f9.b, m9.F.i, _, _, _, rfl, m9, ?_⟩)
        rw [el, etk, costsAb_snoc, if_neg hne]
        exact pk_app (pmap pr8 fun (x : Nat × Nat) (p : Key × V) r => (⟨r.1, rN.ex f9.b r.2⟩ : p.1 = kL x.1 ∧ rN.r x.2 p.2 B9)) (.cons ⟨rfl, r9⟩ .nil)
      · have he : p.2.filterMap (costB (ks.map fun j => cs.getD j [])) = [] := by
          cases h : p.2.filterMap (costB (ks.map fun j => cs.getD j [])) with
          | nil => rfl
          | cons x y =>
            rw [show (p.2.filterMap fun o => costB (ks.map fun j => cs.getD j []) o) = x :: y from h] at z
            have z := of_decide_eq_false z
            simp at z
        refine wp_nil (wp_nil ⟨B8, (x5.trans x7).trans f8.b, (m7.step f8).F.i, _, _, kvs, rfl, m7.step f8, ?_⟩)
        rw [el, etk, costsAb_snoc, if_pos he, List.append_nil]
        exact pmap pr7 fun (x : Nat × Nat) (p : Key × V) r => (⟨r.1, rN.ex f8.b r.2⟩ : p.1 = kL x.1 ∧ rN.r x.2 p.2 B8)
  · subst e
    have mu := back mj
    have hfin : H2 do' = some (.frz oo (.dK kvo)) := x2.keep (x1.keep hat nf_frz) nf_frz
    refine hD2 _ H2 hfin ?_
    rw [List.length_map, List.take_length] at prj
    have nfk : NF (.dK kvs) := mj.nf
    refine wp_ret mu.fin.i (gv 3 (ρ := rD rN) (x := costsAb O (ks.map fun j => cs.getD j [])) ⟨d, kvs, rfl, .inl upd_same, pmap prj fun (x : Nat × Nat) (p : Key × V) r => (⟨r.1, r.2⟩ : p.1 = kL x.1 ∧ rN.r x.2 p.2 _)⟩) fun v5 B5 H5 f5 r5 => q v5 B5 H5 (mu.fin.trans f5) r5
end
end KD
end
section
set_option Elab.async false
set_option linter.all false
set_option maxRecDepth 100000
set_option maxHeartbeats 4000000
/-! KD13: least_change. -/
namespace KD
open PySem PySem.Spec PyProof.Rows L2 KS MS KB
open SX (S)
open MF (abc Mk Sh kd kdf Ob lk OkO Gr labs obys lk_mem IsArr dp_step Dn lko lkn costsAb minL minL_mem cstB cstV IsCsts cstV_nd)
abbrev nmLC : List Str := ["table", "shape", "marks", "orders", "children", "costs", "place", "label", "sign", "one", "cost"]
theorem scLC : FnScope nmLC ["table", "shape", "marks"] (defScope (topS 37)) := ⟨rfl, rfl, rfl, by decide +kernel, rfl, by decide +kernel, by decide +kernel⟩
theorem cstB_nd {O : Ob} {L ks : List Nat} {vs : List Dn} (h : (O.map (·.1)).Nodup) (hL : L.Nodup) : ((cstB O L ks vs).map (·.1)).Nodup ∧ (O.length ≤ 11 → L.length ≤ 11 → (cstB O L ks vs).length ≤ 11) := by
  have := cstV_nd (c := 63) (ks := ks) (vs := vs) h hL
  unfold cstV at this
  rw [if_pos rfl] at this
  exact this
def lcR (c0 : Dn) : Option Nat := if c0 = [] then none else some (minL (c0.map (·.2)))
section
variable {P : Program} {w : World} {K : PySem.W.Frag} {mg : Str → Option Value} {base : Heap}
abbrev DLC (K : PySem.W.Frag) (mg : Str → Option Value) : Prop := Dfn K mg "least_change" (topS 37) ["table", "shape", "marks"]
theorem cal_lc (D : PD K mg) (D1 : DCB K mg) (D3 : DCA K mg) (D2 : DLC K mg) : C8.Cal P w K mg base 5 "least_change" (sp3 rG rT rT Giv fun gr sh m => (rW (rO rN) (fun n => ∃ cs, IsCsts gr.1 gr.2 sh m cs ∧ n = lcR (cs.getD 0 []))).r ()) [] := by
  have g := D.g
  refine D2.cal scLC (fun vs H Q E ⟨x, y, z, v, u, t, B, e, _⟩ => by rw [e]; rfl) fun f cdv A outer s H vs Q E hr ⟨⟨wd, rows⟩, sh, m, v, u, t, B, e, i, r, r2, r3, ⟨gr, hp, hm⟩, q⟩ => ?_
  subst e
  have hp : Sh wd sh := hp
  have gr : Gr wd rows := gr
  have hu := hu_of hr
  have hlen := hp.len
  have hrl : rows.length ≤ 11 := gr.n
  have hml := hm.1
  have okO : OkO wd (obys rows) := gr.okO
  have hr4 : ∀ r ∈ rows, 0 < r.length ∧ r.length ≤ 4 := Gr.len4 gr
  have hfew : (labs rows).length ≤ 3 := gr.few
  have hnL : (labs rows).Nodup := asc_nd stoN (asc_usort stoN _)
  refine wp_expr i (g_call3 (cal_wm g D.int D.many D.fault D.shape D.marks D.want D.wm) hr (by decide) (gv 0 r) (gv 1 r2) (gv 2 r3) ⟨hp, hm⟩) fun v0 B0 H0 f0 _ => ?_
  refine wp_par 3 4 f0.i (g_call1 (cal_by g D.lot D.of D.by') hr (by decide) (g_snd (gv 0 (rG.ex f0.b r)) g_int) ⟨hrl, hr4⟩) (g_call2 (cal_kid g D.par D.kid) hr (by decide) (g_fst (gv 0 (rG.ex f0.b r)) g_int) (gv 1 r2) hp) (fun vo vc B1 H1 f1 ro rc => ?_) rfl scLC.nd
  have F := f0.trans f1
  refine wp_setLcM 5 (own := [("sign", 8)]) (jt := 8) (ρ := rT) (τ := rD rN) F.i (fun _ => true) (fun _ => (labs rows).map fun c => (c, 0)) (gi_str (gv 1 r2)) (by rw [len_sg]; omega) (fun a va B2 ha x2 ra s0 H0 C cl fp => ⟨ts_nil, fun _ => ge_is (g_dc (ρ := rT) (τ := rN) (own := [("label", 7)]) (j := 7) (xs := sg (labs rows)) (fun l => l.headD 0) (fun _ => 0) rfl scLC.nd (by apply blkOk_by; change blkC nmLC (relabel _ (envOfC "least_change" (defScope (topS 37)) 0 0 Value.none)) _ _ = true; decide +kernel) (fun _ _ _ _ _ => pg_name (i := 7) scLC.nd rfl (.inl rfl)) (gi_str (g_call1 (cal_lab g D.lot D.lab) hr (by decide) (gv 0 (rG.ex (F.b.trans x2) r)) ⟨hrl, fun l hl => (hr4 l hl).2⟩)) (by rw [len_sg]; omega) (by unfold sg; rw [List.map_map]; exact (List.map_id (labs rows)).symm ▸ hnL) fun l vl' B3 hl x3 rl' s1 H1 C1 cl1 fp1 => ?_) ?_⟩) (fun l ws B2 H2 m2 pr2 => ?_) rfl scLC.nd (by apply blkOk_by; change blkC nmLC (defScope (topS 37)) _ _ = true; decide +kernel) (fun _ _ _ _ _ => pg_name (i := 8) scLC.nd rfl (.inl rfl)) (by rfl)
  · obtain ⟨c, hc, rfl⟩ := List.mem_map.mp hl
    exact ⟨gv 7 rl', ge_nat g_int rfl⟩
  · unfold sg
    rw [List.map_map]
    rfl
  rw [filt, map_const, len_sg] at pr2
  have ro := (rD (rL rT)).ex (m2.F.b) ro
  have rc := (rL (rL rN)).ex (m2.F.b) rc
  have mm := One.from F m2
  refine wp_for (ρ := rN) (xs := (List.range sh.length).reverse) (fun pre σ' Bj Hj => ∃ (a : Option V) (cs : List Dn) (ws : List V), σ' = [some v, some u, some t, some vo, some vc, some (.ref l), a, none, none, none, none] ∧ One B H l (.lst ws) Bj Hj ∧ Paired (fun x v => (rD rN).r x v Bj) cs ws ∧ cs.length = sh.length ∧ (∀ q, sh.length - pre.length ≤ q → q < sh.length → cs.getD q [] = cstV (obys rows) (labs rows) (m.getD q 0) (kdf wd sh q) ((kdf wd sh q).map fun j => cs.getD j [])) ∧ ∀ q, q < sh.length - pre.length → cs.getD q [] = (labs rows).map fun c => (c, 0)) mm.F.i (gi_down g.bi.range (g_sub (GE.n (g_lenS g.bi.len (gv 1 (ρ := rT) r2) (by omega))) g_int) (g_neg g_int) (g_neg g_int) (by omega)) (pg_name (i := 6) scLC.nd rfl (.inr rfl)) (fun B3 H3 f3 => ⟨none, _, ws, rfl, mm.step f3, pmap pr2 fun x v r => (rD rN).ex f3.b r, List.length_replicate, fun q h1 h2 => ?_, fun q h1 => getD_rep (by omega)⟩) (fun pre a post v' σ' Bj H3 Bb H4 hx x2 x3 ⟨a1, cs, ws1, e, mj, prj, hls, hd, hu'⟩ f3 r3' => ?_) (fun σ' B3 H3 x1 x2 ⟨a1, cs, ws1, e, mj, prj, hls, hd, hu'⟩ => ?_) rfl (hgm := gm_name)
  · rw [List.length_nil] at h1
    omega
  · subst e
    obtain ⟨ea, hpl⟩ := down_at hx
    have hap : a < sh.length := by omega
    have mb := mj.step f3
    have prb := pmap prj fun x v r => (rD rN).ex f3.b r
    have xb := x2.trans f3.b
    have rob := (rD (rL rT)).ex xb ro
    have rcb := (rL (rL rN)).ex xb rc
    have hki : (kd wd sh)[a]? = some (kdf wd sh a) := getD_at (by rw [hp.klen]; exact hap)
    obtain ⟨hk1, hk2⟩ := hp.kidsL a
    have hkl : (kdf wd sh a).length ≤ 3 := by
      rcases hk2 with h | h
      · rw [h]; simp
      · rw [h]; rcases hp.w23 with h | h <;> omega
    have hLa : cs.getD a [] = (labs rows).map fun c => (c, 0) := hu' a (by omega)
    have hwl : ws1.length = cs.length := (Paired.length prb).symm
    refine wp_cut (fun σ2 H6 => ∃ B6 ws2, σ2 = [some v, some u, some t, some vo, some vc, some (.ref l), some v', none, none, none, none] ∧ Ex Bb B6 ∧ One B H l (.lst ws2) B6 H6 ∧ Paired (fun x v => (rD rN).r x v B6) (cs.set a (cstB (obys rows) (labs rows) (kdf wd sh a) ((kdf wd sh a).map fun j => cs.getD j []))) ws2) ?_ ?_
    · refine ws_if f3.i (t_cmp (ρ := rI) op_gt (GE.n (g_lenL g.bi.len (g_ixL (gv 4 rcb) (gv 6 (ρ := rI) (x := (a : Int)) r3') hki))) g_int rb_gt) (fun z B6 H6 f6 => ?_) (fun z B6 H6 f6 => ?_)
      · have hne : kdf wd sh a ≠ [] := fun e => by
          rw [e] at z
          cases z
        have hkw : (kdf wd sh a).length = wd := hk2.resolve_left hne
        have m6 := mb.step f6
        have pr6 := pmap prb fun x v r => (rD rN).ex (f6.b.trans m6.up) r
        have ro6 := (rD (rL rT)).ex (f6.b.trans m6.up) rob
        have rc6 := (rL (rL rN)).ex (f6.b.trans m6.up) rcb
        have rcs : (rL (rD rN)).r cs (.ref l) (upd B6 l (.lst ws1)) := ⟨l, ws1, rfl, upd_same, pr6⟩
        refine wp_setix (ρ := rD rN) (x := costsAb (obys rows) ((kdf wd sh a).map fun j => cs.getD j [])) (n := a) m6.fin.i (g_call3 (cal_ca g D1 D3) hr (by decide) (gv 3 ro6) (gv 5 rcs) (g_ixL (gv 4 rc6) (gv 6 (ρ := rI) (x := (a : Int)) r3') hki) ⟨by rw [hkw]; exact okO, hkl, fun j hj => by have := (hk1 j hj).2; omega⟩) (gvv 5) (gv 6 (ρ := rI) (x := (a : Int)) r3') m6.h (by omega) (fun w7 B7 H7 f7 r7 h7 => ?_)
        have m7 := m6.un f7
        have rw7 := (rD rN).dl (f7.b.lst upd_same) trivial nf_lst nodl r7
        refine wp_nil ⟨del B7 l, ws1.set a w7, rfl, f6.b.trans (f7.un m6.b).b, m7.put nf_lst, ?_⟩
        unfold cstB
        rw [if_neg hne]
        exact p_set rw7 a (pmap prb fun x v r => (rD rN).ex (f6.b.trans (f7.un m6.b).b) r)
      · have he : kdf wd sh a = [] := by
          cases h : kdf wd sh a with
          | nil => rfl
          | cons x y =>
            rw [h] at z
            have z := of_decide_eq_false z
            simp at z
        refine wp_nil ⟨B6, ws1, rfl, f6.b, mb.step f6, ?_⟩
        unfold cstB
        rw [if_pos he, set_self' hLa (by omega)]
        exact pmap prb fun x v r => (rD rN).ex f6.b r
    · rintro σ2 H6 ⟨B6, ws2, rfl, x6, m6, pr6⟩
      have hmi : m[a]? = some (m.getD a 0) := getD_at (by omega)
      have hwl2 : ws2.length = cs.length := by rw [← Paired.length pr6, List.length_set]
      obtain ⟨bnd, bn11⟩ := cstB_nd (ks := kdf wd sh a) (vs := (kdf wd sh a).map fun j => cs.getD j []) okO.nd hnL
      have bn11 := bn11 okO.n (by omega)
      generalize hbase : cstB (obys rows) (labs rows) (kdf wd sh a) ((kdf wd sh a).map fun j => cs.getD j []) = bs at *
      have fin : ∀ (B7 H7 : Hp) (x : Dn) (ws3 : List V), Ex Bb B7 → One B H l (.lst ws3) B7 H7 → Paired (fun x v => (rD rN).r x v B7) (cs.set a x) ws3 → x = cstV (obys rows) (labs rows) (m.getD a 0) (kdf wd sh a) ((kdf wd sh a).map fun j => cs.getD j []) → ∃ B3, Ex Bb B3 ∧ Ex B3 H7 ∧ ∃ (a' : Option V) (cs' : List Dn) (ws' : List V), [some v, some u, some t, some vo, some vc, some (.ref l), some v', none, none, none, none] = [some v, some u, some t, some vo, some vc, some (.ref l), a', none, none, none, none] ∧ One B H l (.lst ws') B3 H7 ∧ Paired (fun x v => (rD rN).r x v B3) cs' ws' ∧ cs'.length = sh.length ∧ (∀ q, sh.length - (pre ++ [a]).length ≤ q → q < sh.length → cs'.getD q [] = cstV (obys rows) (labs rows) (m.getD q 0) (kdf wd sh q) ((kdf wd sh q).map fun j => cs'.getD j [])) ∧ ∀ q, q < sh.length - (pre ++ [a]).length → cs'.getD q [] = (labs rows).map fun c => (c, 0) := fun B7 H7 x ws3 x7 m7 pr7 hxv => by
        refine ⟨B7, x7, m7.F.i, _, cs.set a x, ws3, rfl, m7, pr7, by rw [List.length_set]; exact hls, fun q h1 h2 => ?_, fun q h1 => ?_⟩
        · rw [List.length_append, List.length_singleton] at h1
          exact dp_step (V := fun q vs => cstV (obys rows) (labs rows) (m.getD q 0) (kdf wd sh q) vs) (fun q => (hp.kidsL q).1) [] hls hap (fun q g1 g2 => hd q (by omega) g2) hxv q (by omega) h2
        · rw [List.length_append, List.length_singleton] at h1
          rw [List.getD_eq_getElem?_getD, List.getElem?_set, if_neg (by omega), ← List.getD_eq_getElem?_getD]
          exact hu' q (by omega)
      refine wp_if m6.F.i (t_cmp op_ne (g_ixS (gv 2 (ρ := rT) r3) (gv 6 (ρ := rI) (x := (a : Int)) r3') hmi (by omega)) (g_gc (P := rT.r [63]) (fun _ => rfl) g.untold) rb_neT) (fun z B7 H7 f7 => ?_) (fun z B7 H7 f7 => ?_)
      · have hc : m.getD a 0 ≠ 63 := fun e => by
          rw [e] at z
          cases z
        have m7 := m6.step f7
        have pr7 := pmap pr6 fun x v r => (rD rN).ex (f7.b.trans m7.up) r
        have rvs : (rL rV).r ws2 (.ref l) (upd B7 l (.lst ws2)) := ⟨l, ws2, rfl, upd_same, p_mk rfl fun i x v h1 h2 => by rw [h1] at h2; cases h2; rfl⟩
        have hlv : (cs.set a bs)[a]? = some bs := by rw [List.getElem?_set, if_pos rfl, if_pos (by omega)]
        obtain ⟨vd, hvd, rvd⟩ := p_get pr7 hlv
        obtain ⟨dd, ed⟩ : ∃ dd, vd = .ref dd := (rD rN).kk rvd
        subst ed
        refine wp_setix (ρ := rD rN) (x := bs.map fun p => (p.1, p.2 + if p.1 = m.getD a 0 then 0 else 1)) (n := a) m7.fin.i (g_lock (ρ := rD rN) rvd fun d2 kvs o B8 e1 h1 pr lk2 => ?_) (gvv 5) (gv 6 (ρ := rI) (x := (a : Int)) r3') m7.h (by omega) (fun w8 B8 H8 f8 r8 h8 => ?_)
        · cases e1
          refine ge_is (g_dc2 (ρ := rT) (τ := rN) (υ := rN) (own := [("one", 9), ("cost", 10)]) (j := 9) (k := 10) (fun x => x.1.headD 0) (fun x => x.2 + if x.1.headD 0 = m.getD a 0 then 0 else 1) rfl scLC.nd (by apply blkOk_by; change blkC nmLC (defScope (topS 37)) _ _ = true; decide +kernel) (fun _ _ _ _ _ => pg_tup rfl (pgs_cons (pg_name (i := 9) scLC.nd rfl (.inl rfl)) (pgs_cons (pg_name (i := 10) scLC.nd rfl (.inl rfl)) pgs_nil))) (gi_itemsF (ρ := rN) (g_ixL (ρ := rV) (gv 5 (lk2 (rL rV) rvs)) (gv 6 (ρ := rI) (x := (a : Int)) r3') hvd) h1 pr) (by rw [List.length_map]; omega) (by rw [List.map_map]; exact bnd) fun k cst vk vcst B9 hk x9 rk' rcst s0 H0 C cl fp => ?_) (by rw [List.map_map]; rfl)
          obtain ⟨p, hp', e⟩ := List.mem_map.mp hk
          cases e
          refine ⟨gv 9 rk', ge_nat (g_add (i := ((p.2 : Nat) : Int)) (j := if p.1 = m.getD a 0 then 0 else 1) (gv 10 (ρ := rI) rcst) (g_if (t_cmp op_eq (gv 9 rk') (g_ixS (gv 2 (ρ := rT) r3) (gv 6 (ρ := rI) (x := (a : Int)) r3') hmi (by omega)) rb_eqT) (fun z => ge_is g_int ?_) (fun z => ge_is g_int ?_))) ?_⟩
          · rw [if_pos (List.head_eq_of_cons_eq (of_decide_eq_true z : [p.1] = [m.getD a 0]))]
          · rw [if_neg fun e => (of_decide_eq_false z : ¬ [p.1] = [m.getD a 0]) (by rw [e])]
          · show (p.2 : Int) + _ = ((p.2 + if p.1 = m.getD a 0 then 0 else 1 : Nat) : Int)
            split <;> simp
        · have m8 := m7.un f8
          have rw8 := (rD rN).dl (f8.b.lst upd_same) trivial nf_lst nodl r8
          refine wp_nil (wp_nil (fin (del B8 l) _ (bs.map fun p => (p.1, p.2 + if p.1 = m.getD a 0 then 0 else 1)) (ws2.set a w8) ((x6.trans f7.b).trans (f8.un m7.b).b) (m8.put nf_lst) ?_ ?_))
          · have := p_set rw8 a (pmap pr6 fun x v r => (rD rN).ex (f7.b.trans (f8.un m7.b).b) r)
            rw [List.set_set] at this
            exact this
          · unfold cstV
            rw [if_neg hc, hbase]
      · have hc : m.getD a 0 = 63 := by
          have z : decide ([m.getD a 0] = [63]) = true := by simpa using z
          exact List.head_eq_of_cons_eq (of_decide_eq_true z)
        refine wp_nil (wp_nil (fin B7 H7 _ ws2 (x6.trans f7.b) (m6.step f7) (pmap pr6 fun x v r => (rD rN).ex f7.b r) ?_))
        unfold cstV
        rw [if_pos hc, hbase]
  · subst e
    rw [List.length_reverse, List.length_range] at hd
    have rcs : (rL (rD rN)).r cs (.ref l) (upd B3 l (.lst ws1)) := ⟨l, ws1, rfl, upd_same, pmap prj fun x v r => (rD rN).ex mj.up r⟩
    have h0 : cs[0]? = some (cs.getD 0 []) := getD_at (by rw [hls]; exact hp.pos)
    refine wp_ret mj.fin.i (P := (rO rN).r (lcR (cs.getD 0 []))) (g_if (t_cmp (ρ := rI) op_gt (GE.n (g_lenD g.bi.len (g_ixL (i := 0) (gv 5 rcs) g_int h0))) g_int rb_gt) (fun z => ?_) (fun z => ?_)) fun v5 B5 H5 f5 r5 => q v5 B5 H5 (mj.fin.trans f5) ⟨_, ⟨cs, ⟨hls, fun q' h => hd q' (by omega) h⟩, rfl⟩, r5⟩
    · have hne : cs.getD 0 [] ≠ [] := fun e => by
        rw [e] at z
        cases z
      have hne2 : (cs.getD 0 []).map (·.2) ≠ [] := fun e => hne (List.map_eq_nil_iff.mp e)
      obtain ⟨hm1, hm2⟩ := minL_mem hne2
      unfold lcR
      rw [if_neg hne]
      exact GE.some (g_minV rfl g.bi.min (g_ixL (i := 0) (gv 5 rcs) g_int h0) (by obtain ⟨x, h1, h2⟩ := List.mem_map.mp hm1; exact ⟨x, h1, h2⟩) fun x hx => hm2 _ (List.mem_map.mpr ⟨x, hx, rfl⟩))
    · have he : cs.getD 0 [] = [] := by
        cases h : cs.getD 0 [] with
        | nil => rfl
        | cons x y =>
          rw [h] at z
          have z := of_decide_eq_false z
          simp at z
      unfold lcR
      rw [if_pos he]
      exact g_non
end
end KD
end
section
set_option Elab.async false
set_option linter.all false
set_option maxRecDepth 100000
set_option maxHeartbeats 4000000
/-! LE1: the law's draws. -/
namespace KD
open PySem PySem.Spec PyProof.Rows L2 KS MS KB
open SX (S)
open MF (abc Mk Sh kd kdf)
theorem scFeed : FnScope ["_law_script", "_law_one"] ["_law_script"] (defScope (topS 39)) := ⟨rfl, rfl, rfl, by decide +kernel, rfl, by decide +kernel, by decide +kernel⟩
abbrev nmDr : List Str := ["_law_feed_here", "_law_most", "_law_digit", "_law_cells", "_law_at", "_law_cell", "_law_mixed"]
theorem scDr : FnScope nmDr ["_law_feed_here", "_law_most"] (defScope (topS 40)) := ⟨rfl, rfl, rfl, by decide +kernel, rfl, by decide +kernel, by decide +kernel⟩
theorem scPick : FnScope ["_law_feed_here", "_law_some"] ["_law_feed_here", "_law_some"] (defScope (topS 41)) := ⟨rfl, rfl, rfl, by decide +kernel, rfl, by decide +kernel, by decide +kernel⟩
theorem scPool : FnScope ["_law_feed_here"] ["_law_feed_here"] (defScope (topS 42)) := ⟨rfl, rfl, rfl, by decide +kernel, rfl, by decide +kernel, by decide +kernel⟩
theorem sql_ex {K : PySem.W.Frag} {B H : Hp} {a : Addr} {xs : List V} (i : Ex B H) (h : SqL K B a xs) : SqL K H a xs := by
  rcases h with (h | ⟨o, h⟩) | h
  · exact .inl (.inl (i.lst h))
  · exact .inl (.inr ⟨o, i.keep h nf_frz⟩)
  · exact .inr h
theorem g_slSql {X : Cx} {e b : Expr} {σ : L2.St} {B : Hp} {pos p2 : Pos} {a : Addr} {ns : List Int} {i : Nat} (ha : GE X e σ B (rV.r (.ref a))) (hb : GE X b σ B (rI.r (i : Int))) (hs : SqL X.K B a (ns.map V.int)) : GE X (.Subscript e (.Slice none (some b) none p2) pos) σ B ((rL rI).r (ns.take i)) := fun B1 H1 q i0 Q k =>
  W.of (pe_slice sl_list peW po_none (po_some peW)) (ha B1 H1 q i0 _ fun v B2 H2 e2 rv => hb B2 H2 (q.trans e2.b) e2.i _ fun w B3 H3 e3 rw' => ⟨i, rw', a, ns.map V.int, rv, sql_ex ((q.trans (e2.trans e3).b).trans e3.i) hs, fun o ho => k _ _ _ ((e2.trans e3).trans (Fr.new e3.i ho)) (lI.mpr ⟨o, rfl, by rw [upd_same, cutV_to, List.map_take]⟩)⟩)
def pools : List (List Nat) := [[97, 98, 99, 100, 101, 102, 103, 104], [97, 99, 101, 103, 105, 107, 109, 111], [98, 99, 100, 116, 119, 120, 121, 122], [109, 110, 111, 112, 114, 115, 116, 117], [101, 102, 103, 104, 119, 120, 121, 122]]
section
variable {P : Program} {w : World} {K : PySem.W.Frag} {mg : Str → Option Value} {base : Heap}
abbrev DFeed (K : PySem.W.Frag) (mg : Str → Option Value) : Prop := Dfn K mg "_law_feed" (topS 39) ["_law_script"]
abbrev DDr (K : PySem.W.Frag) (mg : Str → Option Value) : Prop := Dfn K mg "_law_draw" (topS 40) ["_law_feed_here", "_law_most"]
abbrev DPick (K : PySem.W.Frag) (mg : Str → Option Value) : Prop := Dfn K mg "_law_pick" (topS 41) ["_law_feed_here", "_law_some"]
abbrev DPool (K : PySem.W.Frag) (mg : Str → Option Value) : Prop := Dfn K mg "_law_pool" (topS 42) ["_law_feed_here"]
def spFeed (K : PySem.W.Frag) : Sp := fun vs H Q _ => ∃ (a : Addr) (ns : List Int) (B : Hp), vs = [.ref a] ∧ Ex B H ∧ SqL K B a (ns.map V.int) ∧ ns.length ≤ 63 ∧ Gv (rF.r ()) B H Q
theorem cal_feed (g : GC K mg) (D : DFeed K mg) : C8.Cal P w K mg base 1 "_law_feed" (spFeed K) [] := by
  refine D.cal scFeed (fun vs H Q E ⟨a, ns, B, e, _⟩ => by rw [e]; rfl) fun f cdv A outer s H vs Q E hr ⟨a, ns, B, e, i, hs, hl, q⟩ => ?_
  subst e
  refine WP.cons (ps_ret (pe_disp (pps_cons peW peW (pps_cons peW peW (pps_cons peW peW (pps_cons peW peW pps_nil)))) rfl rfl (by simp) (show 4 ≤ 15 by decide))) fun d hd => ?_
  have f0 : KB.Fr B H B (upd H d (.dK [])) := (Fr.refl i).mut hd (i.fresh hd)
  have nf0 : NF (.dK []) := nf_dK fun p hp => nomatch hp
  refine g_cstr B _ (Ex.refl B) f0.i _ fun k1 B1 H1 f1 e1 => ?_
  refine (ge_is (ρ := rL rI) (g_lc (ρ := rI) (τ := rI) (own := [("_law_one", 1)]) (j := 1) (fun _ => true) (fun n => n) rfl scFeed.nd (by apply blkOk_by; change blkC ["_law_script", "_law_one"] (defScope (topS 39)) _ _ = true; decide +kernel) (fun _ _ _ _ _ => pg_name (i := 1) scFeed.nd rfl (.inl rfl)) (gi_list (xs := ns.take 63) (g_slSql (i := 63) (gvv 0) g_int hs)) (by rw [List.length_take]; omega) fun n vn B8 hn x8 rn s1 H1' C1 cl1 fp1 => ⟨ts_nil, fun _ => g_intI g.bi.int (gv 1 rn)⟩) (y := ns.take 63) (by rw [filt, List.map_id'])) B1 H1 f1.b f1.i _ fun vc B2 H2 f2 rc => ?_
  refine g_cstr B2 H2 (Ex.refl B2) f2.i _ fun k2 B3 H3 f3 e3 => g_int (i := 0) B3 H3 (Ex.refl B3) f3.i _ fun v2 B4 H4 f4 e4 => ?_
  refine g_cstr B4 H4 (Ex.refl B4) f4.i _ fun k3 B5 H5 f5 e5 => g_int (i := 0) B5 H5 (Ex.refl B5) f5.i _ fun v3 B6 H6 f6 e6 => ?_
  refine g_cstr B6 H6 (Ex.refl B6) f6.i _ fun k4 B7 H7 f7 e7 => g_int (i := 0) B7 H7 (Ex.refl B7) f7.i _ fun v4 B8 H8 f8 e8 => ?_
  have F := (((((((f1.trans f2).trans f3).trans f4).trans f5).trans f6).trans f7).trans f8)
  have h8 : H8 d = some (.dK []) := F.h.keep upd_same nf0
  have b8 : B8 d = none := F.out (i.fresh hd) upd_same
  obtain ⟨c, ec, hc⟩ := lI.mp ((rL rI).ex ((((((f3.trans f4).trans f5).trans f6).trans f7).trans f8).b) rc)
  subst ec
  have fz := f0.trans F
  have fin : KB.Fr B H (upd B8 d (.dK [((.inr "cells" : Key), V.ref c), (.inr "at", .int 0), (.inr "left", .int 0), (.inr "drawn", .int 0)])) (upd H8 d (.dK [((.inr "cells" : Key), V.ref c), (.inr "at", .int 0), (.inr "left", .int 0), (.inr "drawn", .int 0)])) := (fz.mut hd b8).add hd b8 upd_same
  refine ⟨h8, [((.inr "cells" : Key), V.ref c), (.inr "at", .int 0), (.inr "left", .int 0), (.inr "drawn", .int 0)], ?_, show 4 ≤ 15 by decide, q _ _ _ fin ⟨d, c, _, ns.take 63, rfl, upd_same, ⟨0, 0, 0, rfl⟩, by rw [upd_ne (ne_of_none hc b8)]; exact hc⟩⟩
  rw [show k1 = .str "cells" from e1, show k2 = .str "at" from e3, show k3 = .str "left" from e5, show k4 = .str "drawn" from e7, show v2 = .int 0 from e4, show v3 = .int 0 from e6, show v4 = .int 0 from e8]
  rfl
theorem hu64 {A : Around} {k : Nat} (hr : Room k A) : A.units + 64 < cLine := hr.units
theorem cal_draw (g : GC K mg) (D : DDr K mg) : C8.Cal P w K mg base 1 "_law_draw" (sp2 rF rN (fun _ m => 0 < m ∧ m ≤ 100000) fun _ m => (rWI fun k => 0 ≤ k ∧ k < m).r ()) [] := by
  refine D.cal scDr (fun vs H Q E ⟨x, y, v, u, B, e, _⟩ => by rw [e]; rfl) fun f cdv A outer s H vs Q E hr ⟨_, m, v, u, B, e, i, r, r2, ⟨hm, hm2⟩, q⟩ => ?_
  subst e
  have hu := hu_of hr
  have gm : ∀ {B' : Hp} {vs : L2.St} (h : vs[1]? = some (some u)), True := fun _ => trivial
  refine wp_feed hu i (g_addE (fun k => 0 ≤ k) (g_feed hu (gv 0 r) (.inr (.inr rfl))) (GE.we (Pp := fun k => k = 1) g_int rfl) (fun i j h1 h2 => by omega)) (gv 0 r) (.inr (.inr rfl)) fun B1 H1 f1 => ?_
  refine wp_ifE f1.i (t_gtE (g_feed hu (gv 0 (rF.ex f1.b r)) (.inr (.inl rfl))) (GE.we (Pp := fun _ => True) g_int trivial)) (fun _ B2 H2 f2 => ?_) fun _ B2 H2 f2 => ?_
  · have F := f1.trans f2
    refine wp_set 2 F.i (g_modE (fun k => 0 ≤ k ∧ k < m) (g_intE g.bi.int (g_feed hu (gv 0 (rF.ex F.b r)) (.inr (.inl rfl)))) (GE.we (Pp := fun k => k = (m : Int)) (gv 1 (ρ := rI) (x := (m : Int)) r2) rfl) (fun i j h1 h2 => by subst h2; exact ⟨by omega, Int.emod_nonneg _ (by omega), Int.emod_lt_of_pos _ (by omega)⟩)) (fun vd B3 H3 f3 rd => ?_) scDr.nd
    have F := F.trans f3
    refine wp_feed hu F.i (g_fdivE (fun k => 0 ≤ k) (g_feed hu (gv 0 (rF.ex F.b r)) (.inr (.inl rfl))) (GE.we (Pp := fun k => k = (m : Int)) (gv 1 (ρ := rI) (x := (m : Int)) r2) rfl) (fun i j h1 h2 => by subst h2; exact ⟨⟨by omega, by omega⟩, Int.ediv_nonneg h1 (by omega)⟩)) (gv 0 (rF.ex F.b r)) (.inr (.inl rfl)) fun B4 H4 f4 => ?_
    have F := F.trans f4
    exact wp_ret F.i (gv 2 ((rWI fun k => 0 ≤ k ∧ k < m).ex f4.b rd)) fun v5 B5 H5 f5 r5 => q v5 B5 H5 (F.trans f5) r5
  · have F := f1.trans f2
    refine wp_nil ?_
    refine wp_par 3 4 F.i (g_feedC hu (gv 0 (rF.ex F.b r))) (g_feed hu (gv 0 (rF.ex F.b r)) (.inl rfl)) (fun vc va B3 H3 f3 rc ra => ?_) rfl scDr.nd
    obtain ⟨ns, _, rc⟩ := rc
    obtain ⟨at', hat, ra⟩ := ra
    have F := F.trans f3
    have ra : ∀ B', rI.r at' va B' := fun _ => ra
    refine wp_feed hu F.i (g_addE (fun k => 0 ≤ k) (GE.we (Pp := fun k => 0 ≤ k) (gv 4 (ra B3)) hat) (GE.we (Pp := fun k => k = 1) g_int rfl) (fun i j h1 h2 => by omega)) (gv 0 (rF.ex F.b r)) (.inl rfl) fun B4 H4 f4 => ?_
    have F := F.trans f4
    have rc := (rL rI).ex f4.b rc
    refine wp_set 5 F.i (P := (rWI fun _ => True).r ()) (g_if (t_cmp (op_neD (hu64 hr)) (gv 3 rc) (g_nil (ρ := rI)) (rb_neNil (fun x _ => dat_I))) (fun z => ?_) (fun _ => GE.we g_int trivial)) (fun vl B5 H5 f5 rl => ?_) scDr.nd
    · have hne : 0 < ns.length := by
        cases ns with
        | nil => cases z
        | cons _ _ => simp
      exact ge_wmono (g_ixLE (ρ := rI) (xs := ns) (gv 3 rc) (g_modE (fun k => 0 ≤ k ∧ k < ns.length) (g_intE g.bi.int (GE.we (Pp := fun k => 0 ≤ k) (gv 4 (ra B4)) hat)) (GE.we (Pp := fun k => k = (ns.length : Int)) (GE.n (g_lenL g.bi.len (gv 3 rc))) rfl) (fun i j h1 h2 => by subst h2; exact ⟨by omega, Int.emod_nonneg _ (by omega), Int.emod_lt_of_pos _ (by omega)⟩)) fun k hk => hk) fun _ _ => trivial
    · obtain ⟨cl, _, rl⟩ := rl
      have rl : ∀ B', rI.r cl vl B' := fun _ => rl
      have F := F.trans f5
      have rc := (rL rI).ex f5.b rc
      refine wp_if (k := decide ((10 : Int) ^ (18 : Int).toNat ≤ cl) && decide (at' < (ns.length : Int))) F.i (t_and (t_cmp op_ge (gv 5 (rl B5)) (g_pow g_int g_int ⟨by decide, by decide, by decide⟩) rb_ge) fun _ => t_cmp op_lt (gv 4 (ra B5)) (GE.n (g_lenL g.bi.len (gv 3 rc))) rb_lt) (fun z B6 H6 f6 => ?_) fun _ B6 H6 f6 => ?_
      · have F := F.trans f6
        have hcl : 0 ≤ cl := by
          have := of_decide_eq_true (Bool.and_eq_true_iff.mp z).1
          have h2 : (0 : Int) ≤ 10 ^ (18 : Int).toNat := by decide
          omega
        refine wp_feed hu F.i (g_fdivE (fun k => 0 ≤ k) (GE.we (Pp := fun k => 0 ≤ k) (gv 5 (rl B6)) hcl) (GE.we (Pp := fun k => k = (m : Int)) (gv 1 (ρ := rI) (x := (m : Int)) r2) rfl) (fun i j h1 h2 => by subst h2; exact ⟨⟨by omega, by omega⟩, Int.ediv_nonneg h1 (by omega)⟩)) (gv 0 (rF.ex F.b r)) (.inr (.inl rfl)) fun B7 H7 f7 => ?_
        have F := F.trans f7
        exact wp_ret F.i (g_modE (fun k => 0 ≤ k ∧ k < m) (g_intE g.bi.int (GE.we (Pp := fun _ => True) (gv 5 (rl B7)) trivial)) (GE.we (Pp := fun k => k = (m : Int)) (gv 1 (ρ := rI) (x := (m : Int)) r2) rfl) (fun i j h1 h2 => by subst h2; exact ⟨by omega, Int.emod_nonneg _ (by omega), Int.emod_lt_of_pos _ (by omega)⟩)) fun v8 B8 H8 f8 r8 => q v8 B8 H8 (F.trans f8) r8
      · have F := F.trans f6
        refine wp_nil ?_
        refine wp_set 6 F.i (g_modE (fun k => 0 ≤ k ∧ k < 2147483563) (g_intE (Pa := fun k => True) g.bi.int (g_addE (fun k => True) (g_addE (fun k => True) (g_modE (fun k => True) (g_intE g.bi.int (GE.we (Pp := fun _ => True) (gv 5 (rl B6)) trivial)) (GE.we (Pp := fun k => k = 1000001311) g_int rfl) (fun i j _ h2 => ⟨by omega, trivial⟩)) (g_mulE (fun k => True) (GE.we (Pp := fun k => k = 73561) g_int rfl) (g_feed hu (gv 0 (rF.ex F.b r)) (.inr (.inr rfl))) (fun i j h1 h2 => ⟨.inl ⟨by omega, by omega⟩, trivial⟩)) (fun _ _ _ _ => trivial)) (GE.we (Pp := fun _ => True) g_int trivial) (fun _ _ _ _ => trivial))) (GE.we (Pp := fun k => k = 2147483563) g_int rfl) (fun i j _ h2 => by subst h2; exact ⟨by omega, Int.emod_nonneg _ (by omega), Int.emod_lt_of_pos _ (by omega)⟩)) (fun v7 B7 H7 f7 r7 => ?_) scDr.nd
        obtain ⟨mx, hmx, r7⟩ := r7
        have r7 : ∀ B', rI.r mx v7 B' := fun _ => r7
        have F := F.trans f7
        have gmx : ∀ {B' : Hp}, True := trivial
        refine wp_set 6 F.i (g_modE (fun k => 0 ≤ k ∧ k < 2147483477) (g_intE (Pa := fun k => True) g.bi.int (g_addE (fun k => True) (g_addE (fun k => True) (g_mulE (fun k => True) (GE.we (Pp := fun k => k = mx) (gv 6 (r7 B7)) rfl) (GE.we (Pp := fun k => k = mx) (gv 6 (r7 B7)) rfl) (fun i j h1 h2 => ⟨.inl ⟨by omega, by omega⟩, trivial⟩)) (g_mulE (fun k => True) (GE.we (Pp := fun k => k = 6104593) g_int rfl) (g_feed hu (gv 0 (rF.ex F.b r)) (.inr (.inr rfl))) (fun i j h1 h2 => ⟨.inl ⟨by omega, by omega⟩, trivial⟩)) (fun _ _ _ _ => trivial)) (GE.we (Pp := fun _ => True) g_int trivial) (fun _ _ _ _ => trivial))) (GE.we (Pp := fun k => k = 2147483477) g_int rfl) (fun i j _ h2 => by subst h2; exact ⟨by omega, Int.emod_nonneg _ (by omega), Int.emod_lt_of_pos _ (by omega)⟩)) (fun v8 B8 H8 f8 r8 => ?_) scDr.nd
        obtain ⟨my, hmy, r8⟩ := r8
        have r8 : ∀ B', rI.r my v8 B' := fun _ => r8
        have F := F.trans f8
        exact wp_ret F.i (g_modE (fun k => 0 ≤ k ∧ k < m) (g_intE (Pa := fun k => True) g.bi.int (g_fdivE (fun k => True) (g_modE (fun k => True) (g_intE (Pa := fun k => True) g.bi.int (g_addE (fun k => True) (g_mulE (fun k => True) (GE.we (Pp := fun k => k = my) (gv 6 (r8 B8)) rfl) (GE.we (Pp := fun k => k = my) (gv 6 (r8 B8)) rfl) (fun i j h1 h2 => ⟨.inl ⟨by omega, by omega⟩, trivial⟩)) (g_mulE (fun k => True) (GE.we (Pp := fun k => k = 937) g_int rfl) (GE.we (Pp := fun k => k = my) (gv 6 (r8 B8)) rfl) (fun i j h1 h2 => ⟨.inl ⟨by omega, by omega⟩, trivial⟩)) (fun _ _ _ _ => trivial))) (GE.we (Pp := fun k => k = 2147483399) g_int rfl) (fun i j _ h2 => ⟨by omega, trivial⟩)) (GE.we (Pp := fun k => k = 32) g_int rfl) (fun i j _ h2 => ⟨⟨by omega, by omega⟩, trivial⟩))) (GE.we (Pp := fun k => k = (m : Int)) (gv 1 (ρ := rI) (x := (m : Int)) r2) rfl) (fun i j h1 h2 => by subst h2; exact ⟨by omega, Int.emod_nonneg _ (by omega), Int.emod_lt_of_pos _ (by omega)⟩)) fun v9 B9 H9 f9 r9 => q v9 B9 H9 (F.trans f9) r9
/-- of any list -/
theorem cal_pick {α : Type} {ρ : R α} (g : GC K mg) (D1 : DDr K mg) (D : DPick K mg) : C8.Cal P w K mg base 2 "_law_pick" (sp2 rF (rL ρ) (fun _ xs => 0 < xs.length ∧ xs.length ≤ 100000) fun _ xs => (rW ρ (· ∈ xs)).r ()) [] := by
  refine D.cal scPick (fun vs H Q E ⟨x, y, v, u, B, e, _⟩ => by rw [e]; rfl) fun f cdv A outer s H vs Q E hr ⟨_, xs, v, u, B, e, i, r, r2, ⟨h1, h2⟩, q⟩ => ?_
  subst e
  exact wp_ret i (g_ixLE (gv 1 r2) (g_call2 (cal_draw g D1) hr (Nat.le_refl _) (gv 0 r) (g_lenL g.bi.len (gv 1 r2)) ⟨h1, h2⟩) fun k hk => hk) fun v5 B5 H5 f5 r5 => q v5 B5 H5 f5 r5
end
end KD
end
section
set_option Elab.async false
set_option linter.all false
set_option maxRecDepth 100000
set_option maxHeartbeats 4000000
/-! LE2: the law's pool, codes, named tables, letters, rows. -/
namespace KD
open PySem PySem.Spec PyProof.Rows L2 KS MS KB
open SX (S)
open MF (abc Gr labs codesA codesB codesC codesD codes codesF words nameW nameR nameN RowOk gr_of codes_ok codes_w pools_ok codes_n)
theorem scCodes : FnScope ["_law_some"] [] (defScope (topS 45)) := ⟨rfl, rfl, rfl, by decide +kernel, rfl, by decide +kernel, by decide +kernel⟩
abbrev nmNa : List Str := ["_law_code", "_law_pool_here", "_law_words", "_law_rows", "_law_word", "_law_sign"]
theorem scNa : FnScope nmNa ["_law_code", "_law_pool_here"] (defScope (topS 43)) := ⟨rfl, rfl, rfl, by decide +kernel, rfl, by decide +kernel, by decide +kernel⟩
theorem scLet : FnScope ["_law_grid_here", "_law_found", "_law_row_here"] ["_law_grid_here"] (defScope (topS 46)) := ⟨rfl, rfl, rfl, by decide +kernel, rfl, by decide +kernel, by decide +kernel⟩
abbrev nmRo : List Str := ["_law_feed_here", "_law_width", "_law_letters_here", "_law_under", "_law_k"]
theorem scRo : FnScope nmRo ["_law_feed_here", "_law_width", "_law_letters_here"] (defScope (topS 44)) := ⟨rfl, rfl, rfl, by decide +kernel, rfl, by decide +kernel, by decide +kernel⟩
theorem spl_codes : ∀ c ∈ codesF, TL.spl [32] 0 [] c = words [] c := by decide +kernel
theorem int_codes : ∀ c ∈ codesF, PySem.intText? (S ((words [] c).headD [])) = some ((nameN c : Nat) : Int) ∧ ((words [] c).headD []).length ≤ 640 ∧ words [] c ≠ [] := by decide +kernel
theorem idx_abc : ∀ c, 97 ≤ c → c < 105 → ∃ rest, Builtin.Str.occurrences (S [97, 98, 99, 100, 101, 102, 103, 104]) (S [c]) 0 (S [97, 98, 99, 100, 101, 102, 103, 104]).length 1 = (c - 97) :: rest := by
  intro c h1 h2
  have h : c = 97 ∨ c = 98 ∨ c = 99 ∨ c = 100 ∨ c = 101 ∨ c = 102 ∨ c = 103 ∨ c = 104 := by omega
  rcases h with rfl | rfl | rfl | rfl | rfl | rfl | rfl | rfl <;> exact ⟨[], by decide +kernel⟩
theorem insS_sg (c : Nat) : ∀ l : List Nat, insS ltL [c] (sg l) = sg (insS ltN c l)
  | [] => rfl
  | d :: l => by
    show insS ltL [c] ([d] :: sg l) = _
    unfold insS
    rw [ltL_sg]
    split
    · rw [insS_sg c l]; rfl
    · rfl
theorem ssort_sg : ∀ l : List Nat, ssort ltL (sg l) = sg (ssort ltN l)
  | [] => rfl
  | c :: l => by
    show insS ltL [c] (ssort ltL (sg l)) = _
    rw [ssort_sg l, insS_sg]
    rfl
section
variable {P : Program} {w : World} {K : PySem.W.Frag} {mg : Str → Option Value} {base : Heap}
abbrev DCodes (K : PySem.W.Frag) (mg : Str → Option Value) : Prop := Dfn K mg "_law_codes" (topS 45) []
abbrev DNa (K : PySem.W.Frag) (mg : Str → Option Value) : Prop := Dfn K mg "_law_named" (topS 43) ["_law_code", "_law_pool_here"]
abbrev DLet (K : PySem.W.Frag) (mg : Str → Option Value) : Prop := Dfn K mg "_law_letters" (topS 46) ["_law_grid_here"]
abbrev DRo (K : PySem.W.Frag) (mg : Str → Option Value) : Prop := Dfn K mg "_law_row" (topS 44) ["_law_feed_here", "_law_width", "_law_letters_here"]
theorem cal_pool (g : GC K mg) (D1 : DDr K mg) (D2 : DPick K mg) (D : DPool K mg) : C8.Cal P w K mg base 3 "_law_pool" (sp1 rF (fun _ => True) fun _ => (rW (rL rT) fun ls => ∃ p ∈ MF.pools, ls = sg p).r ()) [] := by
  refine D.cal scPool (fun vs H Q E ⟨x, v, B, e, _⟩ => by rw [e]; rfl) fun f cdv A outer s H vs Q E hr ⟨_, v, B, e, i, r, _, q⟩ => ?_
  subst e
  have hp : ∀ p ∈ MF.pools, p.length ≤ 100000 := by decide +kernel
  refine wp_ret i (P := (rW (rL rT) fun ls => ∃ p ∈ MF.pools, ls = sg p).r ()) ?_ fun v B1 H1 f p => q v B1 H1 f p
  exact g_callTy (A := fun vs H1 => ∃ v, vs = [v] ∧ (rW rT (· ∈ MF.pools)).r () v H1) (listS rfl) g.bi.list (ga1 (ρ := rW rT (· ∈ MF.pools)) (x := ()) (ge_wmono (g_call2 (cal_pick (ρ := rT) g D1 D2) hr (by decide) (gv 0 r) (ge_is (y := MF.pools) (g_lstL (gaL_cons g_str (gaL_cons g_str (gaL_cons g_str (gaL_cons g_str (gaL_cons g_str gaL_nil))))) (by decide)) (by decide +kernel)) ⟨by decide, by decide⟩) fun _ h => h)) (fun vs B1 H1 _ ih ⟨v, e1, l, hl, r⟩ Q q => ⟨l, by rw [e1, r], hp l hl, fun o ho => q _ _ _ (Fr.new ih ho) ⟨sg l, ⟨l, hl, rfl⟩, lT.mpr ⟨o, rfl, upd_same⟩⟩⟩) (by decide +kernel)
theorem cal_codes (g : GC K mg) (D : DCodes K mg) : C8.Cal P w K mg base 1 "_law_codes" (sp0 ((rL rT).r codes)) [] := by
  refine D.cal scCodes (fun vs H Q E ⟨B, e, _⟩ => by rw [e]; rfl) fun f cdv A outer s H vs Q E hr ⟨B, e, i, q⟩ => ?_
  subst e
  refine wp_set 0 i (ge_is (ρ := rL rT) (y := codesA) (g_lstL (gaL_cons g_str (gaL_cons g_str (gaL_cons g_str (gaL_cons g_str gaL_nil)))) (by decide)) (by decide +kernel)) (fun v1 B1 H1 f1 r1 => ?_) scCodes.nd
  refine wp_set 0 f1.i (g_catL (gv 0 r1) (ge_is (ρ := rL rT) (y := codesB) (g_lstL (gaL_cons g_str (gaL_cons g_str (gaL_cons g_str (gaL_cons g_str (gaL_cons g_str (gaL_cons g_str (gaL_cons g_str (gaL_cons g_str gaL_nil)))))))) (by decide)) (by decide +kernel)) (by decide)) (fun v2 B2 H2 f2 r2 => ?_) scCodes.nd
  have F := f1.trans f2
  refine wp_set 0 F.i (g_catL (gv 0 r2) (ge_is (ρ := rL rT) (y := codesC) (g_lstL (gaL_cons g_str (gaL_cons g_str (gaL_cons g_str (gaL_cons g_str (gaL_cons g_str (gaL_cons g_str (gaL_cons g_str gaL_nil))))))) (by decide)) (by decide +kernel)) (by decide)) (fun v3 B3 H3 f3 r3 => ?_) scCodes.nd
  have F := F.trans f3
  exact wp_ret F.i (g_catL (gv 0 r3) (ge_is (ρ := rL rT) (y := codesD) (g_lstL (gaL_cons g_str (gaL_cons g_str (gaL_cons g_str (gaL_cons g_str gaL_nil)))) (by decide)) (by decide +kernel)) (by decide)) fun v4 B4 H4 f4 r4 => q v4 B4 H4 (F.trans f4) r4
theorem cal_na (g : GC K mg) (D : DNa K mg) : C8.Cal P w K mg base 1 "_law_named" (sp2 rT (rL rT) (fun c ls => c ∈ codesF ∧ ∃ p ∈ MF.pools, ls = sg p) fun c ls => rG.r (nameN c, nameR c ls.flatten)) [] := by
  refine D.cal scNa (fun vs H Q E ⟨x, y, v, u, B, e, _⟩ => by rw [e]; rfl) fun f cdv A outer s H vs Q E hr ⟨c, ls, v, u, B, e, i, r, r2, ⟨hc, p, hp, els⟩, q⟩ => ?_
  subst e
  subst els
  have hcl := codes_n.2.2 c hc
  have hw := codes_w c hc
  obtain ⟨pl, _⟩ := pools_ok p hp
  obtain ⟨ci1, ci2, ci3⟩ := int_codes c hc
  refine wp_set 2 i (ge_is (g_split (sep := [32]) (gv 0 r) g_str (by decide) (by decide) (by omega)) (spl_codes c hc)) (fun v1 B1 H1 f1 r1 => ?_) scNa.nd
  have hwl : ((words [] c).drop 1).length ≤ 9 := (codes_ok c hc p hp).2.1
  refine wp_setLcM 3 (own := [("_law_word", 4), ("_law_sign", 5)]) (jt := 4) (ρ := rT) (τ := rT) f1.i (fun _ => true) (fun x => nameW p x) (gi_list (g_slLFrom (i := 1) (gv 2 r1) g_int)) (by omega) (fun a va B2 ha x2 ra s0 H0 C cl fp => ⟨ts_nil, fun _ => ge_is (g_join (ls := a.map fun d => [p.getD (d - 97) 0]) (ge_is (g_lc (ρ := rT) (τ := rT) (own := [("_law_sign", 5)]) (j := 5) (xs := sg a) (fun _ => true) (fun l => [p.getD (l.headD 0 - 97) 0]) rfl scNa.nd (by apply blkOk_by; change blkC nmNa (relabel _ (envOfC "_law_named" (defScope (topS 43)) 0 0 Value.none)) _ _ = true; decide +kernel) (fun _ _ _ _ _ => pg_name (i := 5) scNa.nd rfl (.inl rfl)) (gi_str (gv 4 ra)) (by have := (hw a ha).1; rw [len_sg]; omega) fun l vl B3 hl x3 rl s1 H1 C1 cl1 fp1 => ⟨ts_nil, fun _ => ?_⟩) (by rw [filt]; unfold sg; rw [List.map_map]; rfl)) ?_) ?_⟩) (fun l ws B2 H2 m2 pr2 => ?_) rfl scNa.nd (by apply blkOk_by; change blkC nmNa (defScope (topS 43)) _ _ = true; decide +kernel) (fun _ _ _ _ _ => pg_name (i := 4) scNa.nd rfl (.inl rfl)) (by rfl)
  · obtain ⟨d, hd, rfl⟩ := List.mem_map.mp hl
    obtain ⟨h1, h2⟩ := (hw a ha).2 d hd
    exact g_ixL (gv 1 ((rL rT).ex (f1.b.trans (x2.trans x3)) r2)) (GE.n (g_index (l := [97, 98, 99, 100, 101, 102, 103, 104]) (ge_is g_str (by decide +kernel)) (gv 5 rl) (idx_abc d h1 h2))) (by unfold sg; rw [List.getElem?_map, getD_at (d := 0) (by omega)]; rfl)
  · have h2 := (hw a ha).1
    have : ((a.map fun d => [p.getD (d - 97) 0]).map (·.length)).sum ≤ a.length * 1 := by
      rw [List.map_map]
      exact MF.sum_le fun x _ => Nat.le_refl _
    omega
  · unfold nameW
    have := flat_sg (a.map fun d => p.getD (d - 97) 0)
    unfold sg at this
    rw [List.map_map] at this
    exact this
  · rw [filt] at pr2
    have ew := rT_list pr2
    subst ew
    have F := f1.trans m2.fin
    have hl9 : (((words [] c).drop 1).map (nameW p)).length ≤ 4000 := by rw [List.length_map]; omega
    refine wp_ret m2.fin.i (g_pair (ρ := rN) (x := nameN c) (ge_nat (g_intS g.bi.int (g_ixL (i := 0) (gv 2 ((rL rT).ex m2.fin.b r1)) g_int ?_) ci1 ci2) rfl) (g_tupleL g.bi.tuple (g_sortSetT rfl g.bi.sorted g.bi.set (gv 3 (lT.mpr ⟨l, rfl, upd_same⟩)) (metS hl9)))) fun v4 B4 H4 f4 r4 => q v4 B4 H4 (F.trans f4) ?_
    · cases h : words [] c with
      | nil => exact absurd h ci3
      | cons x y => rfl
    · show rG.r (nameN c, nameR c (sg p).flatten) v4 B4
      rw [flat_sg]
      exact r4
theorem cal_let (g : GC K mg) (D : DLet K mg) : C8.Cal P w K mg base 1 "_law_letters" (sp1 rG (fun gr => gr.2.length ≤ 11 ∧ ∀ l ∈ gr.2, l.length ≤ 4) fun gr => (rL rT).r (sg (labs gr.2))) [] := by
  refine D.cal scLet (fun vs H Q E ⟨x, v, B, e, _⟩ => by rw [e]; rfl) fun f cdv A outer s H vs Q E hr ⟨⟨wd, rows⟩, v, B, e, i, r, ⟨h1, h2⟩, q⟩ => ?_
  subst e
  have hl : rows.flatten.length ≤ 44 := flat_len h1 h2
  refine wp_setN 1 (fun l hl0 => ?_) scLet.nd
  have m : One B H l (.lst []) B _ := One.new (Fr.refl i) hl0 nf_lst
  refine wp_for (ρ := rT) (xs := rows) (fun pre σ' Bj Hj => ∃ (a : Option V), σ' = [some v, some (.ref l), a] ∧ One B H l (.lst ((sg pre.flatten).map tx)) Bj Hj) m.F.i (gi_tup (g_snd (gv 0 r) g_int)) (pg_name (i := 2) scLet.nd rfl (.inl rfl)) (fun B2 H2 f2 => ⟨none, rfl, m.step f2⟩) (fun pre a post v' σ' Bj H2 Bb H3 hx x2 x3 ⟨a1, e, mj⟩ f3 r3 => ?_) (fun σ' B2 H2 x1 x2 ⟨a1, e, mj⟩ => ?_) rfl (hgm := gm_name)
  · subst e
    have ha : a ∈ rows := by rw [hx]; exact List.mem_append_right _ (List.mem_cons_self ..)
    have hpre : pre.flatten.length ≤ rows.flatten.length := by rw [hx, List.flatten_append, List.length_append]; omega
    have hal := h2 a ha
    have mb := mj.step f3
    refine wp_ext (ρ := rT) (ys := sg a) mb.F.i (gvv 1) (g_listS rfl g.bi.list (gv 2 r3) (by omega)) mb.h (by rw [List.length_map, len_sg, len_sg]; omega) (fun ws B4 H4 f4 pr4 h4 => ?_)
    have ew := rT_list pr4
    subst ew
    have m4 := (mb.step f4).put (o' := .lst ((sg pre.flatten).map tx ++ (sg a).map tx)) nf_lst
    refine wp_nil ⟨B4, f4.b, m4.F.i, _, rfl, ?_⟩
    have e : (sg (pre ++ [a]).flatten).map tx = (sg pre.flatten).map tx ++ (sg a).map tx := by
      rw [← List.map_append]
      congr 1
      unfold sg
      rw [List.flatten_append, List.map_append]
      simp
    rw [e]
    exact m4
  · subst e
    refine wp_ret mj.fin.i (ge_is (g_sortSetT rfl g.bi.sorted g.bi.set (gv 1 (lT.mpr ⟨l, rfl, upd_same⟩)) (metS (by rw [len_sg]; omega))) (y := sg (labs rows)) (usort_sg _)) fun v5 B5 H5 f5 r5 => q v5 B5 H5 (mj.fin.trans f5) r5
theorem cal_row (g : GC K mg) (D1 : DDr K mg) (D2 : DPick K mg) (D : DRo K mg) : C8.Cal P w K mg base 3 "_law_row" (sp3 rF rN (rL rT) (fun _ n ls => n ≤ 100 ∧ ∃ L, ls = sg L ∧ 0 < L.length ∧ L.length ≤ 100) fun _ n ls => (rW rT (RowOk n ls.flatten)).r ()) [] := by
  refine D.cal scRo (fun vs H Q E ⟨x, y, z, v, u, t, B, e, _⟩ => by rw [e]; rfl) fun f cdv A outer s H vs Q E hr ⟨_, n, ls, v, u, t, B, e, i, r, r2, r3, ⟨hn, L, eL, h1, h2⟩, q⟩ => ?_
  subst e
  subst eL
  have lsL := len_sg L
  refine wp_setLcM 3 (own := [("_law_k", 4)]) (jt := 4) (ρ := rN) (τ := rW rT (· ∈ sg L)) i (fun _ => true) (fun _ => ()) (gi_range (n := n) g.bi.range (gv 1 (ρ := rI) (x := (n : Int)) r2) (by omega)) (by rw [List.length_range]; omega) (fun a va B2 ha x2 ra s0 H0 C cl fp => ⟨ts_nil, fun _ => g_call2 (cal_pick (ρ := rT) g D1 D2) hr (Nat.le_refl _) (gv 0 (rF.ex x2 r)) (gv 2 ((rL rT).ex x2 r3)) ⟨by omega, by omega⟩⟩) (fun l ws B2 H2 m2 pr2 => ?_) rfl scRo.nd (by apply blkOk_by; change blkC nmRo (defScope (topS 44)) _ _ = true; decide +kernel) (fun _ _ _ _ _ => pg_name (i := 4) scRo.nd rfl (.inl rfl)) (by rfl)
  obtain ⟨xs, hx1, hx2, hx3⟩ := lw_split pr2
  have ew := rT_list hx3
  subst ew
  rw [filt, List.length_map, List.length_range] at hx1
  obtain ⟨us, hus⟩ : ∃ us : List Nat, xs = sg us ∧ ∀ c ∈ us, c ∈ L := by
    have : ∀ xs : List (List Nat), (∀ x ∈ xs, x ∈ sg L) → ∃ us : List Nat, xs = sg us ∧ ∀ c ∈ us, c ∈ L := by
      intro xs
      induction xs with
      | nil => exact fun _ => ⟨[], rfl, fun c hc => nomatch hc⟩
      | cons x xs ih =>
        intro h
        obtain ⟨us, e1, e2⟩ := ih fun y hy => h y (List.mem_cons_of_mem _ hy)
        obtain ⟨c, hc, e3⟩ := List.mem_map.mp (h x (List.mem_cons_self ..))
        refine ⟨c :: us, by rw [e1, ← e3]; rfl, fun d hd => ?_⟩
        rcases List.mem_cons.mp hd with rfl | hd
        · exact hc
        · exact e2 d hd
    exact this xs hx2
  obtain ⟨exs, hmem⟩ := hus
  subst exs
  rw [len_sg] at hx1
  have rus : (rL rT).r (sg us) (.ref l) (upd B2 l (.lst ((sg us).map tx))) := lT.mpr ⟨l, rfl, upd_same⟩
  have hperm := perm_ssort (lt := ltN) (l := us)
  have hlen := hperm.length_eq
  have xf := m2.fin.b
  refine wp_ret m2.fin.i (g_catE (Pa := (· ∈ sg L)) (Pb := fun m => m = ssort ltN us) (RowOk n (sg L).flatten) (g_call2 (cal_pick (ρ := rT) g D1 D2) hr (Nat.le_refl _) (gv 0 (rF.ex xf r)) (gv 2 ((rL rT).ex xf r3)) ⟨by omega, by omega⟩) (GE.we (ge_is (g_join (g_sortT g.bi.sorted (gv 3 rus)) ?_) (y := ssort ltN us) ?_) rfl) fun l1 m1 hl1 hm1 => ?_) fun v5 B5 H5 f5 r5 => q v5 B5 H5 (m2.fin.trans f5) r5
  · rw [ssort_sg, sum_sg]
    omega
  · rw [ssort_sg, flat_sg]
  · obtain ⟨c, hc, rfl⟩ := List.mem_map.mp hl1
    subst hm1
    refine ⟨by show 1 + (ssort ltN us).length ≤ _; omega, ?_, ?_, ?_⟩
    · show (ssort ltN us).length + 1 = n + 1
      omega
    · intro d hd
      rw [flat_sg]
      rcases List.mem_cons.mp (show d ∈ c :: ssort ltN us from hd) with rfl | hd
      · exact hc
      · exact hmem d (hperm.mem_iff.mp hd)
    · exact wk_ssort stoN us
end
end KD
end
section
set_option Elab.async false
set_option linter.all false
set_option maxRecDepth 100000
set_option maxHeartbeats 4000000
/-! LE3: the law's table and shape. -/
namespace KD
open PySem PySem.Spec PyProof.Rows L2 KS MS KB
open SX (S)
open MF (abc Gr labs codes codesF words nameW nameR nameN RowOk gr_of codes_ok codes_w pools_ok codes_n Sh grow sh_dot)
abbrev nmGr : List Str := ["_law_feed_here", "_law_most", "_law_pool_here", "_law_codes_here", "_law_width", "_law_rows", "_law_letters_here", "_law_code", "_law_k"]
theorem scGr : FnScope nmGr ["_law_feed_here", "_law_most"] (defScope (topS 47)) := ⟨rfl, rfl, rfl, by decide +kernel, rfl, by decide +kernel, by decide +kernel⟩
abbrev nmTr : List Str := ["_law_feed_here", "_law_width", "_law_most", "_law_tree_here", "_law_lap", "_law_spot", "_law_k"]
theorem scTr : FnScope nmTr ["_law_feed_here", "_law_width", "_law_most"] (defScope (topS 48)) := ⟨rfl, rfl, rfl, by decide +kernel, rfl, by decide +kernel, by decide +kernel⟩
section
variable {X : Cx} {a b : Expr} {σ : L2.St} {B : Hp} {pos p2 : Pos} {α : Type} {ρ : R α}
/-- a list's first ones, how many unknown -/
theorem g_slLToE {xs : List α} {Pp : Int → Prop} (Pq : List α → Prop) (ha : GE X a σ B ((rL ρ).r xs)) (hb : GE X b σ B ((rWI Pp).r ())) (h : ∀ k, Pp k → 0 ≤ k ∧ Pq (xs.take k.toNat)) : GE X (.Subscript a (.Slice none (some b) none p2) pos) σ B ((rW (rL ρ) Pq).r ()) := fun B1 H1 q i0 Q k =>
  W.of (pe_slice sl_list peW po_none (po_some peW)) (ha B1 H1 q i0 _ fun v B2 H2 e2 rv => hb B2 H2 (q.trans e2.b) e2.i _ fun w B3 H3 e3 ⟨n, pn, rw'⟩ => by
    obtain ⟨p, vs, e1, h1, pr⟩ := (rL ρ).ex e3.b rv
    obtain ⟨g1, g2⟩ := h n pn
    obtain ⟨m, rfl⟩ : ∃ m : Nat, n = (m : Int) := ⟨n.toNat, by omega⟩
    rw [Int.toNat_natCast] at g2
    exact ⟨m, rw', p, vs, e1, .inl (.inl (e3.i.lst h1)), fun o ho => k _ _ _ ((e2.trans e3).trans (Fr.new e3.i ho)) ⟨xs.take m, g2, o, _, rfl, by rw [upd_same, cutV_to], p_take m (pmap pr fun x v r => ρ.ex (Fr.new e3.i ho).b r)⟩⟩)
theorem g_neg1 {k : Nat} {l : List Nat} : True := trivial
end
section
variable {P : Program} {w : World} {K : PySem.W.Frag} {mg : Str → Option Value} {base : Heap}
abbrev DGr (K : PySem.W.Frag) (mg : Str → Option Value) : Prop := Dfn K mg "_law_grid" (topS 47) ["_law_feed_here", "_law_most"]
abbrev DTr (K : PySem.W.Frag) (mg : Str → Option Value) : Prop := Dfn K mg "_law_tree" (topS 48) ["_law_feed_here", "_law_width", "_law_most"]
/-- the law's own defs, so far -/
structure LD (K : PySem.W.Frag) (mg : Str → Option Value) : Prop where
  dr : DDr K mg
  pick : DPick K mg
  pool : DPool K mg
  na : DNa K mg
  row : DRo K mg
  codes : DCodes K mg
  let' : DLet K mg
theorem named_ok {c p : List Nat} (hc : c ∈ codesF) (hp : p ∈ MF.pools) : (nameN c = 2 ∨ nameN c = 3) ∧ (nameR c p).length ≤ 9 ∧ nameR c p ≠ [] ∧ (∀ r ∈ nameR c p, RowOk (nameN c) (p.take 3) r) ∧ (∀ d ∈ p.take 3, d ∈ abc) ∧ (p.take 3).length ≤ 3 := by
  obtain ⟨h1, h2, h3, h4, h5⟩ := codes_ok c hc p hp
  refine ⟨h1, ?_, ?_, fun r hr => h4 r ((mem_usort stoL).mp hr), h5, by rw [List.length_take]; omega⟩
  · refine Nat.le_trans (usort_len _) ?_
    rw [List.length_map]
    exact h2
  · intro e
    obtain ⟨x, hx⟩ := List.exists_mem_of_ne_nil _ h3
    have : nameW p x ∈ nameR c p := (mem_usort stoL).mpr (List.mem_map.mpr ⟨x, hx, rfl⟩)
    rw [e] at this
    cases this
theorem labs_sub {wd : Nat} {L : List Nat} {rows : List (List Nat)} (h : ∀ r ∈ rows, RowOk wd L r) : ∀ c ∈ labs rows, c ∈ L := fun c hc => by
  obtain ⟨r, h1, h2⟩ := MF.mem_labs.mp hc
  exact (h r h1).mem c h2
theorem labs_few {wd : Nat} {L : List Nat} {rows : List (List Nat)} (h : ∀ r ∈ rows, RowOk wd L r) : (labs rows).length ≤ L.length :=
  (asc_nd stoN (asc_usort stoN _)).length_le_of_subset (labs_sub h)
theorem row_up {wd : Nat} {L L' r : List Nat} (h : RowOk wd L r) (s : ∀ c ∈ r, c ∈ L') : RowOk wd L' r := ⟨h.len, s, h.wk⟩
theorem cal_gr (g : GC K mg) (D : LD K mg) (D2 : DGr K mg) : C8.Cal P w K mg base 4 "_law_grid" (sp2 rF rN (fun _ m => m = 3) fun _ _ => (rW rG fun gr => Gr gr.1 gr.2).r ()) [] := by
  refine D2.cal scGr (fun vs H Q E ⟨x, y, v, u, B, e, _⟩ => by rw [e]; rfl) fun f cdv A outer s H vs Q E hr ⟨_, mo, v, u, B, e, i, r, r2, hmo, q⟩ => ?_
  subst e
  subst hmo
  refine wp_set 2 i (P := (rW (rL rT) fun ls => ∃ p ∈ MF.pools, ls = sg p).r ()) (g_call1 (cal_pool g D.dr D.pick D.pool) hr (by decide) (gv 0 r) trivial) (fun vp B1 H1 F rp => ?_) scGr.nd
  obtain ⟨ls, ⟨p, hp, els⟩, rp⟩ := rp
  subst els
  obtain ⟨pl8, pabc⟩ := pools_ok p hp
  obtain ⟨cn1, cn2, cn3⟩ := codes_n
  refine wp_setLcM 3 (own := [("_law_code", 7)]) (jt := 7) (ρ := rT) (τ := rT) F.i (fun c => !decide (100 ∈ c)) (fun c => c) (gi_list (g_call0 (cal_codes g D.codes) hr (by decide))) (by decide +kernel) (fun a va B2 ha x2 ra s0 H0 C cl fp => ⟨ts_one (t_cmp op_notIn_sign (g_ixS (i := 3) (l := [97, 98, 99, 100, 101, 102, 103, 104]) (k := 100) (ge_is g_str (by decide +kernel)) (gv 1 (ρ := rI) (x := ((3 : Nat) : Int)) r2) rfl (by decide)) (gv 7 ra) rb_notin), fun _ => gv 7 ra⟩) (fun l ws B2 H2 m2 pr2 => ?_) rfl scGr.nd (by apply blkOk_by; change blkC nmGr (defScope (topS 47)) _ _ = true; decide +kernel) (fun _ _ _ _ _ => pg_name (i := 7) scGr.nd rfl (.inl rfl)) (by rfl)
  have ew := rT_list pr2
  rw [List.map_id'] at ew
  subst ew
  have m2 : KB.One _ _ l (.lst (codesF.map tx)) B2 H2 := m2
  have F := F.trans m2.fin
  have rp := (rL rT).ex m2.fin.b rp
  have rcs : (rL rT).r codesF (.ref l) (upd B2 l (.lst (codesF.map tx))) := lT.mpr ⟨l, rfl, upd_same⟩
  generalize hB3 : upd B2 l (.lst (codesF.map tx)) = B3 at *
  refine wp_pairW 4 5 (ρ := rN) (τ := rTu rT) (Pp := fun x => ∃ c ∈ codesF, x = (nameN c, nameR c p)) F.i (g_call2E (Pp := (· ∈ codesF)) (cal_na g D.na) hr (by decide) (g_call2 (cal_pick (ρ := rT) g D.dr D.pick) hr (by decide) (gv 0 (rF.ex F.b r)) (gv 3 rcs) ⟨cn2, by omega⟩) (gv 2 rp) (fun c hc => ⟨hc, p, hp, rfl⟩) fun c v H hc h => ⟨_, ⟨c, hc, rfl⟩, by rw [flat_sg] at h; exact h⟩) (fun wd rows vw vr B4 H4 hx f4 rw4 rr4 => ?_) rfl scGr.nd
  obtain ⟨c, hc, ecr⟩ := hx
  obtain ⟨n1, n2, n3, n4, n5, n6⟩ := named_ok hc hp
  have F := F.trans f4
  have rp := (rL rT).ex f4.b rp
  have rows_le : ∀ x ∈ rows, x.length ≤ 4 := fun x hx => by
    cases ecr
    have := (n4 x hx).len
    rcases n1 with h | h <;> omega
  have hrl9 : rows.length ≤ 9 := by cases ecr; exact n2
  refine wp_set 6 F.i (g_call1 (ρ := rG) (x := (wd, rows)) (cal_let g D.let') hr (by decide) (g_pair (ρ := rN) (τ := rTu rT) (gv 4 rw4) (gv 5 rr4)) ⟨by show rows.length ≤ 11; omega, rows_le⟩) (fun vl B5 H5 f5 rl5 => ?_) scGr.nd (hx := .inr rfl)
  have rl5 : (rL rT).r (sg (labs rows)) vl B5 := rl5
  have F := F.trans f5
  have rp := (rL rT).ex f5.b rp
  have rr5 := (rTu rT).ex f5.b rr4
  have hne0 : rows ≠ [] := by cases ecr; exact n3
  have hrow0 : ∀ r ∈ rows, RowOk wd (labs rows) r := fun r hr' => by
    have := n4
    cases ecr
    exact row_up (this r hr') fun c hc => MF.mem_labs.mpr ⟨r, hr', hc⟩
  have hL3 : (labs rows).length ≤ 3 ∧ ∀ d ∈ labs rows, d ∈ abc := by
    cases ecr
    exact ⟨Nat.le_trans (labs_few n4) n6, fun d hd => n5 d (labs_sub n4 d hd)⟩
  have hL0 : 0 < (labs rows).length := by
    obtain ⟨x, hx⟩ := List.exists_mem_of_ne_nil _ hne0
    have h1 := (hrow0 x hx).len
    cases x with
    | nil => cases h1
    | cons d y => exact List.length_pos_of_mem ((hrow0 _ hx).mem d (List.mem_cons_self ..))
  have hw23 : wd = 2 ∨ wd = 3 := by cases ecr; exact n1
  refine wp_cut (fun σ2 H6 => ∃ (B6 : Hp) (wd : Nat) (L : List Nat) (rows : List (List Nat)) (vw vr vl : V), σ2 = [some v, some u, some vp, some (.ref l), some vw, some vr, some vl, none, none] ∧ KB.Fr B H B6 H6 ∧ rN.r wd vw B6 ∧ (rL rT).r (sg L) vl B6 ∧ ((rL rT).r rows vr B6 ∨ (rTu rT).r rows vr B6) ∧ (wd = 2 ∨ wd = 3) ∧ rows ≠ [] ∧ rows.length ≤ 9 ∧ (∀ r ∈ rows, RowOk wd L r) ∧ 0 < L.length ∧ L.length ≤ 3 ∧ ∀ d ∈ L, d ∈ abc) ?_ ?_
  · refine ws_ifE F.i (t_eqE (Pa := fun k => 0 ≤ k ∧ k < ((3 : Nat) : Int)) (g_call2 (cal_draw g D.dr) hr (by decide) (gv 0 (rF.ex F.b r)) (ge_nat (n := 3) g_int rfl) ⟨by decide, by decide⟩) (GE.we (Pp := fun _ => True) g_int trivial)) (fun _ B6 H6 f6 => ?_) (fun _ B6 H6 f6 => ?_)
    · have F := F.trans f6
      have rp := (rL rT).ex f6.b rp
      refine wp_set 4 F.i (g_addE (fun k => k = 2 ∨ k = 3) (GE.we (Pp := fun k => k = 2) g_int rfl) (g_call2 (P := (rWI fun k => 0 ≤ k ∧ k < ((2 : Nat) : Int)).r ()) (cal_draw g D.dr) hr (by decide) (gv 0 (rF.ex F.b r)) (ge_nat (n := 2) g_int rfl) ⟨by decide, by decide⟩) (fun i j h1 h2 => by omega)) (fun vw7 B7 H7 f7 r7 => ?_) scGr.nd (hx := .inr rfl)
      obtain ⟨k7, hk7, r7⟩ := r7
      obtain ⟨w7, rfl⟩ : ∃ n : Nat, k7 = (n : Int) := ⟨k7.toNat, by omega⟩
      have F := F.trans f7
      have rp := (rL rT).ex f7.b rp
      refine wp_set 6 F.i (g_slLToE (ρ := rT) (Pp := fun k => 1 ≤ k ∧ k ≤ 3) (fun ls => ∃ n : Nat, 1 ≤ n ∧ n ≤ 3 ∧ ls = (sg p).take n) (gv 2 rp) (g_addE (fun k => 1 ≤ k ∧ k ≤ 3) (GE.we (Pp := fun k => k = 1) g_int rfl) (g_call2 (P := (rWI fun k => 0 ≤ k ∧ k < ((3 : Nat) : Int)).r ()) (cal_draw g D.dr) hr (by decide) (gv 0 (rF.ex F.b r)) (gv 1 (ρ := rN) (x := 3) r2) ⟨by decide, by decide⟩) (fun i j h1 h2 => by omega)) (fun k hk => ⟨by omega, k.toNat, by omega, by omega, rfl⟩)) (fun vl8 B8 H8 f8 r8 => ?_) scGr.nd (hx := .inr rfl)
      obtain ⟨ls8, ⟨n8, hn1, hn3, e8⟩, r8⟩ := r8
      have eL : ls8 = sg (p.take n8) := by rw [e8]; unfold sg; rw [List.map_take]
      subst eL
      have hLl : (p.take n8).length = n8 := by rw [List.length_take]; omega
      have F := F.trans f8
      refine wp_setLcE 5 (ρ := rN) (τ := rT) (own := [("_law_k", 8)]) (j := 8) (Px := fun xs => ∃ n : Nat, (1 ≤ (n : Int) ∧ (n : Int) ≤ 8) ∧ xs = List.range n) (Pp := RowOk w7 (p.take n8)) (m := 8) F.i (gi_rangeE (Pp := fun k => 1 ≤ k ∧ k ≤ 8) g.bi.range (g_addE (fun k => 1 ≤ k ∧ k ≤ 8) (GE.we (Pp := fun k => k = 1) g_int rfl) (g_call2 (P := (rWI fun k => 0 ≤ k ∧ k < ((8 : Nat) : Int)).r ()) (cal_draw g D.dr) hr (by decide) (gv 0 (rF.ex F.b r)) (ge_nat (n := 8) g_int rfl) ⟨by decide, by decide⟩) (fun i j h1 h2 => by omega)) (fun k hk => by omega)) (fun xs ⟨n, h1, h2⟩ => by rw [h2, List.length_range]; omega) (by decide) (fun a va B9 x9 ra s0 H0 C cl fp => ?_) (fun vr9 B9 H9 f9 r9 => ?_) rfl scGr.nd (by apply blkOk_by; change blkC nmGr (defScope (topS 47)) _ _ = true; decide +kernel) (fun _ _ _ _ _ => pg_name (i := 8) scGr.nd rfl (.inl rfl)) (by rfl)
      · exact ge_wmono (g_call3 (ρ := rF) (τ := rN) (x := ()) (y := w7) (cal_row g D.dr D.pick D.row) hr (by decide) (gv 0 (rF.ex (F.b.trans x9) r)) (gv 4 (ρ := rN) (x := w7) r7) (gv 6 ((rL rT).ex x9 r8)) ⟨by omega, _, rfl, by omega, by omega⟩) (fun x hx => by rw [flat_sg] at hx; exact hx)
      · obtain ⟨rs, ⟨⟨ys, ⟨n, hn, e1⟩, e2⟩, e3⟩, r9⟩ := r9
        rw [e1, List.length_range] at e2
        refine wp_nil ⟨B9, w7, p.take n8, rs, _, _, _, rfl, F.trans f9, r7, (rL rT).ex f9.b r8, .inl r9, by omega, fun e => by rw [e] at e2; simp at e2; omega, by omega, e3, by omega, by omega, fun d hd => pabc d (List.mem_of_mem_take hd)⟩
    · exact wp_nil ⟨B6, wd, labs rows, rows, _, _, _, rfl, F.trans f6, rw4, (rL rT).ex f6.b rl5, .inr ((rTu rT).ex f6.b rr5), hw23, hne0, hrl9, hrow0, hL0, hL3⟩
  · rintro σ2 H6 ⟨B6, wd, L, rows, vw, vr, vl, rfl, F, rw6, rl6, rr6, hw23, hne, hrl, hrow, hL0, hL3, hLa⟩
    refine wp_setCatM 5 (ρ := rT) (Pa := fun xs => xs = rows) (Pb := fun ys => ys.length ≤ 2 ∧ ∀ r ∈ ys, RowOk wd L r) F.i (GE.we (x := rows) ?hl rfl) (ge_wmono (g_lcE (ρ := rN) (τ := rT) (own := [("_law_k", 8)]) (j := 8) (Px := fun xs => ∃ n : Nat, (0 ≤ (n : Int) ∧ (n : Int) ≤ 2) ∧ xs = List.range n) (Pp := RowOk wd L) (m := 2) rfl scGr.nd (by apply blkOk_by; change blkC nmGr (defScope (topS 47)) _ _ = true; decide +kernel) (fun _ _ _ _ _ => pg_name (i := 8) scGr.nd rfl (.inl rfl)) (gi_rangeE (Pp := fun k => 0 ≤ k ∧ k ≤ 2) g.bi.range ((g_call2 (P := (rW rI (· ∈ ([0, 0, 0, 1, 2] : List Int))).r ()) (cal_pick (ρ := rI) g D.dr D.pick) hr (by decide) (gv 0 (rF.ex F.b r)) (g_lstL (ρ := rI) (xs := [0, 0, 0, 1, 2]) (gaL_cons g_int (gaL_cons g_int (gaL_cons g_int (gaL_cons g_int (gaL_cons g_int gaL_nil))))) (by decide)) ⟨by decide, by decide⟩).imp fun v B1 _ ⟨k, hk, r⟩ => ⟨k, by simp at hk; omega, r⟩) (fun k hk => by omega)) (fun xs ⟨n, h1, h2⟩ => by rw [h2, List.length_range]; omega) (by decide) fun a va B9 x9 ra s0 H0 C cl fp => ?hrow) fun xs ⟨⟨ys, ⟨n, h1, h2⟩, h3⟩, h4⟩ => ⟨by rw [h2, List.length_range] at h3; omega, h4⟩) (fun xs ys hx hy => by subst hx; omega) (fun q1 xs ys ws B7 H7 hx hy m7 pr7 => ?_) scGr.nd
    case hl =>
      rcases rr6 with h | h
      · exact g_listL g.bi.list (gv 5 h)
      · exact g_listTu g.bi.list (gv 5 h)
    case hrow =>
      exact ge_wmono (g_call3 (ρ := rF) (τ := rN) (x := ()) (y := wd) (cal_row g D.dr D.pick D.row) hr (by decide) (gv 0 (rF.ex (F.b.trans x9) r)) (gv 4 (ρ := rN) (x := wd) rw6) (gv 6 ((rL rT).ex x9 rl6)) ⟨by omega, _, rfl, by omega, by omega⟩) (fun x hx => by rw [flat_sg] at hx; exact hx)
    subst hx
    have mm := One.from F m7
    have hzl : xs.length + ys.length ≤ 11 := by omega
    have hzr : ∀ r ∈ xs ++ ys, RowOk wd L r := fun r hr' => by
      rcases List.mem_append.mp hr' with h | h
      · exact hrow r h
      · exact hy.2 r h
    have hwl : ws.length = xs.length + ys.length := by rw [← Paired.length pr7, List.length_append]
    have rzs : (rL rT).r (xs ++ ys) (.ref q1) (upd B7 q1 (.lst ws)) := ⟨q1, ws, rfl, upd_same, pmap pr7 fun x v r => rT.ex mm.up r⟩
    have fin : ∀ (B8 H8 : Hp) (zs : List (List Nat)) (ws8 : List V), One B H q1 (.lst ws8) B8 H8 → Paired (fun x v => rT.r x v B8) zs ws8 → zs ≠ [] → zs.length ≤ 11 → (∀ r ∈ zs, RowOk wd L r) → WP (DX P w K mg base nmGr "_law_grid" (topS 47) f cdv A outer s H E) [(defBody (topS 47)).getLastD (.Pass ⟨0, 0, 0, 0⟩)] { nx := fun _ H' => Q .non H', rt := Q } [some v, some u, some vp, some (.ref l), some vw, some (.ref q1), some vl, none, none] H8 := fun B8 H8 zs ws8 m8 pr8 h1 h2 h3 => by
      have rz : (rL rT).r zs (.ref q1) (upd B8 q1 (.lst ws8)) := ⟨q1, ws8, rfl, upd_same, pmap pr8 fun x v r => rT.ex m8.up r⟩
      refine wp_ret m8.fin.i (g_pair (ρ := rN) (x := wd) (gv 4 rw6) (g_tupleL g.bi.tuple (g_sortSetT rfl g.bi.sorted g.bi.set (gv 5 rz) (metS (by omega))))) fun v9 B9 H9 f9 r9 => q v9 B9 H9 (m8.fin.trans f9) ⟨_, gr_of hw23 h2 h1 h3 hLa hL3, r9⟩
    refine wp_ifE mm.fin.i (t_andE (t_cmp (ρ := rI) op_gt (GE.n (g_lenL g.bi.len (gv 5 rzs))) g_int rb_gt) fun _ => t_eqE (Pa := fun k => 0 ≤ k ∧ k < ((4 : Nat) : Int)) (g_call2 (cal_draw g D.dr) hr (by decide) (gv 0 (rF.ex mm.fin.b r)) (ge_nat (n := 4) g_int rfl) ⟨by decide, by decide⟩) (GE.we (Pp := fun _ => True) g_int trivial)) (fun hz B8 H8 f8 => ?_) (fun _ B8 H8 f8 => ?_)
    · have hlen2 : 1 < (xs ++ ys).length := by
        rcases hz with ⟨_, h⟩ | ⟨h, _⟩
        · cases h
        · have := of_decide_eq_true h
          omega
      rw [List.length_append] at hlen2
      have mk := mm.F
      have h8 : H8 q1 = some (.lst ws) := f8.h.lst mm.h
      have rzs8 := (rL rT).ex f8.b rzs
      refine wp_popAtE (Pp := fun k => 0 ≤ k ∧ k < (((xs ++ ys).length : Nat) : Int)) f8.i (gvv 5) (g_call2 (cal_draw g D.dr) hr (by decide) (gv 0 (rF.ex (mm.fin.b.trans f8.b) r)) (g_lenL g.bi.len (gv 5 rzs8)) ⟨by rw [List.length_append]; omega, by rw [List.length_append]; omega⟩) h8 (fun k hk => by rw [List.length_append] at hk; omega) (by omega) (fun n B9 H9 hn f9 h9 => ?_)
      have m9 := mm.un (f8.trans f9)
      have m10 := m9.put (o' := .lst (ws.eraseIdx n)) nf_lst
      have hex := ((f8.trans f9).un mm.b).b
      refine wp_nil (fin _ _ ((xs ++ ys).eraseIdx n) (ws.eraseIdx n) m10 (p_erase n (pmap pr7 fun x v r => rT.ex hex r)) ?_ ?_ fun r hr' => hzr r (List.mem_of_mem_eraseIdx hr'))
      · intro e
        have := congrArg List.length e
        rw [List.length_eraseIdx, List.length_append] at this
        simp at this
        split at this <;> omega
      · refine Nat.le_trans (List.length_eraseIdx_le ..) ?_
        rw [List.length_append]
        omega
    · have m9 := mm.un f8
      refine wp_nil (fin _ _ (xs ++ ys) ws m9 (pmap pr7 fun x v r => rT.ex (f8.un mm.b).b r) (fun e => hne (List.append_eq_nil_iff.mp e).1) (by rw [List.length_append]; omega) hzr)
end
end KD
end
section
set_option Elab.async false
set_option linter.all false
set_option maxRecDepth 100000
set_option maxHeartbeats 4000000
/-! LE4: the law's shape, children. -/
namespace KD
open PySem PySem.Spec PyProof.Rows L2 KS MS KB
open SX (S)
open MF (abc Gr labs Sh grow sh_dot kd lfold lfold_snoc lfold_len lst)
abbrev nmKi : List Str := ["_law_width", "_law_tree_here", "_law_found", "_law_tops", "_law_k", "_law_sign"]
theorem scKi : FnScope nmKi ["_law_width", "_law_tree_here"] (defScope (topS 49)) := ⟨rfl, rfl, rfl, by decide +kernel, rfl, by decide +kernel, by decide +kernel⟩
section
variable {P : Program} {w : World} {K : PySem.W.Frag} {mg : Str → Option Value} {base : Heap}
abbrev DKi (K : PySem.W.Frag) (mg : Str → Option Value) : Prop := Dfn K mg "_law_kids" (topS 49) ["_law_width", "_law_tree_here"]
theorem cal_tr (g : GC K mg) (D : LD K mg) (D2 : DTr K mg) : C8.Cal P w K mg base 3 "_law_tree" (sp3 rF rN rN (fun _ wd m => (wd = 2 ∨ wd = 3) ∧ m = 7) fun _ wd _ => (rW rT (Sh wd)).r ()) [] := by
  refine D2.cal scTr (fun vs H Q E ⟨x, y, z, v, u, t, B, e, _⟩ => by rw [e]; rfl) fun f cdv A outer s H vs Q E hr ⟨_, wd, mo, v, u, t, B, e, i, r, r2, r3, ⟨hw, hmo⟩, q⟩ => ?_
  subst e
  subst hmo
  obtain ⟨mx, hx1, hx2, hx3, hx4⟩ : ∃ mx : Nat, (((7 : Nat) : Int) - 1) / (wd : Int) + 1 = (mx : Int) ∧ 0 < mx ∧ mx ≤ 100 ∧ ∀ n : Nat, n < mx → wd * n ≤ 6 := by
    rcases hw with rfl | rfl
    · exact ⟨4, by decide, by decide, by decide, fun n h => by omega⟩
    · exact ⟨3, by decide, by decide, by decide, fun n h => by omega⟩
  refine wp_set 3 i (ge_is g_str (y := [46]) (by decide)) (fun v1 B1 H1 f1 r1 => ?_) scTr.nd (hx := .inr rfl)
  refine wp_forE (ρ := rN) (Px := fun xs => ∃ n : Nat, (0 ≤ (n : Int) ∧ (n : Int) < mx) ∧ xs = List.range n) (fun pre σ' Bj Hj => ∃ (a b : Option V) (sh : List Nat), σ' = [some v, some u, some t, some (tx sh), a, b, none] ∧ KB.Fr B H Bj Hj ∧ Sh wd sh ∧ sh.length = 1 + wd * pre.length) f1.i (gi_rangeE (Pp := fun k => 0 ≤ k ∧ k < mx) g.bi.range (g_call2 (P := (rWI fun k => 0 ≤ k ∧ k < (mx : Int)).r ()) (cal_draw g D.dr) hr (by decide) (gv 0 (rF.ex f1.b r)) (ge_nat (n := mx) (g_add (g_fdiv (g_sub (gv 2 (ρ := rI) (x := ((7 : Nat) : Int)) r3) g_int) (gv 1 (ρ := rI) (x := (wd : Int)) r2) ⟨by rcases hw with h | h <;> omega, by rcases hw with h | h <;> omega⟩) g_int) hx1) ⟨hx2, by omega⟩) (fun k hk => by omega)) (pg_name (i := 4) scTr.nd rfl (.inl rfl)) (fun B2 H2 f2 => ⟨none, none, [46], by rw [show v1 = tx [46] from r1]; rfl, f1.trans f2, sh_dot hw, rfl⟩) (fun xs pre a post v' σ' Bj H2 Bb H3 hPx hx x2 x3 ⟨a1, b1, sh, e, F, hp, hl⟩ f3 r3' => ?_) (fun xs σ' B2 H2 hPx x1 x2 ⟨a1, b1, sh, e, F, hp, hl⟩ => ?_) rfl (hgm := gm_name)
  · subst e
    obtain ⟨n, ⟨_, hn⟩, rfl⟩ := hPx
    have hpl : pre.length < n := by
      have := congrArg List.length hx
      rw [List.length_range, List.length_append, List.length_cons] at this
      omega
    have h6 := hx4 (pre.length + 1) (by omega)
    have hmul : wd * (pre.length + 1) = wd * pre.length + wd := Nat.mul_succ ..
    have F := F.trans f3
    have hlen := hp.len
    obtain ⟨i0, hi0, hi1⟩ := hp.dot
    have hne : 0 < ((List.range sh.length).filter fun k => decide ([sh.getD k 0] = [46])).length := List.length_pos_of_mem (List.mem_filter.mpr ⟨List.mem_range.mpr hi0, decide_eq_true (by rw [hi1])⟩)
    have hle : ((List.range sh.length).filter fun k => decide ([sh.getD k 0] = [46])).length ≤ 7 := Nat.le_trans (List.length_filter_le ..) (by rw [List.length_range]; exact hlen)
    refine wp_set 5 F.i (P := (rW rN (· ∈ (List.range sh.length).filter fun k => decide ([sh.getD k 0] = [46]))).r ()) (g_call2 (cal_pick (ρ := rN) g D.dr D.pick) hr (by decide) (gv 0 (rF.ex F.b r)) (ge_is (g_lc (ρ := rN) (τ := rN) (own := [("_law_k", 6)]) (j := 6) (fun k => decide ([sh.getD k 0] = [46])) (fun k => k) rfl scTr.nd (by apply blkOk_by; change blkC nmTr (defScope (topS 48)) _ _ = true; decide +kernel) (fun _ _ _ _ _ => pg_name (i := 6) scTr.nd rfl (.inl rfl)) (gi_range (n := sh.length) g.bi.range (GE.n (g_lenS g.bi.len (gv 3 (ρ := rT) (x := sh) rfl) (by omega))) (by omega)) (by rw [List.length_range]; omega) fun k vk B4 hk x4 rk s0 H0 C cl fp => ⟨ts_one ?_, fun _ => gv 6 rk⟩) (List.map_id' _)) ⟨hne, by omega⟩) (fun v5 B5 H5 f5 r5 => ?_) scTr.nd
    · rw [List.mem_range] at hk
      exact t_cmp op_eq (g_ixS (gv 3 (ρ := rT) (x := sh) rfl) (gv 6 (ρ := rI) (x := (k : Int)) rk) (getD_at hk) (by omega)) (ge_is g_str (y := [46]) (by decide)) rb_eqT
    · obtain ⟨sp, hsp, r5⟩ := r5
      obtain ⟨hs1, hs2⟩ := List.mem_filter.mp hsp
      rw [List.mem_range] at hs1
      have hs2 : sh.getD sp 0 = 46 := List.head_eq_of_cons_eq (of_decide_eq_true hs2)
      obtain ⟨hg1, hg2⟩ := hp.grow (by omega) sp hs1 hs2
      have F := F.trans f5
      refine wp_set 3 F.i (P := rT.r (grow wd sh sp)) (ge_is (x := sh.take sp ++ [43] ++ List.replicate wd 46 ++ sh.drop (sp + 1)) (g_cat (g_cat (g_cat (g_slTo (i := sp) (gv 3 (ρ := rT) (x := sh) rfl) (gv 5 (ρ := rI) (x := (sp : Int)) r5) (by omega)) (ge_is g_str (y := [43]) (by decide)) ?_) (g_repS (n := wd) (k := 46) (ge_is g_str (by decide)) (gv 1 (ρ := rI) (x := (wd : Int)) r2) (by omega)) ?_) (g_slFrom (i := sp + 1) (gv 3 (ρ := rT) (x := sh) rfl) (ge_is (g_add (gv 5 (ρ := rI) (x := (sp : Int)) r5) g_int) (by omega)) (by omega)) ?_) rfl) (fun v6 B6 H6 f6 r6 => ?_) scTr.nd (hx := .inr rfl)
      · rw [List.length_take]; simp; omega
      · rw [List.length_append, List.length_take, List.length_replicate]; simp; omega
      · rw [List.length_append, List.length_append, List.length_take, List.length_replicate, List.length_drop]; simp; omega
      · have r6 : v6 = tx (grow wd sh sp) := r6
        subst r6
        refine wp_nil ⟨B6, f5.b.trans f6.b, f6.i, _, _, grow wd sh sp, rfl, F.trans f6, hg1, ?_⟩
        rw [hg2, hl, List.length_append, List.length_singleton, hmul]
        omega
  · subst e
    exact wp_ret F.i (gv 3 (ρ := rT) (x := sh) rfl) fun v5 B5 H5 f5 r5 => q v5 B5 H5 (F.trans f5) ⟨sh, hp, r5⟩
end
end KD
end
section
set_option Elab.async false
set_option linter.all false
set_option maxRecDepth 100000
set_option maxHeartbeats 4000000
/-! LE5: the law's children, orders. -/
namespace KD
open PySem PySem.Spec PyProof.Rows L2 KS MS KB
open SX (S)
open MF (abc Gr labs Sh kd lfold lfold_snoc lfold_len lst lord lord_snoc lstep ins1 lord_64 mem_lord)
abbrev nmOr : List Str := ["_law_text", "_law_found", "_law_sign", "_law_late", "_law_word", "_law_k"]
theorem scOr : FnScope nmOr ["_law_text"] (defScope (topS 50)) := ⟨rfl, rfl, rfl, by decide +kernel, rfl, by decide +kernel, by decide +kernel⟩
theorem peLcW {X : Cx} {tg iter elt : Expr} {ifs : List Expr} {own : List (Str × Nat)} {g : TG} {sc : Scope} {pos : Pos} (hc : X.calm = true) (hN : X.N.Nodup) (ok : BlkOk X.N X.env.scope sc own) (hg : BlkPG X sc tg g) (hs : ∀ x, foldedSetIterable iter X.env x = pure x := by intro _; rfl) :
    PE X (.ListComp elt [⟨tg, iter, ifs, 0⟩] sc pos) (tLc (WI X tg iter) g (BWTs X sc ifs) (BW X sc elt) (own.map (·.2))) :=
  pe_lc hc hN piW ok hg (fun s H C cl fp => ⟨fun pins s' σ H1 Q I h => h s H C cl fp pins s' I⟩) (fun s H C cl fp => ⟨fun pins s' σ H1 Q I h => h s H C cl fp pins s' I⟩) hs
theorem wp_parLc {X : Cx} {tg iter elt : Expr} {ifs rest : List _} {σ : L2.St} {B H : Hp} {D : Ends} {pos p1 p2 p3 p4 p5 pt : Pos} {α β : Type} {ρ : R α} {τ : R β} (i j : Nat) {n m : Str} {kk k2 : Nat} {own : List (Str × Nat)} {jt : Nat} {sc : Scope} {xs : List α} (ih : Ex B H) (p : α → Bool) (f : α → β) (gi : GI X tg iter σ B ρ xs) (hz : xs.length ≤ 100000) (hb : Turn1 X sc ifs elt σ own jt B ρ xs p τ f)
    (k : ∀ q ws B1 H1, One B H q (.lst ws) B1 H1 → Paired (fun x v => τ.r x v B1) ((xs.filter p).map f) ws → ∀ r, H1 r = none → WP X rest D ((σ.set i (some (.ref q))).set j (some (.ref r))) (upd H1 r (.lst []))) (hc : X.calm = true) (hN : X.N.Nodup) (ok : BlkOk X.N X.env.scope sc own) (hg : BlkPG X sc tg (gName jt)) (hij : i ≠ j := by decide) (hi : X.N[i]? = some n := by rfl) (hj : X.N[j]? = some m := by rfl) (hx : X.env.scope.names.lookup n = some .local := by rfl) (hy : X.env.scope.names.lookup m = some .local := by rfl)
    (hw : swappedStores [.Tuple [.Name n p1, .Name m p2] kk p3] (.Tuple [.ListComp elt [⟨tg, iter, ifs, 0⟩] sc p4, .List [] p5] k2 pt) X.env = pure (some [n, m]) := by rfl) (hs : swapsWithSole [.Tuple [.Name n p1, .Name m p2] kk p3] (.Tuple [.ListComp elt [⟨tg, iter, ifs, 0⟩] sc p4, .List [] p5] k2 pt) pos.line X.env = pure false := by rfl)
    (hs1 : starEach [Expr.ListComp elt [⟨tg, iter, ifs, 0⟩] sc p4, .List [] p5] X.env = (false, eval (.ListComp elt [⟨tg, iter, ifs, 0⟩] sc p4) X.env) :: starEach [.List [] p5] X.env := by rfl) (hs2 : starEach [Expr.List [] p5] X.env = (false, eval (.List [] p5) X.env) :: starEach [] X.env := by rfl) (hfs : ∀ x, foldedSetIterable iter X.env x = pure x := by intro _; rfl)
    (hwp : ∀ x, wipe ((wipe σ (own.map (·.2))).set jt (some x)) (own.map (·.2)) = wipe σ (own.map (·.2)) := by intro _; rfl) :
    WP X (.Assign [.Tuple [.Name n p1, .Name m p2] kk p3] (.Tuple [.ListComp elt [⟨tg, iter, ifs, 0⟩] sc p4, .List [] p5] k2 pt) pos :: rest) D σ H :=
  WP.cons (ps_par hc hN hi hj hij hx hy (pa_cons (peLcW hc hN ok hg hfs) (pa_cons (pe_lst pa_nil) pa_nil hs2) hs1) hw hs)
    (show tLc (WI X tg iter) (gName jt) (BWTs X sc ifs) (BW X sc elt) (own.map (·.2)) σ H (fun x H1 => tCons (tLst tNil) tNil σ H1 fun xs H2 => ∃ u v, x :: xs = [u, v] ∧ WP X rest D ((σ.set i (some u)).set j (some v)) H2) from
      tlc_okM gi hz gm_name (fun a v B1 H1 ha x _ r => ⟨hwp v, rfl, hb a v B1 ha x r⟩) B H (Ex.refl B) ih _ fun q ws B2 H2 f2 h1 b2 h2 pr => ⟨Nat.zero_le _, fun r hr => ⟨_, _, rfl, k q ws B2 H2 ⟨f2, b2, h2, h1, nf_lst⟩ pr r hr⟩⟩)
section
variable {P : Program} {w : World} {K : PySem.W.Frag} {mg : Str → Option Value} {base : Heap}
abbrev DOr (K : PySem.W.Frag) (mg : Str → Option Value) : Prop := Dfn K mg "_law_orders" (topS 50) ["_law_text"]
theorem cal_ki (g : GC K mg) (D : DKi K mg) : C8.Cal P w K mg base 1 "_law_kids" (sp2 rN rT Sh fun wd sh => (rL (rL rN)).r (kd wd sh)) [] := by
  refine D.cal scKi (fun vs H Q E ⟨x, y, v, u, B, e, _⟩ => by rw [e]; rfl) fun f cdv A outer s H vs Q E hr ⟨wd, sh, v, u, B, e, i, r, r2, hp, q⟩ => ?_
  subst e
  have hlen := hp.len
  have hw23 := hp.w23
  refine wp_parLc 2 3 (own := [("_law_sign", 5)]) (jt := 5) (ρ := rT) (τ := rL rN) (xs := sg sh) i (fun _ => true) (fun _ => ([] : List Nat)) (gi_str (gv 1 r2)) (by rw [len_sg]; omega) (fun a va B2 ha x2 ra s0 H0 C cl fp => ⟨ts_nil, fun _ => g_nil⟩) (fun l1 ws1 B2 H2 m1 pr2 l2 hl2 => ?_) rfl scKi.nd (by apply blkOk_by; change blkC nmKi (defScope (topS 49)) _ _ = true; decide +kernel) (fun _ _ _ _ _ => pg_name (i := 5) scKi.nd rfl (.inl rfl))
  rw [filt, map_const, len_sg] at pr2
  have m2 : One B H l2 (.lst []) B2 _ := One.new m1.F hl2 nf_lst
  have ne0 : l1 ≠ l2 := fun e => by
    subst e
    rw [m1.h] at hl2
    cases hl2
  have m1 := m1.step ((Fr.refl m1.F.i).mut (o := .lst []) hl2 (m1.F.i.fresh hl2))
  refine wp_for (ρ := rN) (xs := (List.range sh.length).reverse) (fun pre σ' Bj Hj => ∃ (a : Option V) (l2 : Addr) (ws1 : List V), σ' = [some v, some u, some (.ref l1), some (.ref l2), a, none] ∧ l1 ≠ l2 ∧ One B H l1 (.lst ws1) Bj Hj ∧ One B H l2 (.lst ((lfold wd sh pre).2.map nI)) Bj Hj ∧ Paired (fun x v => (rL rN).r x v Bj) (lfold wd sh pre).1 ws1) m2.F.i (gi_down g.bi.range (g_sub (GE.n (g_lenS g.bi.len (gv 1 (ρ := rT) r2) (by omega))) g_int) (g_neg g_int) (g_neg g_int) (by omega)) (pg_name (i := 4) scKi.nd rfl (.inl rfl)) (fun B3 H3 f3 => ⟨none, l2, ws1, rfl, ne0, m1.step f3, m2.step f3, pmap pr2 fun x v r => (rL rN).ex f3.b r⟩) (fun pre a post v' σ' Bj H3 Bb H4 hx x2 x3 ⟨a1, l2, ws1, e, ne, m1, m2, pr⟩ f3 r3 => ?_) (fun σ' B3 H3 x1 x2 ⟨a1, l2, ws1, e, ne, m1, m2, pr⟩ => ?_) rfl (hgm := gm_name)
  · subst e
    obtain ⟨ea, hpl⟩ := down_at hx
    have hap : a < sh.length := by omega
    have m1 := m1.step f3
    have m2 := m2.step f3
    have pr := pmap pr fun x v r => (rL rN).ex f3.b r
    obtain ⟨ln1, ln2⟩ := lfold_len (w := wd) (sh := sh) pre
    have hws : ws1.length = sh.length := by rw [← Paired.length pr, ln1]
    generalize hst : lfold wd sh pre = st at *
    have stp : lfold wd sh (pre ++ [a]) = lst wd sh st a := by rw [lfold_snoc, hst]
    have hsi : sh[a]? = some (sh.getD a 0) := getD_at hap
    refine wp_cut (fun σ2 H5 => ∃ (B5 : Hp) (l2 : Addr) (ws2 : List V) (ts : List Nat), σ2 = [some v, some u, some (.ref l1), some (.ref l2), some v', none] ∧ Ex Bb B5 ∧ l1 ≠ l2 ∧ One B H l1 (.lst ws2) B5 H5 ∧ One B H l2 (.lst (ts.map nI)) B5 H5 ∧ Paired (fun x v => (rL rN).r x v B5) (lst wd sh st a).1 ws2 ∧ (lst wd sh st a).2 = ts ++ [a] ∧ ts.length ≤ 7) ?_ ?_
    · refine ws_if f3.i (t_cmp op_eq (g_ixS (gv 1 (ρ := rT) r2) (gv 4 (ρ := rI) (x := (a : Int)) r3) hsi (by omega)) (ge_is g_str (y := [43]) (by decide)) rb_eqT) (fun z B5 H5 f5 => ?_) (fun z B5 H5 f5 => ?_)
      · have hc : sh.getD a 0 = 43 := List.head_eq_of_cons_eq (of_decide_eq_true z)
        have m1 := m1.step f5
        have m2 := m2.step f5
        have pr := pmap pr fun x v r => (rL rN).ex f5.b r
        have xu := m2.up
        have m1b : One B H l1 (.lst ws1) (upd B5 l2 (.lst (st.2.map nI))) H5 := m1.fr m2.fin (by rw [upd_ne ne]; exact m1.b) m1.h
        have rts : (rL rN).r st.2 (.ref l2) (upd B5 l2 (.lst (st.2.map nI))) := lNn.mpr ⟨l2, rfl, upd_same⟩
        refine wp_setix (ρ := rL rN) (x := (st.2.drop (st.2.length - wd)).reverse) (n := a) m1b.F.i (g_rev (g_slLast (i := wd) (gv 3 rts) (g_neg (gv 0 (ρ := rI) (x := (wd : Int)) r)) (by omega))) (gvv 2) (gv 4 (ρ := rI) (x := (a : Int)) r3) m1b.h (by omega) (fun w6 B6 H6 f6 r6 h6 => ?_)
        have m6 := (m1b.step f6).put (o' := .lst (ws1.set a w6)) nf_lst
        have rts6 := (rL rN).ex f6.b rts
        have pr6 := p_set r6 a (pmap pr fun x v r => (rL rN).ex (xu.trans f6.b) r)
        refine wp_setButM 3 (i := wd) m6.F.i (gv 3 rts6) (g_neg (gv 0 (ρ := rI) (x := (wd : Int)) r)) (by omega) (fun l3 ws3 B7 H7 m7 pr7 => ?_) scKi.nd
        have ew : ws3 = (st.2.take (st.2.length - wd)).map nI := (pv_map (ρ := rN) (f := nI) fun _ _ => Iff.rfl).mp pr7
        subst ew
        have ne3 : l1 ≠ l3 := fun e => by
          subst e
          have := m6.h
          rw [m7.n] at this
          cases this
        refine wp_nil ⟨B7, l3, ws1.set a w6, st.2.take (st.2.length - wd), rfl, ((f5.b.trans xu).trans f6.b).trans m7.F.b, ne3, m6.step m7.F, One.from m6.F m7, ?_, ?_, by rw [List.length_take]; omega⟩
        · unfold lst
          rw [if_pos hc]
          exact pmap pr6 fun x v r => (rL rN).ex m7.F.b r
        · unfold lst
          rw [if_pos hc]
      · have hc : ¬ sh.getD a 0 = 43 := fun e => (of_decide_eq_false z) (by rw [e])
        refine wp_nil ⟨B5, l2, ws1, st.2, rfl, f5.b, ne, m1.step f5, m2.step f5, ?_, ?_, by omega⟩
        · unfold lst
          rw [if_neg hc]
          exact pmap pr fun x v r => (rL rN).ex f5.b r
        · unfold lst
          rw [if_neg hc]
    · rintro σ2 H5 ⟨B5, l2, ws2, ts, rfl, x5, ne5, m1, m2, pr5, e5, hl5⟩
      refine wp_app (P := rN.r a) m2.F.i (gvv 3) (gv 4 (ρ := rN) r3) m2.h (by rw [List.length_map]; omega) (fun w6 B6 H6 f6 r6 h6 => ?_)
      have r6 : w6 = nI a := r6
      subst r6
      have k2 := (m2.step f6).put (o' := .lst (ts.map nI ++ [nI a])) nf_lst
      have k1 := (m1.step f6).other (o' := .lst (ts.map nI ++ [nI a])) (m2.step f6) ne5
      refine wp_nil ⟨B6, x5.trans f6.b, k2.F.i, _, l2, ws2, rfl, ne5, k1, ?_, ?_⟩
      · rw [stp, e5, List.map_append]
        exact k2
      · rw [stp]
        exact pmap pr5 fun x v r => (rL rN).ex f6.b r
  · subst e
    rw [hp.lkids] at pr
    refine wp_ret m1.fin.i (gv 2 (ρ := rL (rL rN)) (x := kd wd sh) ⟨l1, ws1, rfl, upd_same, pmap pr fun x v r => (rL rN).ex m1.up r⟩) fun v5 B5 H5 f5 r5 => q v5 B5 H5 (m1.fin.trans f5) r5
theorem cal_or (g : GC K mg) (D : DOr K mg) : C8.Cal P w K mg base 1 "_law_orders" (sp1 rT (fun l => l.length ≤ 3) fun l => (rL rT).r (lord l)) [] := by
  refine D.cal scOr (fun vs H Q E ⟨x, v, B, e, _⟩ => by rw [e]; rfl) fun f cdv A outer s H vs Q E hr ⟨l, v, B, e, i, r, hl, q⟩ => ?_
  subst e
  refine wp_set 1 i (ge_is (ρ := rL rT) (y := [[]]) (g_lst1 (ρ := rT) g_str) (by decide)) (fun v1 B1 H1 f1 r1 => ?_) scOr.nd
  refine wp_for (ρ := rT) (xs := sg l) (fun pre σ' Bj Hj => ∃ (a b c : Option V) (vf : V), σ' = [some v, some vf, a, b, c, none] ∧ KB.Fr B H Bj Hj ∧ (rL rT).r (lord pre.flatten) vf Bj) f1.i (gi_str (gv 0 r)) (pg_name (i := 2) scOr.nd rfl (.inr rfl)) (fun B2 H2 f2 => ⟨none, none, none, v1, rfl, f1.trans f2, (rL rT).ex f2.b r1⟩) (fun pre a post v' σ' Bj H2 Bb H3 hx x2 x3 ⟨a1, b1, c1, vf, e, F, rf⟩ f3 r3 => ?_) (fun σ' B2 H2 x1 x2 ⟨a1, b1, c1, vf, e, F, rf⟩ => ?_) rfl (hgm := gm_name)
  · subst e
    have F := F.trans f3
    have rf := (rL rT).ex f3.b rf
    obtain ⟨c, hc, ec⟩ : ∃ c ∈ l, a = [c] := by
      have : a ∈ sg l := by rw [hx]; exact List.mem_append_right _ (List.mem_cons_self ..)
      obtain ⟨c, h1, h2⟩ := List.mem_map.mp this
      exact ⟨c, h1, h2.symm⟩
    subst ec
    have hfl : l = pre.flatten ++ [c] ++ post.flatten := by
      have := congrArg List.flatten hx
      rw [flat_sg, List.flatten_append, List.flatten_cons] at this
      rw [this]
      simp
    have hpl : pre.flatten.length ≤ 2 := by
      have := congrArg List.length hfl
      rw [List.length_append, List.length_append, List.length_singleton] at this
      omega
    have h64 := lord_64 (l := pre.flatten) (by omega)
    have hol : ∀ o ∈ lord pre.flatten, o.length ≤ 2 := fun o ho => by rw [(mem_lord.mp ho).length_eq]; exact hpl
    refine wp_setN 3 (fun d hd => ?_) scOr.nd
    have m : One B H d (.lst []) Bb _ := One.new F hd nf_lst
    refine wp_for (ρ := rT) (xs := lord pre.flatten) (fun pre2 σ' Bj Hj => ∃ (a : Option V), σ' = [some v, some vf, some v', some (.ref d), a, none] ∧ One B H d (.lst ((pre2.flatMap (ins1 c)).map tx)) Bj Hj) m.F.i (gi_list (g_listL g.bi.list (gv 1 rf))) (pg_name (i := 4) scOr.nd rfl (.inr rfl)) (fun B4 H4 f4 => ⟨_, rfl, m.step f4⟩) (fun pre2 o post2 v2 σ2 Bj2 H4 Bb2 H5 hx2 x4 x5 ⟨a2, e, m2⟩ f5 r5 => ?_) (fun σ2 B4 H4 y1 y2 ⟨a2, e, m2⟩ => ?_) rfl (hgm := gm_name)
    · subst e
      have ho : o ∈ lord pre.flatten := by rw [hx2]; exact List.mem_append_right _ (List.mem_cons_self ..)
      have hol' := hol o ho
      have m2 := m2.step f5
      have hp2 : pre2.length ≤ 64 := by
        have := congrArg List.length hx2
        rw [List.length_append, List.length_cons] at this
        omega
      have hin : ∀ o', o' ∈ lord pre.flatten → (ins1 c o').length ≤ 4 := fun o' h => by
        unfold ins1
        rw [List.length_map, List.length_range]
        have := hol o' h
        omega
      have hfl2 : (pre2.flatMap (ins1 c)).length ≤ pre2.length * 4 := MF.flatMap_le fun o' h => hin o' (by rw [hx2]; exact List.mem_append_left _ h)
      have hin' := hin o ho
      refine wp_ext (ρ := rT) (ys := ins1 c o) m2.F.i (gvv 3) (ge_is (g_lc (ρ := rN) (τ := rT) (own := [("_law_k", 5)]) (j := 5) (fun _ => true) (fun k => o.take k ++ [c] ++ o.drop k) rfl scOr.nd (by apply blkOk_by; change blkC nmOr (defScope (topS 50)) _ _ = true; decide +kernel) (fun _ _ _ _ _ => pg_name (i := 5) scOr.nd rfl (.inl rfl)) (gi_range (n := o.length + 1) g.bi.range (ge_is (g_add (GE.n (g_lenS g.bi.len (gv 4 r5) (by omega))) g_int) (by omega)) (by omega)) (by rw [List.length_range]; omega) fun k vk B6 hk x6 rk s0 H0 C cl fp => ⟨ts_nil, fun _ => g_cat (g_cat (g_slTo (i := k) (gv 4 (ρ := rT) r5) (gv 5 (ρ := rI) (x := (k : Int)) rk) (by omega)) (gv 2 (ρ := rT) r3) ?_) (g_slFrom (i := k) (gv 4 (ρ := rT) r5) (gv 5 (ρ := rI) (x := (k : Int)) rk) (by omega)) ?_⟩) (by rw [filt]; rfl)) m2.h (by rw [List.length_map]; omega) (fun ws6 B6 H6 f6 pr6 h6 => ?_)
      · rw [List.length_take]; simp; omega
      · rw [List.length_append, List.length_take, List.length_drop]; simp; omega
      · have ew := rT_list pr6
        subst ew
        have m6 := (m2.step f6).put (o' := .lst ((pre2.flatMap (ins1 c)).map tx ++ (ins1 c o).map tx)) nf_lst
        refine wp_nil ⟨B6, f6.b, m6.F.i, _, rfl, ?_⟩
        have e : ((pre2 ++ [o]).flatMap (ins1 c)).map tx = (pre2.flatMap (ins1 c)).map tx ++ (ins1 c o).map tx := by
          rw [List.flatMap_append, List.map_append]
          simp
        rw [e]
        exact m6
    · subst e
      have hfl2 : ((lord pre.flatten).flatMap (ins1 c)).length ≤ (lord pre.flatten).length * 4 := MF.flatMap_le fun o' h => by
        unfold ins1
        rw [List.length_map, List.length_range]
        have := hol o' h
        omega
      refine wp_set 1 m2.fin.i (g_sortSetT rfl g.bi.sorted g.bi.set (gv 3 (lT.mpr ⟨d, rfl, upd_same⟩)) (metS (by omega))) (fun v6 B6 H6 f6 r6 => ?_) scOr.nd
      have e : (pre ++ [[c]]).flatten = pre.flatten ++ [c] := by rw [List.flatten_append]; rfl
      refine wp_nil ⟨B6, (y1.trans m2.up).trans f6.b, f6.i, _, _, _, v6, rfl, m2.fin.trans f6, ?_⟩
      rw [e, lord_snoc]
      exact r6
  · subst e
    rw [flat_sg] at rf
    exact wp_ret F.i (gv 1 rf) fun v5 B5 H5 f5 r5 => q v5 B5 H5 (F.trans f5) r5
end
end KD
end
section
set_option Elab.async false
set_option linter.all false
set_option maxRecDepth 100000
set_option maxHeartbeats 4000000
/-! LE6: the law's ways, stands, fits. -/
namespace KD
open PySem PySem.Spec PyProof.Rows L2 KS MS KB
open SX (S)
open MF (abc Gr labs Sh kd kdf lord Ob wys wayL wys_snoc wys_keys lk)
abbrev nmWy : List Str := ["_law_grid_here", "_law_found", "_law_letter", "_law_row_here"]
theorem scWy : FnScope nmWy ["_law_grid_here"] (defScope (topS 51)) := ⟨rfl, rfl, rfl, by decide +kernel, rfl, by decide +kernel, by decide +kernel⟩
abbrev nmSt : List Str := ["_law_cans_here", "_law_kids_here", "_law_ways_here", "_law_way", "_law_j"]
theorem scSt : FnScope nmSt ["_law_cans_here", "_law_kids_here", "_law_ways_here"] (defScope (topS 52)) := ⟨rfl, rfl, rfl, by decide +kernel, rfl, by decide +kernel, by decide +kernel⟩
abbrev nmFi : List Str := ["_law_cans_here", "_law_kids_here", "_law_way", "_law_j"]
theorem scFi : FnScope nmFi ["_law_cans_here", "_law_kids_here", "_law_way"] (defScope (topS 57)) := ⟨rfl, rfl, rfl, by decide +kernel, rfl, by decide +kernel, by decide +kernel⟩
theorem p_putK {β : Type} {ρ : R β} {H : Hp} {c : Nat} {y : β} {w : V} (hy : ρ.r y w H) : ∀ {s : List (Nat × β)} {kvs : List (Key × V)}, Paired (fun x p => p.1 = kL x.1 ∧ ρ.r x.2 p.2 H) s kvs → Paired (fun x p => p.1 = kL x.1 ∧ ρ.r x.2 p.2 H) (s.map fun p => if p.1 = c then (p.1, y) else p) (kvs.map fun kv => if kv.1 = kL c then (kv.1, w) else kv)
  | _, _, .nil => .nil
  | x :: _, p :: _, .cons r t => by
    refine .cons ?_ (p_putK hy t)
    show (if p.1 = kL c then (p.1, w) else p).1 = kL (if x.1 = c then (x.1, y) else x).1 ∧ ρ.r (if x.1 = c then (x.1, y) else x).2 (if p.1 = kL c then (p.1, w) else p).2 H
    by_cases e : x.1 = c
    · rw [if_pos e, if_pos (by rw [r.1, e])]
      exact ⟨r.1, hy⟩
    · rw [if_neg e, if_neg fun z => e (kL_inj (r.1.symm.trans z))]
      exact r
theorem putK_old {kvs : List (Key × V)} {k : Key} {v : V} (h : ∃ p ∈ kvs, p.1 = k) : putK kvs k v = kvs.map fun kv => if kv.1 = k then (kv.1, v) else kv := by
  unfold putK
  rw [if_pos (by
    obtain ⟨p, hp, e⟩ := h
    exact List.any_eq_true.mpr ⟨p, hp, decide_eq_true e⟩)]
theorem pk_mem {β : Type} {ρ : R β} {H : Hp} : ∀ {s : List (Nat × β)} {kvs : List (Key × V)}, Paired (fun x p => p.1 = kL x.1 ∧ ρ.r x.2 p.2 H) s kvs → ∀ c ∈ s.map (·.1), ∃ p ∈ kvs, p.1 = kL c
  | _, _, .nil, c, hc => nomatch hc
  | x :: _, p :: _, .cons r t, c, hc => by
    rcases List.mem_cons.mp (show c ∈ x.1 :: _ from hc) with rfl | hc
    · exact ⟨p, List.mem_cons_self .., r.1⟩
    · obtain ⟨q, h1, h2⟩ := pk_mem t c hc
      exact ⟨q, List.mem_cons_of_mem _ h1, h2⟩
theorem pk_keys {β : Type} {ρ : R β} {H : Hp} : ∀ {s : List (Nat × β)} {kvs : List (Key × V)}, Paired (fun x p => p.1 = kL x.1 ∧ ρ.r x.2 p.2 H) s kvs → ∀ p ∈ kvs, ∃ c ∈ s.map (·.1), p.1 = kL c
  | _, _, .nil, p, hp => nomatch hp
  | x :: _, p :: _, .cons r t, q, hq => by
    rcases List.mem_cons.mp hq with rfl | hq
    · exact ⟨x.1, List.mem_cons_self .., r.1⟩
    · obtain ⟨c, h1, h2⟩ := pk_keys t q hq
      exact ⟨c, List.mem_cons_of_mem _ h1, h2⟩
theorem pk_nf {β : Type} {ρ : R β} {H : Hp} {s : List (Nat × β)} {kvs : List (Key × V)} (h : Paired (fun x p => p.1 = kL x.1 ∧ ρ.r x.2 p.2 H) s kvs) : NF (.dK kvs) := nf_dK fun p hp => by
  obtain ⟨c, _, e⟩ := pk_keys h p hp
  exact ⟨c, e⟩
theorem nodkL {kvs : List (Key × V)} : ¬ (rL rT).ok (.obj (.dK kvs)) := fun h => by
  rcases h with h | ⟨_, e, _⟩
  · exact h
  · cases e
/-- which children cannot have these labels -/
def fitV (vs : List (List (List Nat))) (way : List Nat) : Bool := ((List.range vs.length).filter fun j => !decide ([way.getD j 0] ∈ vs.getD j [])).isEmpty
section
variable {P : Program} {w : World} {K : PySem.W.Frag} {mg : Str → Option Value} {base : Heap}
abbrev DWy (K : PySem.W.Frag) (mg : Str → Option Value) : Prop := Dfn K mg "_law_ways" (topS 51) ["_law_grid_here"]
abbrev DSt (K : PySem.W.Frag) (mg : Str → Option Value) : Prop := Dfn K mg "_law_stands" (topS 52) ["_law_cans_here", "_law_kids_here", "_law_ways_here"]
abbrev DFi (K : PySem.W.Frag) (mg : Str → Option Value) : Prop := Dfn K mg "_law_fits" (topS 57) ["_law_cans_here", "_law_kids_here", "_law_way"]
theorem cal_wy (g : GC K mg) (D1 : DLet K mg) (D2 : DOr K mg) (D : DWy K mg) : C8.Cal P w K mg base 2 "_law_ways" (sp1 rG (fun gr => Gr gr.1 gr.2) fun gr => (rD (rL rT)).r (wys (labs gr.2) gr.2)) [] := by
  refine D.cal scWy (fun vs H Q E ⟨x, v, B, e, _⟩ => by rw [e]; rfl) fun f cdv A outer s H vs Q E hr ⟨⟨wd, rows⟩, v, B, e, i, r, gr, q⟩ => ?_
  subst e
  have gr : Gr wd rows := gr
  have hu := hu_of hr
  have hrl := gr.n
  have hr4 := Gr.len4 gr
  have hfew := gr.few
  have hnL : (labs rows).Nodup := asc_nd stoN (asc_usort stoN _)
  refine wp_setD 1 (fun d hd => ?_) scWy.nd
  have nf0 : NF (.dK []) := nf_dK fun p hp => nomatch hp
  have m : One B H d (.dK []) B _ := One.new (Fr.refl i) hd nf0
  refine wp_for (ρ := rT) (xs := sg (labs rows)) (fun pre σ' Bj Hj => ∃ (a : Option V) (kvs : List (Key × V)), σ' = [some v, some (.ref d), a, none] ∧ One B H d (.dK kvs) Bj Hj ∧ Paired (fun x p => p.1 = kL x.1 ∧ (rL rT).r x.2 p.2 Bj) (pre.map fun l => (l.headD 0, [])) kvs) m.F.i (gi_list (g_call1 (ρ := rG) (x := (wd, rows)) (cal_let g D1) hr (by decide) (gv 0 r) ⟨hrl, fun l hl => (hr4 l hl).2⟩)) (pg_name (i := 2) scWy.nd rfl (.inl rfl)) (fun B2 H2 f2 => ⟨none, [], rfl, m.step f2, .nil⟩) (fun pre a post v' σ' Bj H2 Bb H3 hx x2 x3 ⟨a1, kvs, e, mj, pr⟩ f3 r3 => ?_) (fun σ' B2 H2 x1 x2 ⟨a1, kvs, e, mj, pr⟩ => ?_) rfl (hgm := gm_name)
  · subst e
    obtain ⟨c, ec⟩ : ∃ c, a = [c] := by
      have : a ∈ sg (labs rows) := by rw [hx]; exact List.mem_append_right _ (List.mem_cons_self ..)
      obtain ⟨c, _, h2⟩ := List.mem_map.mp this
      exact ⟨c, h2.symm⟩
    subst ec
    have mb := mj.step f3
    have pr := pmap pr fun (x : Nat × List (List Nat)) (p : Key × V) r => (⟨r.1, (rL rT).ex f3.b r.2⟩ : p.1 = kL x.1 ∧ (rL rT).r x.2 p.2 Bb)
    have hpre : pre.length ≤ 3 := by
      have := congrArg List.length hx
      rw [len_sg, List.length_append, List.length_cons] at this
      omega
    have hkl : kvs.length ≤ 3 := by rw [← Paired.length pr, List.length_map]; exact hpre
    have nk : ∀ x ∈ kvs, x.1 ≠ kL c := fun x hx' e => by
      obtain ⟨c', h1, h2⟩ := pk_keys pr x hx'
      rw [h2] at e
      have e := kL_inj e
      subst e
      rw [List.map_map] at h1
      obtain ⟨l, hl, e2⟩ := List.mem_map.mp h1
      have hnd : (sg (labs rows)).Nodup := List.pairwise_map.mpr (hnL.imp fun {a b} h e => h (by injection e))
      rw [hx] at hnd
      have := (List.nodup_append.mp hnd).2.2 l hl [c'] (List.mem_cons_self ..)
      have hl' : l ∈ sg (labs rows) := by rw [hx]; exact List.mem_append_left _ hl
      obtain ⟨c2, _, h3⟩ := List.mem_map.mp hl'
      rw [← h3] at e2 this
      have e2 : c2 = c' := e2
      exact this (by rw [e2])
    refine wp_dput (kk := kL c) (ρ := rL rT) (x := []) hu mb.F.i g_nil (gvv 1) (gv 2 (ρ := rV) (x := tx [c]) r3) mb.h mb.nf (by omega) (fun w4 B4 H4 f4 r4 h4 => ?_)
    rw [putK_new nk]
    have pr4 := pk_app (pmap pr fun (x : Nat × List (List Nat)) (p : Key × V) r => (⟨r.1, (rL rT).ex f4.b r.2⟩ : p.1 = kL x.1 ∧ (rL rT).r x.2 p.2 B4)) (.cons ⟨rfl, r4⟩ .nil : Paired (fun x p => p.1 = kL x.1 ∧ (rL rT).r x.2 p.2 B4) [(c, [])] [(kL c, w4)])
    have m4 := (mb.step f4).put (pk_nf pr4)
    refine wp_nil ⟨B4, f4.b, m4.F.i, _, _, rfl, m4, ?_⟩
    rw [List.map_append]
    exact pr4
  · subst e
    have e0 : (sg (labs rows)).map (fun l => (l.headD 0, ([] : List (List Nat)))) = wys (labs rows) [] := by
      unfold sg wys
      rw [List.map_map]
      rfl
    rw [e0] at pr
    refine wp_for (ρ := rT) (xs := rows) (fun pre σ' Bj Hj => ∃ (a b : Option V) (kvs : List (Key × V)), σ' = [some v, some (.ref d), a, b] ∧ One B H d (.dK kvs) Bj Hj ∧ Paired (fun x p => p.1 = kL x.1 ∧ (rL rT).r x.2 p.2 Bj) (wys (labs rows) pre) kvs) mj.F.i (gi_tup (g_snd (gv 0 (rG.ex mj.F.b r)) g_int)) (pg_name (i := 3) scWy.nd rfl (.inl rfl)) (fun B3 H3 f3 => ⟨_, none, kvs, rfl, mj.step f3, pmap pr fun (x : Nat × List (List Nat)) (p : Key × V) r => (⟨r.1, (rL rT).ex f3.b r.2⟩ : p.1 = kL x.1 ∧ (rL rT).r x.2 p.2 B3)⟩) (fun pre a post v' σ' Bj H3 Bb H4 hx y2 y3 ⟨a2, b2, kvs, e, mj, pr⟩ f4 r4 => ?_) (fun σ' B3 H3 y1 y2 ⟨a2, b2, kvs, e, mj, pr⟩ => ?_) rfl (hgm := gm_name)
    · subst e
      have ha : a ∈ rows := by rw [hx]; exact List.mem_append_right _ (List.mem_cons_self ..)
      obtain ⟨c, t, ec, ht⟩ := gr.row ha
      subst ec
      have ht3 : t.length ≤ 3 := by rcases gr.w23 with h | h <;> omega
      have hcL : c ∈ labs rows := MF.mem_labs.mpr ⟨_, ha, List.mem_cons_self ..⟩
      have mb := mj.step f4
      have pr := pmap pr fun (x : Nat × List (List Nat)) (p : Key × V) r => (⟨r.1, (rL rT).ex f4.b r.2⟩ : p.1 = kL x.1 ∧ (rL rT).r x.2 p.2 Bb)
      have hkl : kvs.length ≤ 3 := by
        rw [← Paired.length pr]
        unfold wys
        rw [List.length_map]
        exact hfew
      have hpre : pre.length ≤ 11 := by
        have := congrArg List.length hx
        rw [List.length_append, List.length_cons] at this
        omega
      have hwl : (wayL pre c).length ≤ pre.length * 64 := MF.wayL_len fun r hr' => (hr4 r (by rw [hx]; exact List.mem_append_left _ hr')).2
      have h64 := MF.lord_64 ht3
      have hlook : look (wys (labs rows) pre) c = some (wayL pre c) := look_mem (s := wys (labs rows) pre) (p := (c, wayL pre c)) (by rw [wys_keys]; exact hnL) (List.mem_map.mpr ⟨c, hcL, rfl⟩)
      have rd : (rD (rL rT)).r (wys (labs rows) pre) (.ref d) (upd Bb d (.dK kvs)) := ⟨d, kvs, rfl, .inl upd_same, pmap pr fun (x : Nat × List (List Nat)) (p : Key × V) r => (⟨r.1, (rL rT).ex mb.up r.2⟩ : p.1 = kL x.1 ∧ (rL rT).r x.2 p.2 _)⟩
      refine wp_dput (kk := kL c) (ρ := rL rT) (x := wayL pre c ++ lord t) hu mb.fin.i (g_catL (g_dget hu (gv 1 rd) (g_ixS (i := 0) (gv 3 (ρ := rT) r4) g_int rfl (by simp; omega)) hlook) (g_call1 (cal_or g D2) hr (by decide) (g_slFrom (i := 1) (gv 3 (ρ := rT) r4) g_int (by simp; omega)) ht3) (by show (wayL pre c).length + (lord t).length ≤ _; omega)) (gvv 1) ?hb mb.h mb.nf (by omega) (fun w5 B5 H5 f5 r5 h5 => ?_)
      case hb => exact g_ixS (i := 0) (k := c) (gv 3 (ρ := rT) r4) g_int rfl (by simp; omega)
      have hmem : ∃ p ∈ kvs, p.1 = kL c := pk_mem pr c (by rw [wys_keys]; exact hcL)
      rw [putK_old hmem]
      have m5 := mb.un f5
      have r5' := (rL rT).dl (f5.b.keep upd_same mb.nf) trivial mb.nf nodkL r5
      have hex := (f5.un mb.b).b
      have pr5 := p_putK (c := c) r5' (pmap pr fun (x : Nat × List (List Nat)) (p : Key × V) r => (⟨r.1, (rL rT).ex hex r.2⟩ : p.1 = kL x.1 ∧ (rL rT).r x.2 p.2 (del B5 d)))
      have e5 : ((wys (labs rows) pre).map fun p => if p.1 = c then (p.1, wayL pre c ++ lord t) else p) = wys (labs rows) (pre ++ [c :: t]) := by
        rw [wys_snoc]
        refine List.map_congr_left fun p hp => ?_
        show _ = if p.1 = c then (p.1, p.2 ++ lord t) else p
        by_cases e : p.1 = c
        · rw [if_pos e, if_pos e]
          obtain ⟨c', _, rfl⟩ := List.mem_map.mp hp
          have e : c' = c := e
          subst e
          rfl
        · rw [if_neg e, if_neg e]
      rw [e5] at pr5
      have m6 := m5.put (pk_nf pr5)
      exact wp_nil ⟨del B5 d, hex, m6.F.i, _, _, _, rfl, m6, pr5⟩
    · subst e
      refine wp_ret mj.fin.i (gv 1 (ρ := rD (rL rT)) (x := wys (labs rows) rows) ⟨d, kvs, rfl, .inl upd_same, pmap pr fun (x : Nat × List (List Nat)) (p : Key × V) r => (⟨r.1, (rL rT).ex mj.up r.2⟩ : p.1 = kL x.1 ∧ (rL rT).r x.2 p.2 _)⟩) fun v5 B5 H5 f5 r5 => q v5 B5 H5 (mj.fin.trans f5) r5
theorem cal_fi (g : GC K mg) (D : DFi K mg) : C8.Cal P w K mg base 1 "_law_fits" (sp3 (rL (rL rT)) (rL rN) rT (fun css ks way => ks.length ≤ 100 ∧ ks.length ≤ way.length ∧ way.length ≤ 100 ∧ ∀ j ∈ ks, j < css.length) fun css ks way => rB.r (fitV (ks.map fun j => css.getD j []) way)) [] := by
  refine D.cal scFi (fun vs H Q E ⟨x, y, z, v, u, t, B, e, _⟩ => by rw [e]; rfl) fun f cdv A outer s H vs Q E hr ⟨css, ks, way, v, u, t, B, e, i, r, r2, r3, ⟨h1, h2, h3, h4⟩, q⟩ => ?_
  subst e
  refine wp_ret i (ge_is (g_cmp (op_eqD (hu64 hr)) (g_lc (ρ := rN) (τ := rN) (own := [("_law_j", 3)]) (j := 3) (xs := List.range ks.length) (fun j => !decide ([way.getD j 0] ∈ css.getD (ks.getD j 0) [])) (fun j => j) rfl scFi.nd (by apply blkOk_by; change blkC nmFi (defScope (topS 57)) _ _ = true; decide +kernel) (fun _ _ _ _ _ => pg_name (i := 3) scFi.nd rfl (.inl rfl)) (gi_range g.bi.range (GE.n (g_lenL g.bi.len (gv 1 r2))) (by omega)) (by rw [List.length_range]; omega) fun j vj B2 hj x2 rj s0 H0 C cl fp => ⟨ts_one ?_, fun _ => gv 3 rj⟩) (g_nil (ρ := rN)) (rb_eqNil fun x _ => dat_N)) ?_) fun v B1 H1 f p => q v B1 H1 f p
  · rw [List.mem_range] at hj
    have hkj : ks[j]? = some (ks.getD j 0) := getD_at hj
    exact t_cmp op_notIn_seq (g_ixS (gv 2 (ρ := rT) r3) (gv 3 (ρ := rI) (x := (j : Int)) rj) (getD_at (by omega)) (by omega)) (g_ixL (gv 0 ((rL (rL rT)).ex x2 r)) (GE.n (g_ixL (ρ := rN) (gv 1 ((rL rN).ex x2 r2)) (gv 3 (ρ := rI) (x := (j : Int)) rj) hkj)) (getD_at (h4 _ (List.mem_of_getElem? hkj)))) rb_notinL
  · rw [List.map_id']
    unfold fitV
    rw [List.length_map]
    congr 1
    refine List.filter_congr fun j hj => ?_
    rw [List.mem_range] at hj
    have : (ks.map fun j => css.getD j []).getD j [] = css.getD (ks.getD j 0) [] := by
      rw [List.getD_eq_getElem?_getD, List.getElem?_map, getD_at (d := 0) hj]
      rfl
    rw [this]
theorem cal_st (g : GC K mg) (D : DSt K mg) : C8.Cal P w K mg base 1 "_law_stands" (sp3 (rL (rL rT)) (rL rN) (rL rT) (fun css ks ways => ks.length ≤ 100 ∧ (∀ way ∈ ways, ks.length ≤ way.length ∧ way.length ≤ 100) ∧ ∀ j ∈ ks, j < css.length) fun css ks ways => rB.r (ways.any (fitV (ks.map fun j => css.getD j [])) || ks.isEmpty)) [] := by
  refine D.cal scSt (fun vs H Q E ⟨x, y, z, v, u, t, B, e, _⟩ => by rw [e]; rfl) fun f cdv A outer s H vs Q E hr ⟨css, ks, ways, v, u, t, B, e, i, r, r2, r3, ⟨h1, h2, h4⟩, q⟩ => ?_
  subst e
  refine wp_for (ρ := rT) (xs := ways) (fun pre σ' Bj Hj => ∃ (a : Option V), σ' = [some v, some u, some t, a, none] ∧ KB.Fr B H Bj Hj ∧ pre.any (fitV (ks.map fun j => css.getD j [])) = false) i (gi_list (gv 2 r3)) (pg_name (i := 3) scSt.nd rfl (.inr rfl)) (fun B2 H2 f2 => ⟨none, rfl, f2, rfl⟩) (fun pre a post v' σ' Bj H2 Bb H3 hx x2 x3 ⟨a1, e, F, hno⟩ f3 r4 => ?_) (fun σ' B2 H2 x1 x2 ⟨a1, e, F, hno⟩ => ?_) rfl (hgm := gm_name)
  · subst e
    have ha : a ∈ ways := by rw [hx]; exact List.mem_append_right _ (List.mem_cons_self ..)
    obtain ⟨hw1, hw2⟩ := h2 a ha
    have F := F.trans f3
    have eqk : ((List.range ks.length).filter fun j => !decide ([a.getD j 0] ∈ css.getD (ks.getD j 0) [])).isEmpty = fitV (ks.map fun j => css.getD j []) a := by
      unfold fitV
      rw [List.length_map]
      congr 1
      refine List.filter_congr fun j hj => ?_
      rw [List.mem_range] at hj
      have : (ks.map fun j => css.getD j []).getD j [] = css.getD (ks.getD j 0) [] := by
        rw [List.getD_eq_getElem?_getD, List.getElem?_map, getD_at (d := 0) hj]
        rfl
      rw [this]
    refine wp_if (k := fitV (ks.map fun j => css.getD j []) a) F.i (GT.is (t_cmp (op_eqD (hu64 hr)) (g_lc (ρ := rN) (τ := rN) (own := [("_law_j", 4)]) (j := 4) (xs := List.range ks.length) (fun j => !decide ([a.getD j 0] ∈ css.getD (ks.getD j 0) [])) (fun j => j) rfl scSt.nd (by apply blkOk_by; change blkC nmSt (defScope (topS 52)) _ _ = true; decide +kernel) (fun _ _ _ _ _ => pg_name (i := 4) scSt.nd rfl (.inl rfl)) (gi_range g.bi.range (GE.n (g_lenL g.bi.len (gv 1 ((rL rN).ex F.b r2)))) (by omega)) (by rw [List.length_range]; omega) fun j vj B4 hj x4 rj s0 H0 C cl fp => ⟨ts_one ?_, fun _ => gv 4 rj⟩) (g_nil (ρ := rN)) (rb_eqNil fun x _ => dat_N)) (by rw [List.map_id']; exact eqk)) (fun z B4 H4 f4 => ?_) (fun z B4 H4 f4 => ?_)
    · rw [List.mem_range] at hj
      have hkj : ks[j]? = some (ks.getD j 0) := getD_at hj
      exact t_cmp op_notIn_seq (g_ixS (gv 3 (ρ := rT) r4) (gv 4 (ρ := rI) (x := (j : Int)) rj) (getD_at (by omega)) (by omega)) (g_ixL (gv 0 ((rL (rL rT)).ex (F.b.trans x4) r)) (GE.n (g_ixL (ρ := rN) (gv 1 ((rL rN).ex (F.b.trans x4) r2)) (gv 4 (ρ := rI) (x := (j : Int)) rj) hkj)) (getD_at (h4 _ (List.mem_of_getElem? hkj)))) rb_notinL
    · refine wp_ret f4.i (P := rB.r true) g_bl fun v5 B5 H5 f5 r5 => q v5 B5 H5 ((F.trans f4).trans f5) ?_
      have : (ways.any (fitV (ks.map fun j => css.getD j [])) || ks.isEmpty) = true := by
        rw [List.any_eq_true.mpr ⟨a, ha, z⟩]
        rfl
      show rB.r (ways.any (fitV (ks.map fun j => css.getD j [])) || ks.isEmpty) v5 B5
      rw [this]
      exact r5
    · refine wp_nil (wp_nil ⟨B4, f4.b, f4.i, _, rfl, F.trans f4, ?_⟩)
      rw [List.any_append, hno]
      simpa using z
  · subst e
    refine wp_ret F.i (ge_is (g_cmp (op_eqD (hu64 hr)) (gv 1 ((rL rN).ex F.b r2)) (g_nil (ρ := rN)) (rb_eqNil fun x _ => dat_N)) (y := ways.any (fitV (ks.map fun j => css.getD j [])) || ks.isEmpty) (by rw [hno]; rfl)) fun v5 B5 H5 f5 r5 => q v5 B5 H5 (F.trans f5) r5
end
end KD
end
section
set_option autoImplicit false
set_option linter.all false
/-! M10: what the five functions answer, by all right words. -/
namespace MF
open MS
/-- a told label that is changed -/
def cs1 (m : List Nat) (q c : Nat) : Nat := if m.getD q 0 ≠ 63 ∧ m.getD q 0 ≠ c then 1 else 0
def apart (m x : List Nat) : Nat := ((List.range m.length).filter fun k => !decide ([m.getD k 0] = [63]) && !decide ([m.getD k 0] = [x.getD k 0])).length
theorem dist_sum {cost : Nat → Nat → Nat} : ∀ (x : List Nat) (p : Nat), dist cost p x = ((List.range x.length).map fun k => cost (p + k) (x.getD k 0)).sum
  | [], p => rfl
  | c :: x, p => by
    rw [dist, dist_sum x (p + 1), List.length_cons, List.range_succ_eq_map, List.map_cons, List.sum_cons, List.map_map]
    refine congrArg (fun z => cost p c + z) (congrArg List.sum (List.map_congr_left fun k _ => ?_))
    show cost (p + 1 + k) (x.getD k 0) = cost (p + (k + 1)) (x.getD k 0)
    rw [show p + 1 + k = p + (k + 1) by omega]
theorem filter_sum {p : Nat → Bool} : ∀ xs : List Nat, (xs.filter p).length = (xs.map fun k => if p k = true then 1 else 0).sum
  | [] => rfl
  | x :: xs => by
    rw [List.filter_cons, List.map_cons, List.sum_cons]
    split
    · rw [List.length_cons, filter_sum xs]; omega
    · rw [filter_sum xs]; omega
theorem apart_dist {m x : List Nat} (h : x.length = m.length) : apart m x = dist (cs1 m) 0 x := by
  unfold apart
  rw [filter_sum, dist_sum, h]
  refine congrArg List.sum (List.map_congr_left fun k _ => ?_)
  show (if (!decide ([m.getD k 0] = [63]) && !decide ([m.getD k 0] = [x.getD k 0])) = true then 1 else 0) = cs1 m (0 + k) (x.getD k 0)
  rw [Nat.zero_add]
  unfold cs1
  generalize m.getD k 0 = a
  generalize x.getD k 0 = b
  by_cases h1 : a = 63
  · simp [h1]
  · by_cases h2 : a = b
    · simp [h2]
    · simp [h1, h2]
theorem cs1_zero {m : List Nat} {q c : Nat} : cs1 m q c = 0 ↔ m.getD q 0 = 63 ∨ m.getD q 0 = c := by
  unfold cs1
  split
  · rename_i h
    exact ⟨fun z => by omega, fun z => z.elim (fun e => absurd e h.1) fun e => absurd e h.2⟩
  · rename_i h
    refine ⟨fun _ => ?_, fun _ => rfl⟩
    by_cases e : m.getD q 0 = 63
    · exact .inl e
    · exact .inr (Decidable.byContradiction fun e2 => h ⟨e, e2⟩)
/-- a right word of a shape -/
def Rt (w : Nat) (rows : List (List Nat)) (sh x : List Nat) : Prop := ∃ c, FW (fun _ c => c ∈ labs rows) (Aw rows) (fr w sh) 0 [c] x
structure Ev (w : Nat) (rows : List (List Nat)) (sh : List Nat) (ev : List (List Nat)) : Prop where
  asc : Asc ltL ev
  mem : ∀ x, x ∈ ev ↔ Rt w rows sh x
def agree (m : List Nat) (ev : List (List Nat)) : List (List Nat) := ev.filter fun x => decide (apart m x = 0)
abbrev okm (rows : List (List Nat)) (m : List Nat) (q c : Nat) : Prop := c ∈ labs rows ∧ cs1 m q c = 0
theorem fw_head : ∀ (f : F) {ok : Nat → Nat → Prop} {A : Nat → List Nat → Prop} {p c : Nat} {o x : List Nat}, FW ok A f p (c :: o) x → x.headD 0 = c
  | .nil, _, _, _, _, _, _, ⟨e, _⟩ => nomatch e
  | .cons k r, _, _, _, _, _, _, ⟨d, o', t, y, z, e1, e2, _⟩ => by
    cases e1
    rw [e2]
    rfl
theorem aq_ne {A : Nat → List Nat → Prop} {ks : List Nat} {c : Nat} {t : List Nat} (h : ks ≠ []) : AQ A ks c t ↔ A c t := by
  cases ks with
  | nil => exact absurd rfl h
  | cons k ks => exact Iff.rfl
/-! ### lots -/
theorem fitB_Fit {ls : List (List Nat)} : ∀ {ks o : List Nat}, o.length = ks.length → (fitB o (ks.map fun j => ls.getD j []) = true ↔ Fit (fun j c => c ∈ ls.getD j []) ks o)
  | [], [], _ => ⟨fun _ => trivial, fun _ => rfl⟩
  | k :: ks, c :: o, h => by
    rw [List.map_cons, fitB, Bool.and_eq_true, fitB_Fit (ks := ks) (o := o) (by simpa using h)]
    exact ⟨fun ⟨a, b⟩ => ⟨of_decide_eq_true a, b⟩, fun ⟨a, b⟩ => ⟨decide_eq_true a, b⟩⟩
  | [], _ :: _, h => by simp at h
  | _ :: _, [], h => by simp at h
theorem mem_topsAb {O : Ob} {vs : List (List Nat)} {c : Nat} (nd : (O.map (·.1)).Nodup) : c ∈ topsAb O vs ↔ ∃ t ∈ lk O c, fitB t vs = true := by
  unfold topsAb
  rw [mem_usort stoN, List.mem_map]
  constructor
  · rintro ⟨p, hp, rfl⟩
    obtain ⟨h1, h2⟩ := List.mem_filter.mp hp
    obtain ⟨t, h3, h4⟩ := List.any_eq_true.mp h2
    exact ⟨t, by rw [lk_mem nd h1]; exact h3, h4⟩
  · rintro ⟨t, h1, h2⟩
    obtain ⟨p, hp, e, e2⟩ := mem_lk h1
    exact ⟨p, List.mem_filter.mpr ⟨hp, List.any_eq_true.mpr ⟨t, by rw [← e2]; exact h1, h2⟩⟩, e⟩
theorem mem_lotV {O : Ob} {L ks : List Nat} {c0 c : Nat} {vs : List (List Nat)} : c ∈ lotV O L c0 ks vs ↔ c ∈ (if ks = [] then L else topsAb O vs) ∧ (c0 = 63 ∨ c0 = c) := by
  unfold lotV
  generalize (if ks = [] then L else topsAb O vs) = a
  by_cases h : c0 = 63
  · rw [if_pos h]
    exact ⟨fun z => ⟨z, .inl h⟩, fun z => z.1⟩
  · rw [if_neg h]
    by_cases h2 : c0 ∈ a
    · rw [if_pos h2, List.mem_singleton]
      exact ⟨fun e => ⟨by rw [e]; exact h2, .inr e.symm⟩, fun z => (z.2.resolve_left h).symm⟩
    · rw [if_neg h2]
      exact ⟨fun z => (nomatch z), fun ⟨z1, z2⟩ => by
        have := z2.resolve_left h
        rw [this] at h2
        exact absurd z1 h2⟩
theorem lot_asc {O : Ob} {L ks : List Nat} {c0 : Nat} {vs : List (List Nat)} (hL : Asc ltN L) : Asc ltN (lotV O L c0 ks vs) := by
  have h1 : Asc ltN (if ks = [] then L else topsAb O vs) := by
    split
    · exact hL
    · exact asc_usort stoN _
  unfold lotV
  generalize (if ks = [] then L else topsAb O vs) = a at h1 ⊢
  split
  · exact h1
  · split
    · exact List.pairwise_singleton ..
    · exact List.Pairwise.nil
section
variable {w : Nat} {rows : List (List Nat)} {sh m : List Nat} {ev ls : List (List Nat)}
theorem Ev.ag (E : Ev w rows sh ev) (h : Sh w sh) (hm : m.length = sh.length) {x : List Nat} : x ∈ agree m ev ↔ ∃ c, FW (okm rows m) (Aw rows) (fr w sh) 0 [c] x := by
  unfold agree
  rw [List.mem_filter, E.mem]
  constructor
  · rintro ⟨⟨c, hc⟩, h0⟩
    have hl := fw_len _ hc
    rw [h.size] at hl
    have h0 := of_decide_eq_true h0
    rw [apart_dist (by omega)] at h0
    exact ⟨c, (fw_zero _).mpr ⟨hc, h0⟩⟩
  · rintro ⟨c, hc⟩
    obtain ⟨h1, h2⟩ := (fw_zero (cost := cs1 m) (ok := fun _ c => c ∈ labs rows) _).mp hc
    have hl := fw_len _ h1
    rw [h.size] at hl
    exact ⟨⟨c, h1⟩, decide_eq_true (by rw [apart_dist (by omega)]; exact h2)⟩
theorem Ev.len (E : Ev w rows sh ev) (h : Sh w sh) {x : List Nat} (hx : x ∈ ev) : x.length = sh.length := by
  obtain ⟨c, hc⟩ := (E.mem x).mp hx
  have := fw_len _ hc
  rw [h.size] at this
  exact this
theorem Ev.ascA (E : Ev w rows sh ev) : Asc ltL (agree m ev) := List.Pairwise.filter _ E.asc
theorem lots_hl (g : Gr w rows) (h : Sh w sh) (hl : IsLots w rows sh m ls) : ∀ q, q < sh.length → ∀ c, c ∈ ls.getD q [] ↔ okm rows m q c ∧ ∃ t, AQ (Aw rows) (kdf w sh q) c t ∧ Fit (fun j c => c ∈ ls.getD j []) (kdf w sh q) t := by
  intro q hq c
  have e := hl.2 q hq
  rw [e]
  show c ∈ lotV (obys rows) (labs rows) (m.getD q 0) (kdf w sh q) ((kdf w sh q).map fun j => ls.getD j []) ↔ _
  rw [mem_lotV, ← cs1_zero]
  by_cases hne : kdf w sh q = []
  · rw [hne, if_pos rfl]
    exact ⟨fun z => ⟨z, [], rfl, trivial⟩, fun z => z.1⟩
  · have hk := (h.kidsL q).2.resolve_left hne
    rw [if_neg hne, mem_topsAb g.okO.nd]
    constructor
    · rintro ⟨⟨t, h1, h2⟩, h3⟩
      have ha := mem_obys.mp h1
      exact ⟨⟨(g.top ha).1, h3⟩, t, (aq_ne hne).mpr ha, (fitB_Fit (by rw [g.aw_len ha, hk])).mp h2⟩
    · rintro ⟨⟨_, h3⟩, t, h1, h2⟩
      have ha := (aq_ne hne).mp h1
      exact ⟨⟨t, mem_obys.mpr ha, (fitB_Fit (by rw [g.aw_len ha, hk])).mpr h2⟩, h3⟩
theorem lots_top (g : Gr w rows) (h : Sh w sh) (hl : IsLots w rows sh m ls) (c : Nat) : c ∈ ls.getD 0 [] ↔ ∃ x, FW (okm rows m) (Aw rows) (fr w sh) 0 [c] x := by
  have := lots_ok (lots_hl g h hl) (fr w sh) 0 h.at' [c]
  rw [h.idx] at this
  exact ⟨fun z => this.mp ⟨z, trivial⟩, fun z => (this.mpr z).1⟩
theorem lots_none (g : Gr w rows) (h : Sh w sh) (hm : m.length = sh.length) (E : Ev w rows sh ev) (hl : IsLots w rows sh m ls) (h0 : ls.getD 0 [] = []) : agree m ev = [] := by
  cases hc : agree m ev with
  | nil => rfl
  | cons x l =>
    obtain ⟨c, hx⟩ := (E.ag h hm).mp (by rw [hc]; exact List.mem_cons_self ..)
    have := (lots_top g h hl c).mpr ⟨x, hx⟩
    rw [h0] at this
    cases this
/-- the tops -/
theorem tops_law (g : Gr w rows) (h : Sh w sh) (hm : m.length = sh.length) (E : Ev w rows sh ev) (hl : IsLots w rows sh m ls) : ls.getD 0 [] = usort ltN ((agree m ev).map fun x => x.headD 0) := by
  refine (usort_eq stoN ?_ fun c => ?_).symm
  · rw [hl.2 0 h.pos]
    exact lot_asc (asc_usort stoN _)
  · rw [lots_top g h hl, List.mem_map]
    constructor
    · rintro ⟨x, hx⟩
      exact ⟨x, (E.ag h hm).mpr ⟨c, hx⟩, fw_head _ hx⟩
    · rintro ⟨x, hx, e⟩
      obtain ⟨d, hd⟩ := (E.ag h hm).mp hx
      have := fw_head _ hd
      exact ⟨x, by rw [← e, this]; exact hd⟩
end
/-! ### filled -/
theorem asc_head {l : List (List Nat)} (ha : Asc ltL l) {b : List Nat} (hb : b ∈ l) (hl : ∀ x ∈ l, le b x) : l.head? = some b := by
  cases l with
  | nil => cases hb
  | cons y l =>
    obtain ⟨h1, _⟩ := List.pairwise_cons.mp ha
    rcases List.mem_cons.mp hb with rfl | hb
    · rfl
    · have h3 := h1 b hb
      have h2 := hl y (List.mem_cons_self ..)
      unfold le at h2
      rw [h3] at h2
      cases h2
theorem first_le {O : Ob} {ls : List (List Nat)} {c : Nat} {o : List Nat} (ha : Asc ltL (lk O c)) (h : firstO O ls c = some o) : o ∈ lk O c ∧ fitB o ls = true ∧ ∀ t ∈ lk O c, fitB t ls = true → le o t := by
  unfold firstO at h
  have ha' : Asc ltL ((lk O c).filter fun o => fitB o ls) := List.Pairwise.filter _ ha
  generalize hf : (lk O c).filter (fun o => fitB o ls) = l at h ha'
  cases l with
  | nil => cases h
  | cons y l =>
    cases h
    have hy : o ∈ (lk O c).filter fun o => fitB o ls := by rw [hf]; exact List.mem_cons_self ..
    obtain ⟨h1, h2⟩ := List.mem_filter.mp hy
    refine ⟨h1, h2, fun t ht hft => ?_⟩
    have : t ∈ o :: l := by rw [← hf]; exact List.mem_filter.mpr ⟨ht, hft⟩
    rcases List.mem_cons.mp this with rfl | ht
    · exact le_refl _
    · exact stoL.asym ((List.pairwise_cons.mp ha').1 t ht)
theorem blk_flat {G : Nat → Nat} : ∀ {f : List (List Nat)} {p : Nat}, (∀ q, q < f.length → f.getD q [] = [G (p + q)]) → f.flatten = blk G p f.length
  | [], p, _ => rfl
  | l :: f, p, h => by
    have h0 : l = [G p] := h 0 (by simp)
    have ih := blk_flat (f := f) (p := p + 1) fun q hq => by
      have := h (q + 1) (by simpa using hq)
      rw [show p + 1 + q = p + (q + 1) by omega]
      exact this
    rw [List.flatten_cons, List.length_cons, blk, h0, ih]
    rfl
section
variable {w : Nat} {rows : List (List Nat)} {sh m : List Nat} {ev ls : List (List Nat)}
theorem filled_law (g : Gr w rows) (h : Sh w sh) (hm : m.length = sh.length) (E : Ev w rows sh ev) {res : Option (List Nat)} (hf : IsFilled w rows sh m res) : res = (agree m ev).head? := by
  obtain ⟨ls, hl, hr⟩ := hf
  rcases hr with ⟨h0, rfl⟩ | ⟨hne, f, I, rfl⟩
  · rw [lots_none g h hm E hl h0]
    rfl
  · have vis : ∀ q, q < sh.length → ∃ c, c ∈ ls.getD q [] ∧ f.getD q [] = [c] := fun q hq => I.vis q hq (by
      rcases h.every q hq with e | ⟨p, hp, hj⟩
      · exact .inl e
      · exact .inr ⟨p, by omega, hj⟩)
    obtain ⟨G, hGd⟩ : ∃ G : Nat → Nat, ∀ q, G q = (f.getD q []).headD 0 := ⟨_, fun _ => rfl⟩
    have hG : ∀ q, q < sh.length → f.getD q [] = [G q] ∧ G q ∈ ls.getD q [] := fun q hq => by
      obtain ⟨c, h1, h2⟩ := vis q hq
      have e : G q = c := by rw [hGd, h2]; rfl
      rw [e]
      exact ⟨h2, h1⟩
    obtain ⟨m1, m2⟩ := filled_ok (G := G) (lots_hl g h hl) (fun q hq haq => by
      by_cases hk0 : kdf w sh q = []
      · rw [hk0]
        exact ⟨rfl, trivial, fun t ht _ => by rw [show t = [] from ht]; exact le_refl []⟩
      · obtain ⟨c, o, e1, e2, e3⟩ := I.don q hq hq hk0
        have ec : G q = c := by rw [hGd, e1]; rfl
        have eo : (kdf w sh q).map G = o := by
          have := congrArg (List.map fun l : List Nat => l.headD 0) e3
          rw [List.map_map, List.map_map] at this
          rw [show (kdf w sh q).map G = (kdf w sh q).map ((fun l : List Nat => l.headD 0) ∘ fun j => f.getD j []) from List.map_congr_left fun j _ => hGd j, this]
          exact List.map_id o
        obtain ⟨k1, k2, k3⟩ := first_le (g.ascS c) e2
        have ha := mem_obys.mp k1
        have hk := (h.kidsL q).2.resolve_left hk0
        rw [ec, eo]
        refine ⟨(aq_ne hk0).mpr ha, (fitB_Fit (by rw [g.aw_len ha, hk])).mp k2, fun t ht hft => ?_⟩
        have hat := (aq_ne hk0).mp ht
        exact k3 t (mem_obys.mpr hat) ((fitB_Fit (by rw [g.aw_len hat, hk])).mpr hft)) (fr w sh) 0 h.at' (by
      rw [h.idx]
      exact ⟨(hG 0 h.pos).2, trivial⟩)
    rw [h.idx] at m1 m2
    have ef : f.flatten = blk G 0 (fr w sh).size := by
      rw [h.size, ← I.len]
      refine blk_flat fun q hq => ?_
      rw [Nat.zero_add]
      exact (hG q (by rw [← I.len]; exact hq)).1
    rw [ef]
    refine (asc_head E.ascA ((E.ag h hm).mpr ⟨_, m1⟩) fun x hx => ?_).symm
    obtain ⟨c, hc⟩ := (E.ag h hm).mp hx
    refine m2 [c] x hc ?_
    have hc0 : c ∈ ls.getD 0 [] := (lots_top g h hl c).mpr ⟨x, hc⟩
    have hasc : Asc ltN (ls.getD 0 []) := by
      rw [hl.2 0 h.pos]
      exact lot_asc (asc_usort stoN _)
    have htop := I.top
    have hG0 := hGd 0
    generalize hl0 : ls.getD 0 [] = l0 at *
    cases l0 with
    | nil => cases hc0
    | cons y r =>
      rw [htop] at hG0
      have hG0 : G 0 = y := hG0
      show le [G 0] [c]
      rw [hG0]
      rcases List.mem_cons.mp hc0 with rfl | hr
      · exact le_refl _
      · exact le_of (.inl (of_decide_eq_true ((List.pairwise_cons.mp hasc).1 c hr)))
end
end MF
end
section
set_option autoImplicit false
set_option linter.all false
/-! M11: how many, what all have. -/
namespace MF
open MS
/-! ### how many -/
theorem lko_none {d : Dn} {c : Nat} (h : c ∉ d.map (·.1)) : lko d c = none := by
  cases e : lko d c with
  | none => rfl
  | some v => exact absurd (List.mem_map.mpr ⟨(c, v), lko_mem e, rfl⟩) h
theorem lkn_O {O : Ob} {Fn : List (List Nat) → Nat} (h0 : Fn [] = 0) (c : Nat) : lkn (O.map fun p => (p.1, Fn p.2)) c = Fn (lk O c) := by
  unfold lkn lko lk
  rw [List.find?_map]
  have : ((fun p : Nat × Nat => decide (p.1 = c)) ∘ fun p : Nat × List (List Nat) => (p.1, Fn p.2)) = fun p => decide (p.1 = c) := rfl
  rw [this]
  cases O.find? fun p => decide (p.1 = c) with
  | none => exact h0.symm
  | some p => rfl
theorem lko_L {L : List Nat} {v : Nat} (c : Nat) : lko (L.map fun c => (c, v)) c = if c ∈ L then some v else none := by
  by_cases h : c ∈ L
  · rw [if_pos h]
    unfold lko
    rw [List.find?_map]
    cases hf : L.find? ((fun p : Nat × Nat => decide (p.1 = c)) ∘ fun c => (c, v)) with
    | none =>
      have := List.find?_eq_none.mp hf c h
      exact absurd (decide_eq_true rfl) this
    | some d => rfl
  · rw [if_neg h]
    refine lko_none fun z => h ?_
    rw [List.map_map] at z
    obtain ⟨d, hd, e⟩ := List.mem_map.mp z
    have e : d = c := e
    rw [← e]
    exact hd
theorem cntV_lkn {O : Ob} {L ks : List Nat} {c0 c : Nat} {vs : List Dn} : lkn (cntV O L c0 ks vs) c = if c0 = 63 ∨ c0 = c then lkn (cntB O L ks vs) c else 0 := by
  unfold cntV
  by_cases h : c0 = 63
  · rw [if_pos h, if_pos (.inl h)]
  · rw [if_neg h]
    by_cases h2 : c0 = c
    · rw [if_pos (.inr h2)]
      subst h2
      unfold lkn lko
      rw [List.find?_cons, decide_eq_true rfl]
      rfl
    · rw [if_neg fun z => z.elim h h2]
      unfold lkn lko
      rw [List.find?_cons, decide_eq_false h2]
      rfl
theorem cntV_keys {O : Ob} {L ks : List Nat} {c0 : Nat} {vs : List Dn} (hO : (O.map (·.1)).Nodup) (hL : L.Nodup) : ((cntV O L c0 ks vs).map (·.1)).Nodup := by
  have h1 : ((cntB O L ks vs).map (·.1)).Nodup := by
    unfold cntB
    split
    · rw [List.map_map]
      rw [show L.map ((fun x : Nat × Nat => x.1) ∘ fun c => (c, 1)) = L from List.map_id L]
      exact hL
    · rw [List.map_map]
      exact hO
  unfold cntV
  split
  · exact h1
  · exact List.pairwise_singleton ..
theorem sum_keys {d : Dn} (h : (d.map (·.1)).Nodup) : (d.map (·.2)).sum = ((d.map (·.1)).map (lkn d)).sum := by
  rw [List.map_map]
  refine congrArg List.sum (List.map_congr_left fun p hp => ?_)
  show p.2 = lkn d p.1
  unfold lkn
  rw [lko_of h hp]
  rfl
section
variable {w : Nat} {rows : List (List Nat)} {sh m : List Nat} {ev ls : List (List Nat)}
theorem cnts_hm (g : Gr w rows) (h : Sh w sh) {cs : List Dn} (hc : IsCnts w rows sh m cs) : ∀ q, q < sh.length → ∀ c, lkn (cs.getD q []) c = if decide (okm rows m q c) = true then ((oq (lk (obys rows)) (kdf w sh q) c).map (pr (fun j c => lkn (cs.getD j []) c) (kdf w sh q))).sum else 0 := by
  intro q hq c
  have e := hc.2 q hq
  have e2 : lkn (cs.getD q []) c = lkn (cntV (obys rows) (labs rows) (m.getD q 0) (kdf w sh q) ((kdf w sh q).map fun j => cs.getD j [])) c := by rw [e]
  rw [e2, cntV_lkn]
  by_cases hz : cs1 m q c = 0
  · rw [if_pos (cs1_zero.mp hz)]
    by_cases hk0 : kdf w sh q = []
    · rw [hk0]
      show lkn ((labs rows).map fun c => (c, 1)) c = _
      unfold lkn
      rw [lko_L]
      by_cases hL : c ∈ labs rows
      · rw [if_pos hL, if_pos (decide_eq_true ⟨hL, hz⟩)]
        rfl
      · rw [if_neg hL, if_neg fun z => hL (of_decide_eq_true z).1]
        rfl
    · have e3 : cntB (obys rows) (labs rows) (kdf w sh q) ((kdf w sh q).map fun j => cs.getD j []) = (obys rows).map fun p => (p.1, (p.2.map fun o => prw ((kdf w sh q).map fun j => cs.getD j []) o).sum) := if_neg hk0
      rw [e3, lkn_O (Fn := fun os => (os.map fun o => prw ((kdf w sh q).map fun j => cs.getD j []) o).sum) rfl]
      have e4 : oq (lk (obys rows)) (kdf w sh q) c = lk (obys rows) c := by
        cases hk : kdf w sh q with
        | nil => exact absurd hk hk0
        | cons a b => rfl
      rw [e4]
      have e5 : ((lk (obys rows) c).map fun o => prw ((kdf w sh q).map fun j => cs.getD j []) o) = (lk (obys rows) c).map (pr (fun j c => lkn (cs.getD j []) c) (kdf w sh q)) := List.map_congr_left fun o _ => prw_pr
      by_cases hL : c ∈ labs rows
      · rw [if_pos (decide_eq_true ⟨hL, hz⟩)]
        exact congrArg List.sum e5
      · rw [if_neg fun z => hL (of_decide_eq_true z).1]
        have : lk (obys rows) c = [] := by
          cases hl : lk (obys rows) c with
          | nil => rfl
          | cons t l => exact absurd (g.top (mem_obys.mp (by rw [hl]; exact List.mem_cons_self ..))).1 hL
        rw [this]
        rfl
  · rw [if_neg fun z => hz (cs1_zero.mpr z), if_neg fun z => hz (of_decide_eq_true z).2]
/-- how many -/
theorem count_law (g : Gr w rows) (h : Sh w sh) (hm : m.length = sh.length) (E : Ev w rows sh ev) {cs : List Dn} (hc : IsCnts w rows sh m cs) : ((cs.getD 0 []).map (·.2)).sum = (agree m ev).length := by
  have hnd : ((cs.getD 0 []).map (·.1)).Nodup := by
    rw [hc.2 0 h.pos]
    exact cntV_keys g.okO.nd (asc_nd stoN (asc_usort stoN _))
  have hlen : ∀ c, lkn (cs.getD 0 []) c = (wl (fun q c => decide (okm rows m q c)) (lk (obys rows)) (fr w sh) 0 [c]).length := fun c => by
    have := len_wl (cnts_hm g h hc) (fr w sh) 0 h.at' [c]
    rw [h.idx] at this
    rw [this]
    exact (Nat.mul_one _).symm
  have hmem : ∀ c x, x ∈ wl (fun q c => decide (okm rows m q c)) (lk (obys rows)) (fr w sh) 0 [c] ↔ FW (okm rows m) (Aw rows) (fr w sh) 0 [c] x := fun c x => by
    rw [mem_wl]
    have e1 : (fun p c => decide (okm rows m p c) = true) = okm rows m := funext fun p => funext fun c => propext decide_eq_true_iff
    have e2 : (fun c t => t ∈ lk (obys rows) c) = Aw rows := funext fun c => funext fun t => propext mem_obys
    rw [e1, e2]
  rw [sum_keys hnd]
  have e1 : ((cs.getD 0 []).map (·.1)).map (lkn (cs.getD 0 [])) = ((cs.getD 0 []).map (·.1)).map fun c => (wl (fun q c => decide (okm rows m q c)) (lk (obys rows)) (fr w sh) 0 [c]).length := List.map_congr_left fun c _ => hlen c
  rw [e1, ← List.length_flatMap]
  have nd1 : (((cs.getD 0 []).map (·.1)).flatMap fun c => wl (fun q c => decide (okm rows m q c)) (lk (obys rows)) (fr w sh) 0 [c]).Nodup := by
    refine List.pairwise_flatMap.mpr ⟨fun c _ => nd_wl (fun c => g.ndS c) _ _ _, hnd.imp fun {c d} hne x hx y hy exy => hne ?_⟩
    subst exy
    rw [← fw_head _ ((hmem c x).mp hx), fw_head _ ((hmem d x).mp hy)]
  have nd2 : (agree m ev).Nodup := asc_nd stoL E.ascA
  refine Nat.le_antisymm (nd1.length_le_of_subset fun x hx => ?_) (nd2.length_le_of_subset fun x hx => ?_)
  · obtain ⟨c, _, hx⟩ := List.mem_flatMap.mp hx
    exact (E.ag h hm).mpr ⟨c, (hmem c x).mp hx⟩
  · obtain ⟨c, hx⟩ := (E.ag h hm).mp hx
    have hx2 := (hmem c x).mpr hx
    refine List.mem_flatMap.mpr ⟨c, ?_, hx2⟩
    have h0 : lkn (cs.getD 0 []) c ≠ 0 := by
      rw [hlen]
      exact Nat.pos_iff_ne_zero.mp (List.length_pos_of_mem hx2)
    refine Decidable.byContradiction fun z => h0 ?_
    unfold lkn
    rw [lko_none z]
    rfl
end
/-! ### what all have -/
def frc (A : List (List Nat)) (n : Nat) : Option (List Nat) := if A = [] then none else some ((List.range n).map fun k => if (A.filter fun r => decide ([r.getD k 0] = [(A.headD []).getD k 0])).length = A.length then (A.headD []).getD k 0 else 63)
theorem eq_range {β : Type} {f : List β} (d : β) : f = (List.range f.length).map fun k => f.getD k d := by
  refine List.ext_getElem? fun k => ?_
  rw [List.getElem?_map]
  by_cases h : k < f.length
  · rw [List.getElem?_range h, List.getElem?_eq_getElem h, Option.map_some, List.getD_eq_getElem?_getD, List.getElem?_eq_getElem h]
    rfl
  · rw [List.getElem?_eq_none (by omega), List.getElem?_eq_none (by rw [List.length_range]; omega)]
    rfl
theorem flat_one {α : Type} {f : α → Nat} : ∀ xs : List α, (xs.map fun x => [f x]).flatten = xs.map f
  | [] => rfl
  | x :: xs => by rw [List.map_cons, List.flatten_cons, flat_one xs]; rfl
section
variable {w : Nat} {rows : List (List Nat)} {sh m : List Nat} {ev ls : List (List Nat)}
theorem forced_law (g : Gr w rows) (h : Sh w sh) (hm : m.length = sh.length) (E : Ev w rows sh ev) {res : Option (List Nat)} (hf : IsForced w rows sh m res) : res = frc (agree m ev) sh.length := by
  obtain ⟨ls, hl, hr⟩ := hf
  rcases hr with ⟨h0, rfl⟩ | ⟨hne, f, I, rfl⟩
  · rw [lots_none g h hm E hl h0]
    rfl
  · have hal : ∀ x ∈ agree m ev, x.length = sh.length := fun x hx => E.len h (List.mem_filter.mp hx).1
    have key : ∀ i, i < sh.length → ∀ c, c ∈ f.getD i [] ↔ ∃ x ∈ agree m ev, x.getD i 0 = c := by
      intro i hi c
      have main := forced_ok (G := fun q c => c ∈ f.getD q []) (lots_hl g h hl) (fun q hq i j hij c => by
        have hk0 : kdf w sh q ≠ [] := fun e => by
          rw [e] at hij
          simp at hij
        have hk := (h.kidsL q).2.resolve_left hk0
        have hik : i < (kdf w sh q).length := (List.getElem?_eq_some_iff.mp hij).1
        rw [I.don q hq hq i j hij]
        unfold sval belowL
        rw [mem_usort stoN, List.mem_map]
        constructor
        · rintro ⟨o, ho, e⟩
          obtain ⟨h1, h2⟩ := List.mem_filter.mp ho
          obtain ⟨top, h3, h4⟩ := List.mem_flatMap.mp h1
          have ha := mem_obys.mp h4
          have hol := g.aw_len ha
          refine ⟨top, h3, o, (aq_ne hk0).mpr ha, (fitB_Fit (by rw [hol, hk])).mp h2, ?_⟩
          have hio : i < o.length := by omega
          rw [← e, List.getD_eq_getElem?_getD, List.getElem?_eq_getElem hio]
          rfl
        · rintro ⟨top, h3, t, h4, h5, h6⟩
          have ha := (aq_ne hk0).mp h4
          refine ⟨t, List.mem_filter.mpr ⟨List.mem_flatMap.mpr ⟨top, h3, mem_obys.mpr ha⟩, (fitB_Fit (by rw [g.aw_len ha, hk])).mpr h5⟩, ?_⟩
          rw [List.getD_eq_getElem?_getD, h6]
          rfl) (fr w sh) 0 h.at' (fun o => ∃ c, o = [c] ∧ c ∈ ls.getD 0 []) (fun o ⟨c, e, hc⟩ => by
        rw [h.idx, e]
        exact ⟨hc, trivial⟩) (fun i j hij c => by
        rw [h.idx] at hij
        cases i with
        | zero =>
          have hij : j = 0 := by simpa using hij.symm
          subst hij
          show c ∈ f.getD 0 [] ↔ _
          rw [I.top]
          constructor
          · exact fun hc => ⟨[c], ⟨c, rfl, hc⟩, rfl⟩
          · rintro ⟨o, ⟨d, rfl, hd⟩, e⟩
            have e : d = c := by simpa using e
            rw [← e]
            exact hd
        | succ i => simp at hij) i (by rw [h.size]; exact hi) c
      rw [Nat.zero_add] at main
      rw [main]
      constructor
      · rintro ⟨o, x, ⟨d, rfl, hd⟩, hx, e⟩
        refine ⟨x, (E.ag h hm).mpr ⟨d, hx⟩, ?_⟩
        rw [List.getD_eq_getElem?_getD, e]
        rfl
      · rintro ⟨x, hx, e⟩
        obtain ⟨d, hd⟩ := (E.ag h hm).mp hx
        have hxl := hal x hx
        refine ⟨[d], x, ⟨d, rfl, (lots_top g h hl d).mpr ⟨x, hd⟩⟩, hd, ?_⟩
        rw [← e, List.getD_eq_getElem?_getD, List.getElem?_eq_getElem (by omega)]
        rfl
    have hA : agree m ev ≠ [] := fun e => by
      cases hc : ls.getD 0 [] with
      | nil => exact hne hc
      | cons c l =>
        obtain ⟨x, hx⟩ := (lots_top g h hl c).mp (by rw [hc]; exact List.mem_cons_self ..)
        have := (E.ag h hm).mpr ⟨c, hx⟩
        rw [e] at this
        cases this
    unfold frc
    rw [if_neg hA]
    congr 1
    rw [eq_range (f := f) [], I.len, List.map_map, ← flat_one]
    refine congrArg List.flatten (List.map_congr_left fun k hk => ?_)
    rw [List.mem_range] at hk
    show (if (f.getD k []).length = 1 then f.getD k [] else [63]) = _
    have hnd : (f.getD k []).Nodup := (I.vis k hk (by
      rcases h.every k hk with e | ⟨p, hp, hj⟩
      · exact .inl e
      · exact .inr ⟨p, by omega, hj⟩)).2
    have hkey := key k hk
    generalize f.getD k [] = fk at *
    generalize hAA : agree m ev = A at *
    obtain ⟨r0, A', rfl⟩ : ∃ r0 A', A = r0 :: A' := by
      cases A with
      | nil => exact absurd rfl hA
      | cons a b => exact ⟨a, b, rfl⟩
    show _ = [if ((r0 :: A').filter fun r => decide ([r.getD k 0] = [r0.getD k 0])).length = (r0 :: A').length then r0.getD k 0 else 63]
    have hr0 : r0.getD k 0 ∈ fk := (hkey _).mpr ⟨r0, List.mem_cons_self .., rfl⟩
    by_cases h1 : fk.length = 1
    · rw [if_pos h1]
      obtain ⟨c, rfl⟩ : ∃ c, fk = [c] := by
        match fk, h1 with
        | [c], _ => exact ⟨c, rfl⟩
      have hc0 : r0.getD k 0 = c := List.mem_singleton.mp hr0
      have hall : ((r0 :: A').filter fun r => decide ([r.getD k 0] = [r0.getD k 0])) = r0 :: A' := List.filter_eq_self.mpr fun r hr => by
        have := List.mem_singleton.mp ((hkey _).mpr ⟨r, hr, rfl⟩)
        exact decide_eq_true (by rw [this, hc0])
      rw [hall, if_pos rfl, hc0]
    · rw [if_neg h1]
      rw [if_neg fun hl' => h1 ?_]
      have hall := List.filter_eq_self.mp (List.Sublist.eq_of_length List.filter_sublist hl')
      have hsub : ∀ c ∈ fk, c ∈ [r0.getD k 0] := fun c hc => by
        obtain ⟨r, hr, e⟩ := (hkey c).mp hc
        have := List.head_eq_of_cons_eq (of_decide_eq_true (hall r hr))
        rw [← e, this]
        exact List.mem_singleton.mpr rfl
      have l1 := hnd.length_le_of_subset hsub
      have l2 := List.length_pos_of_mem hr0
      simp at l1
      omega
end
end MF
end
section
set_option autoImplicit false
set_option linter.all false
/-! M12: the fewest changes; all right words, made place by place. -/
namespace MF
open MS
/-! ### the fewest changes -/
theorem zip_cons_any {d : Dn} {vs : List Dn} {c : Nat} {o : List Nat} : costB (d :: vs) (c :: o) = match lko d c, costB vs o with
    | some a, some b => some (a + b)
    | _, _ => none := by
  unfold costB
  rw [List.zip_cons_cons, List.any_cons, List.map_cons, List.sum_cons]
  cases hd : lko d c with
  | none =>
    show (if (true || _) = true then _ else _) = _
    rw [Bool.true_or, if_pos rfl]
  | some a =>
    show (if (false || _) = true then _ else some (lkn d c + _)) = _
    rw [Bool.false_or]
    have e : lkn d c = a := by
      unfold lkn
      rw [hd]
      rfl
    rw [e]
    split
    · rfl
    · rfl
theorem costB_DS {cs : List Dn} : ∀ {ks o : List Nat} {v : Nat}, o.length = ks.length → (costB (ks.map fun j => cs.getD j []) o = some v ↔ DS (fun q c v => lko (cs.getD q []) c = some v) ks o v)
  | [], [], v, _ => by
    show some 0 = some v ↔ v = 0
    exact ⟨fun e => (Option.some.inj e).symm, fun e => by rw [e]⟩
  | k :: ks, c :: o, v, h => by
    rw [List.map_cons, zip_cons_any]
    have ih := fun v => costB_DS (cs := cs) (ks := ks) (o := o) (v := v) (by simpa using h)
    show _ ↔ ∃ a b, v = a + b ∧ lko (cs.getD k []) c = some a ∧ DS _ ks o b
    constructor
    · intro e
      split at e
      · rename_i a b h1 h2
        exact ⟨a, b, (Option.some.inj e).symm, h1, (ih b).mp h2⟩
      · cases e
    · rintro ⟨a, b, e, h1, h2⟩
      rw [h1, (ih b).mpr h2, e]
  | [], _ :: _, _, h => by simp at h
  | _ :: _, [], _, h => by simp at h
theorem lko_cons {p : Nat × Nat} {d : Dn} {c : Nat} : lko (p :: d) c = if p.1 = c then some p.2 else lko d c := by
  unfold lko
  rw [List.find?_cons]
  by_cases h : p.1 = c
  · rw [decide_eq_true h, if_pos h]
    rfl
  · rw [decide_eq_false h, if_neg h]
theorem lk_cons {p : Nat × List (List Nat)} {O : Ob} {c : Nat} : lk (p :: O) c = if p.1 = c then p.2 else lk O c := by
  unfold lk
  rw [List.find?_cons]
  by_cases h : p.1 = c
  · rw [decide_eq_true h, if_pos h]
    rfl
  · rw [decide_eq_false h, if_neg h]
theorem costsAb_keys {O : Ob} {vs : List Dn} {c : Nat} (h : c ∉ O.map (·.1)) : lko (costsAb O vs) c = none := by
  refine lko_none fun z => h ?_
  obtain ⟨p, hp, e⟩ := List.mem_map.mp z
  unfold costsAb at hp
  obtain ⟨p', h1, h2⟩ := List.mem_filterMap.mp hp
  split at h2
  · cases h2
  · cases h2
    exact List.mem_map.mpr ⟨p', h1, e⟩
theorem lko_costsAb {vs : List Dn} {c : Nat} : ∀ {O : Ob}, (O.map (·.1)).Nodup → lko (costsAb O vs) c = if (lk O c).filterMap (costB vs) = [] then none else some (minL ((lk O c).filterMap (costB vs)))
  | [], _ => rfl
  | p :: O, h => by
    rw [List.map_cons, List.nodup_cons] at h
    have ih := lko_costsAb (vs := vs) (c := c) h.2
    rw [lk_cons]
    by_cases e : p.1 = c
    · rw [if_pos e]
      unfold costsAb
      rw [List.filterMap_cons]
      by_cases hl : p.2.filterMap (costB vs) = []
      · rw [if_pos hl, if_pos hl]
        exact costsAb_keys (by rw [← e]; exact h.1)
      · rw [if_neg hl, if_neg hl]
        show lko ((p.1, _) :: _) c = _
        rw [lko_cons, if_pos e]
    · rw [if_neg e, ← ih]
      unfold costsAb
      rw [List.filterMap_cons]
      split
      · rfl
      · rename_i b hb
        split at hb
        · cases hb
        · cases hb
          rw [lko_cons, if_neg e]
theorem lko_map {d : Dn} {f : Nat → Nat → Nat} {c : Nat} : lko (d.map fun p => (p.1, f p.1 p.2)) c = (lko d c).map (f c) := by
  induction d with
  | nil => rfl
  | cons p d ih =>
    rw [List.map_cons, lko_cons, lko_cons, ih]
    by_cases e : p.1 = c
    · rw [if_pos e, if_pos e, e]
      rfl
    · rw [if_neg e, if_neg e]
theorem lko_cstV {O : Ob} {L ks m : List Nat} {q c : Nat} {vs : List Dn} : lko (cstV O L (m.getD q 0) ks vs) c = (lko (cstB O L ks vs) c).map fun v => v + cs1 m q c := by
  unfold cstV
  by_cases h : m.getD q 0 = 63
  · rw [if_pos h, cs1_zero.mpr (.inl h)]
    cases lko (cstB O L ks vs) c <;> rfl
  · rw [if_neg h, lko_map (f := fun a b => b + if a = m.getD q 0 then 0 else 1)]
    congr 1
    funext v
    unfold cs1
    by_cases h2 : c = m.getD q 0
    · rw [if_pos h2, if_neg fun z => z.2 h2.symm]
    · rw [if_neg h2, if_pos ⟨h, fun z => h2 z.symm⟩]
section
variable {w : Nat} {rows : List (List Nat)} {sh m : List Nat} {ev ls : List (List Nat)}
/-- the fewest changes -/
theorem least_law (g : Gr w rows) (h : Sh w sh) (hm : m.length = sh.length) (E : Ev w rows sh ev) {cs : List Dn} (hc : IsCsts w rows sh m cs) : (if cs.getD 0 [] = [] then none else some (minL ((cs.getD 0 []).map (·.2)))) = (usort ltN (ev.map (apart m))).head? := by
  have hat : ∀ q, q < sh.length → ∀ c, lko (cs.getD q []) c = (lko (cstB (obys rows) (labs rows) (kdf w sh q) ((kdf w sh q).map fun j => cs.getD j [])) c).map fun v => v + cs1 m q c := fun q hq c => by
    rw [← lko_cstV]
    exact congrArg (fun d => lko d c) (hc.2 q hq)
  have hDS : ∀ q, q < sh.length → kdf w sh q ≠ [] → ∀ c t, Aw rows c t → ∀ v, costB ((kdf w sh q).map fun j => cs.getD j []) t = some v ↔ DS (fun q c v => lko (cs.getD q []) c = some v) (kdf w sh q) t v := fun q hq hk0 c t ha v => by
    have hk := (h.kidsL q).2.resolve_left hk0
    exact costB_DS (by rw [g.aw_len ha, hk])
  obtain ⟨main, mainE⟩ := costs_ok (n := sh.length) (kids := kdf w sh) (ok := fun _ c => c ∈ labs rows) (A := Aw rows) (cost := cs1 m) (D := fun q c v => lko (cs.getD q []) c = some v) (fun q hq c v hv => by
      rw [hat q hq] at hv
      obtain ⟨v', e1, e2⟩ := Option.map_eq_some_iff.mp hv
      by_cases hk0 : kdf w sh q = []
      · rw [hk0] at e1 ⊢
        have e1 : lko ((labs rows).map fun c => (c, 0)) c = some v' := e1
        rw [lko_L] at e1
        split at e1
        · rename_i hL
          cases e1
          exact ⟨hL, 0, e2.symm, ⟨[], rfl, rfl⟩, fun t u _ _ => Nat.zero_le _⟩
        · cases e1
      · have e3 : cstB (obys rows) (labs rows) (kdf w sh q) ((kdf w sh q).map fun j => cs.getD j []) = costsAb (obys rows) ((kdf w sh q).map fun j => cs.getD j []) := if_neg hk0
        rw [e3, lko_costsAb g.okO.nd] at e1
        split at e1
        · cases e1
        · rename_i hl
          have e1 := Option.some.inj e1
          obtain ⟨m1, m2⟩ := minL_mem hl
          rw [e1] at m1 m2
          obtain ⟨t, h1, h2⟩ := List.mem_filterMap.mp m1
          have ha := mem_obys.mp h1
          refine ⟨(g.top ha).1, v', e2.symm, ⟨t, (aq_ne hk0).mpr ha, (hDS q hq hk0 c t ha v').mp h2⟩, fun t' u ht' hu => ?_⟩
          have ha' := (aq_ne hk0).mp ht'
          exact m2 u (List.mem_filterMap.mpr ⟨t', mem_obys.mpr ha', (hDS q hq hk0 c t' ha' u).mpr hu⟩)) (fun q hq c hL ⟨t, u, ht, hu⟩ => by
      show ∃ v, lko (cs.getD q []) c = some v
      rw [hat q hq]
      by_cases hk0 : kdf w sh q = []
      · rw [hk0]
        refine ⟨0 + cs1 m q c, ?_⟩
        show (lko ((labs rows).map fun c => (c, 0)) c).map _ = _
        rw [lko_L, if_pos hL]
        rfl
      · have e3 : cstB (obys rows) (labs rows) (kdf w sh q) ((kdf w sh q).map fun j => cs.getD j []) = costsAb (obys rows) ((kdf w sh q).map fun j => cs.getD j []) := if_neg hk0
        have ha := (aq_ne hk0).mp ht
        rw [e3, lko_costsAb g.okO.nd, if_neg fun z => ?_]
        · exact ⟨_, rfl⟩
        · have : u ∈ (lk (obys rows) c).filterMap (costB ((kdf w sh q).map fun j => cs.getD j [])) := List.mem_filterMap.mpr ⟨t, mem_obys.mpr ha, (hDS q hq hk0 c t ha u).mpr hu⟩
          rw [z] at this
          cases this) (fr w sh) 0 h.at'
  rw [h.idx] at main mainE
  have hap : ∀ x, x ∈ ev → apart m x = dist (cs1 m) 0 x := fun x hx => apart_dist (by rw [E.len h hx, hm])
  have hasc := asc_usort stoN (ev.map (apart m))
  by_cases h0 : cs.getD 0 [] = []
  · rw [if_pos h0]
    have : ev = [] := by
      cases ev with
      | nil => rfl
      | cons x l =>
        obtain ⟨c, hx⟩ := (E.mem x).mp (List.mem_cons_self ..)
        obtain ⟨v, a, b, _, hv, _⟩ := mainE [c] x hx
        rw [h0] at hv
        cases hv
    rw [this]
    rfl
  · rw [if_neg h0]
    obtain ⟨m1, m2⟩ := minL_mem (xs := (cs.getD 0 []).map (·.2)) fun z => h0 (List.map_eq_nil_iff.mp z)
    have hnd : ((cs.getD 0 []).map (·.1)).Nodup := by
      rw [hc.2 0 h.pos]
      exact (cstV_nd g.okO.nd (asc_nd stoN (asc_usort stoN _))).1
    obtain ⟨p, hp, e⟩ := List.mem_map.mp m1
    have hv : lko (cs.getD 0 []) p.1 = some p.2 := lko_of hnd hp
    obtain ⟨⟨x, hx, hd⟩, _⟩ := main [p.1] p.2 ⟨p.2, 0, rfl, hv, rfl⟩
    have hxe : x ∈ ev := (E.mem x).mpr ⟨p.1, hx⟩
    have hin : p.2 ∈ usort ltN (ev.map (apart m)) := (mem_usort stoN).mpr (List.mem_map.mpr ⟨x, hxe, by rw [hap x hxe, hd]⟩)
    have hle : ∀ v ∈ usort ltN (ev.map (apart m)), p.2 ≤ v := fun v hv => by
      obtain ⟨y, hy, e2⟩ := List.mem_map.mp ((mem_usort stoN).mp hv)
      obtain ⟨c, hyc⟩ := (E.mem y).mp hy
      obtain ⟨u, a, b, eu, ha, hb⟩ := mainE [c] y hyc
      obtain ⟨_, h3⟩ := main [c] u ⟨a, b, eu, ha, hb⟩
      have h4 := h3 y hyc
      have hb : b = 0 := hb
      have h5 := m2 a (List.mem_map.mpr ⟨(c, a), lko_mem ha, rfl⟩)
      rw [← e2, hap y hy]
      have e : p.2 = minL _ := e
      omega
    rw [← show p.2 = minL _ from e]
    generalize usort ltN (ev.map (apart m)) = l at *
    cases l with
    | nil => cases hin
    | cons y l =>
      have h6 := hle y (List.mem_cons_self ..)
      rcases List.mem_cons.mp hin with e' | hin
      · rw [← e']
        rfl
      · have := of_decide_eq_true ((List.pairwise_cons.mp hasc).1 p.2 hin)
        omega
end
/-! ### all right words -/
def allB (L : List Nat) (rows : List (List Nat)) (ks : List Nat) (vs : List Ob) : Ob := L.map fun c => (c, if ks = [] then [[c]] else (wayL rows c).flatMap fun t => wsD [[c]] vs t)
abbrev IsAll (w : Nat) (rows : List (List Nat)) (sh : List Nat) (cs : List Ob) : Prop := IsArr (fun q vs => allB (labs rows) rows (kdf w sh q) vs) [] sh.length (kdf w sh) cs
theorem wsD_ws {cs : List Ob} : ∀ {ks t : List Nat} {acc : List (List Nat)}, wsD acc (ks.map fun j => cs.getD j []) t = ws (fun j c => lk (cs.getD j []) c) acc ks t
  | [], [], _ => rfl
  | k :: ks, c :: t, acc => by
    rw [List.map_cons, wsD, ws]
    exact wsD_ws
  | [], _ :: _, _ => rfl
  | _ :: _, [], _ => rfl
theorem allB_lk {L : List Nat} {rows : List (List Nat)} {ks : List Nat} {vs : List Ob} {c : Nat} (hL : L.Nodup) : lk (allB L rows ks vs) c = if c ∈ L then (if ks = [] then [[c]] else (wayL rows c).flatMap fun t => wsD [[c]] vs t) else [] := by
  have hk : (allB L rows ks vs).map (·.1) = L := by
    unfold allB
    rw [List.map_map]
    exact List.map_id L
  by_cases h : c ∈ L
  · rw [if_pos h]
    exact lk_mem (p := (c, _)) (by rw [hk]; exact hL) (List.mem_map.mpr ⟨c, h, rfl⟩)
  · rw [if_neg h]
    cases e : lk (allB L rows ks vs) c with
    | nil => rfl
    | cons x l =>
      obtain ⟨p, hp, e2, _⟩ := mem_lk (s := allB L rows ks vs) (c := c) (o := x) (by rw [e]; exact List.mem_cons_self ..)
      exact absurd (by rw [← hk, ← e2]; exact List.mem_map.mpr ⟨p, hp, rfl⟩) h
section
variable {w : Nat} {rows : List (List Nat)} {sh m : List Nat} {cs : List Ob}
theorem all_words (g : Gr w rows) (h : Sh w sh) (hc : IsAll w rows sh cs) (c : Nat) (x : List Nat) : x ∈ lk (cs.getD 0 []) c ↔ FW (fun _ c => c ∈ labs rows) (Aw rows) (fr w sh) 0 [c] x := by
  have hL : (labs rows).Nodup := asc_nd stoN (asc_usort stoN _)
  have main := words_ok (n := sh.length) (kids := kdf w sh) (ok := fun _ c => c ∈ labs rows) (A := Aw rows) (b := fun j c => lk (cs.getD j []) c) (fun q hq c x => by
    have e : lk (cs.getD q []) c = lk (allB (labs rows) rows (kdf w sh q) ((kdf w sh q).map fun j => cs.getD j [])) c := congrArg (fun d => lk d c) (hc.2 q hq)
    show x ∈ lk (cs.getD q []) c ↔ _
    rw [e, allB_lk hL]
    by_cases hcl : c ∈ labs rows
    · rw [if_pos hcl]
      by_cases hk0 : kdf w sh q = []
      · rw [hk0, if_pos rfl]
        constructor
        · exact fun z => ⟨hcl, [], rfl, z⟩
        · rintro ⟨_, t, ht, hx⟩
          have ht : t = [] := ht
          subst ht
          exact hx
      · rw [if_neg hk0, List.mem_flatMap]
        constructor
        · rintro ⟨t, h1, h2⟩
          exact ⟨hcl, t, (aq_ne hk0).mpr (mem_wayL.mp h1), by rw [← wsD_ws]; exact h2⟩
        · rintro ⟨_, t, h1, h2⟩
          exact ⟨t, mem_wayL.mpr ((aq_ne hk0).mp h1), by rw [wsD_ws]; exact h2⟩
    · rw [if_neg hcl]
      exact ⟨fun z => (nomatch z), fun z => absurd z.1 hcl⟩) (fr w sh) 0 h.at' [c] [[]] x
  rw [h.idx] at main
  have e : ws (fun j c => lk (cs.getD j []) c) [[]] [0] [c] = lk (cs.getD 0 []) c := by
    show ([[]].flatMap fun u => (lk (cs.getD 0 []) c).map fun m => u ++ m) = _
    rw [List.flatMap_cons, List.flatMap_nil, List.append_nil]
    exact List.map_id _
  rw [e] at main
  rw [main]
  constructor
  · rintro ⟨u, hu, y, hy, e⟩
    rw [List.mem_singleton] at hu
    rw [e, hu]
    exact hy
  · exact fun hx => ⟨[], List.mem_singleton.mpr rfl, x, hx, rfl⟩
theorem all_ev (g : Gr w rows) (h : Sh w sh) (hc : IsAll w rows sh cs) : Ev w rows sh (usort ltL ((cs.getD 0 []).flatMap (·.2))) := by
  have hL : (labs rows).Nodup := asc_nd stoN (asc_usort stoN _)
  have hk : (cs.getD 0 []).map (·.1) = labs rows := by
    rw [hc.2 0 h.pos]
    show (allB _ _ _ _).map (·.1) = _
    unfold allB
    rw [List.map_map]
    exact List.map_id _
  refine ⟨asc_usort stoL _, fun x => ?_⟩
  rw [mem_usort stoL, List.mem_flatMap]
  constructor
  · rintro ⟨p, hp, hx⟩
    exact ⟨p.1, (all_words g h hc p.1 x).mp (by rw [lk_mem (by rw [hk]; exact hL) hp]; exact hx)⟩
  · rintro ⟨c, hx⟩
    obtain ⟨p, hp, e, e2⟩ := mem_lk ((all_words g h hc c x).mpr hx)
    exact ⟨p, hp, by rw [← e2]; exact (all_words g h hc c x).mpr hx⟩
/-- how many at most: words of at most seven letters, three to choose from -/
def allW (L : List Nat) : Nat → List (List Nat)
  | 0 => [[]]
  | n + 1 => L.flatMap fun c => (allW L n).map fun x => c :: x
theorem allW_len (L : List Nat) : ∀ n, (allW L n).length = L.length ^ n
  | 0 => rfl
  | n + 1 => by
    show (L.flatMap fun c => (allW L n).map fun x => c :: x).length = _
    rw [List.length_flatMap]
    have : (L.map fun c => ((allW L n).map fun x => c :: x).length) = L.map fun _ => L.length ^ n := List.map_congr_left fun c _ => by rw [List.length_map, allW_len L n]
    rw [this, sum_const, Nat.pow_succ, Nat.mul_comm]
theorem mem_allW {L : List Nat} : ∀ {x : List Nat}, (∀ c ∈ x, c ∈ L) → x ∈ allW L x.length
  | [], _ => List.mem_singleton.mpr rfl
  | c :: x, h => List.mem_flatMap.mpr ⟨c, h c (List.mem_cons_self ..), List.mem_map.mpr ⟨x, mem_allW fun d hd => h d (List.mem_cons_of_mem _ hd), rfl⟩⟩
theorem all_few (g : Gr w rows) (h : Sh w sh) (hc : IsAll w rows sh cs) {ys : List (List Nat)} (hn : ys.Nodup) (hy : ∀ y ∈ ys, y ∈ (cs.getD 0 []).flatMap (·.2)) : ys.length ≤ 2187 := by
  have hsub : ∀ y ∈ ys, y ∈ allW (labs rows) sh.length := fun y hy' => by
    have := (mem_usort stoL).mpr (hy y hy')
    have E := all_ev g h hc
    obtain ⟨c, hx⟩ := (E.mem y).mp this
    have hl := E.len h this
    rw [← hl]
    exact mem_allW fun d hd => fw_ok (g := fun c => c ∈ labs rows) (fun _ _ z => z) _ hx d hd
  refine Nat.le_trans (hn.length_le_of_subset hsub) ?_
  rw [allW_len]
  have h1 : (labs rows).length ≤ 3 := g.few
  refine Nat.le_trans (Nat.pow_le_pow_left h1 _) (Nat.le_trans (Nat.pow_le_pow_right (by decide) h.len) (by decide))
end
end MF
end
section
set_option Elab.async false
set_option linter.all false
set_option maxRecDepth 100000
set_option maxHeartbeats 4000000
/-! LE7: the labels that the tops can have. -/
namespace KD
open PySem PySem.Spec PyProof.Rows L2 KS MS KB
open SX (S)
open MF (abc Gr labs Sh kd kdf lord Ob wys wayL wys_keys lk IsArr dp_step mem_wayL)
abbrev nmCa : List Str := ["_law_grid_here", "_law_tree_here", "_law_signs", "_law_kids_here", "_law_ways_here", "_law_found", "_law_letters_here", "_law_k", "_law_told", "_law_sign", "_law_letter"]
theorem scCa : FnScope nmCa ["_law_grid_here", "_law_tree_here", "_law_signs"] (defScope (topS 53)) := ⟨rfl, rfl, rfl, by decide +kernel, rfl, by decide +kernel, by decide +kernel⟩
theorem nodLL {H : Hp} {cs : List (List (List Nat))} {ws : List V} (pr : Paired (fun x v => (rL rT).r x v H) cs ws) (hne : cs ≠ []) : ¬ (rL rT).ok (.obj (.lst ws)) := fun h => by
  cases pr with
  | nil => exact hne rfl
  | cons r t =>
    obtain ⟨a, vs, e, _⟩ := r
    rcases h with h | ⟨vs', e', hk⟩
    · exact h
    · cases e'
      obtain ⟨s, hs⟩ := hk _ (List.mem_cons_self ..)
      rw [e] at hs
      cases hs
/-- the labels that the top of a part can have -/
def canV (L : List Nat) (rows : List (List Nat)) (ks : List Nat) (vs : List (List (List Nat))) : List (List Nat) := (sg L).filter fun l => (wayL rows (l.headD 0)).any (fitV vs) || ks.isEmpty
abbrev IsCans (w : Nat) (rows : List (List Nat)) (sh : List Nat) (cs : List (List (List Nat))) : Prop := IsArr (fun q vs => canV (labs rows) rows (kdf w sh q) vs) [] sh.length (kdf w sh) cs
theorem wy_look {rows : List (List Nat)} {c : Nat} (hc : c ∈ labs rows) : look (wys (labs rows) rows) c = some (wayL rows c) :=
  look_mem (s := wys (labs rows) rows) (p := (c, wayL rows c)) (by rw [wys_keys]; exact asc_nd stoN (asc_usort stoN _)) (List.mem_map.mpr ⟨c, hc, rfl⟩)
theorem wy_len {wd : Nat} {rows : List (List Nat)} (gr : Gr wd rows) {c : Nat} : ∀ t ∈ wayL rows c, t.length = wd := fun t ht => gr.aw_len (mem_wayL.mp ht)
section
variable {P : Program} {w : World} {K : PySem.W.Frag} {mg : Str → Option Value} {base : Heap}
/-- more of the law's own defs -/
structure LD2 (K : PySem.W.Frag) (mg : Str → Option Value) : Prop where
  a : LD K mg
  ki : DKi K mg
  or' : DOr K mg
  wy : DWy K mg
  st : DSt K mg
  fi : DFi K mg
abbrev DCa (K : PySem.W.Frag) (mg : Str → Option Value) : Prop := Dfn K mg "_law_cans" (topS 53) ["_law_grid_here", "_law_tree_here", "_law_signs"]
theorem cal_can (g : GC K mg) (D : LD2 K mg) (D2 : DCa K mg) : C8.Cal P w K mg base 3 "_law_cans" (sp3 rG rT rT (fun gr sh m => Gr gr.1 gr.2 ∧ Sh gr.1 sh ∧ m = List.replicate sh.length 63) fun gr sh m => (rW (rL (rL rT)) (IsCans gr.1 gr.2 sh)).r ()) [] := by
  refine D2.cal scCa (fun vs H Q E ⟨x, y, z, v, u, t, B, e, _⟩ => by rw [e]; rfl) fun f cdv A outer s H vs Q E hr ⟨⟨wd, rows⟩, sh, m, v, u, t, B, e, i, r, r2, r3, ⟨gr, hp, hm⟩, q⟩ => ?_
  subst e
  have gr : Gr wd rows := gr
  have hm : m = List.replicate sh.length 63 := hm
  have hp : Sh wd sh := hp
  have hu := hu_of hr
  have hlen := hp.len
  have hpos := hp.pos
  have hrl := gr.n
  have hr4 := Gr.len4 gr
  have hfew : (labs rows).length ≤ 3 := gr.few
  have hml : m.length = sh.length := by rw [hm, List.length_replicate]
  refine wp_set 3 i (g_call2 (cal_ki g D.ki) hr (by decide) (g_fst (gv 0 r) g_int) (gv 1 r2) hp) (fun vk B1 H1 f1 rk => ?_) scCa.nd
  refine wp_set 4 f1.i (g_call1 (ρ := rG) (x := (wd, rows)) (cal_wy g D.a.let' D.or' D.wy) hr (by decide) (gv 0 (rG.ex f1.b r)) gr) (fun vw B2 H2 f2 rw2 => ?_) scCa.nd
  have F := f1.trans f2
  have rk : (rL (rL rN)).r (kd wd sh) vk B1 := rk
  have rw2 : (rD (rL rT)).r (wys (labs rows) rows) vw B2 := rw2
  refine wp_setLcN 5 (own := [("_law_sign", 9)]) (jt := 9) (ρ := rT) (τ := rL rT) F.i (fun _ => true) (fun _ => ([] : List (List Nat))) (gi_str (gv 1 r2)) (by rw [len_sg]; omega) (fun a va B2 ha x2 ra s0 H0 C cl fp => ⟨ts_nil, fun _ => g_nil⟩) (fun l ws B3 H3 m3 pr3 => ?_) rfl scCa.nd (by apply blkOk_by; change blkC nmCa (defScope (topS 53)) _ _ = true; decide +kernel) (fun _ _ _ _ _ => pg_name (i := 9) scCa.nd rfl (.inl rfl))
  rw [filt, map_const, len_sg] at pr3
  have mm := One.from F m3
  have rk := (rL (rL rN)).ex (f2.b.trans m3.F.b) rk
  have rw3 := (rD (rL rT)).ex m3.F.b rw2
  refine wp_set 6 mm.F.i (g_call1 (ρ := rG) (x := (wd, rows)) (cal_let g D.a.let') hr (by decide) (gv 0 (rG.ex mm.F.b r)) ⟨hrl, fun l hl => (hr4 l hl).2⟩) (fun vl B4 H4 f4 rl => ?_) scCa.nd
  have rl : (rL rT).r (sg (labs rows)) vl B4 := rl
  have mm := mm.step f4
  have rk := (rL (rL rN)).ex f4.b rk
  have rw4 := (rD (rL rT)).ex f4.b rw3
  have pr4 := pmap pr3 fun x v r => (rL rT).ex f4.b r
  refine wp_for (ρ := rN) (xs := (List.range sh.length).reverse) (fun pre σ' Bj Hj => ∃ (a b : Option V) (cs : List (List (List Nat))) (ws : List V), σ' = [some v, some u, some t, some vk, some vw, some (.ref l), some vl, a, b, none, none] ∧ One B H l (.lst ws) Bj Hj ∧ Paired (fun x v => (rL rT).r x v Bj) cs ws ∧ cs.length = sh.length ∧ (∀ q, sh.length - pre.length ≤ q → q < sh.length → cs.getD q [] = canV (labs rows) rows (kdf wd sh q) ((kdf wd sh q).map fun j => cs.getD j []))) mm.F.i (gi_down g.bi.range (g_sub (GE.n (g_lenS g.bi.len (gv 1 (ρ := rT) r2) (by omega))) g_int) (g_neg g_int) (g_neg g_int) (by omega)) (pg_name (i := 7) scCa.nd rfl (.inr rfl)) (fun B5 H5 f5 => ⟨none, none, _, ws, rfl, mm.step f5, pmap pr4 fun x v r => (rL rT).ex f5.b r, List.length_replicate, fun q h1 h2 => ?_⟩) (fun pre a post v' σ' Bj H5 Bb H6 hx x2 x3 ⟨a1, b1, cs, ws1, e, mj, prj, hls, hd⟩ f3 r3' => ?_) (fun σ' B5 H5 x1 x2 ⟨a1, b1, cs, ws1, e, mj, prj, hls, hd⟩ => ?_) rfl (hgm := gm_name)
  · rw [List.length_nil] at h1
    omega
  · subst e
    obtain ⟨ea, hpl⟩ := down_at hx
    have hap : a < sh.length := by omega
    have mb := mj.step f3
    have prb := pmap prj fun x v r => (rL rT).ex f3.b r
    have xb := x2.trans f3.b
    have rkb := (rL (rL rN)).ex xb rk
    have rwb := (rD (rL rT)).ex xb rw4
    have rlb := (rL rT).ex xb rl
    have hki : (kd wd sh)[a]? = some (kdf wd sh a) := getD_at (by rw [hp.klen]; exact hap)
    obtain ⟨hk1, hk2⟩ := hp.kidsL a
    have hmi : m[a]? = some 63 := by rw [hm, List.getElem?_replicate, if_pos hap]
    refine wp_setLcM 8 (own := [("_law_letter", 10)]) (jt := 10) (ρ := rT) (τ := rT) (xs := sg (labs rows)) mb.F.i (fun _ => true) (fun l => l) (gi_list (gv 6 rlb)) (by rw [len_sg]; omega) (fun l1 vl1 B7 hl1 x7 rl1 s0 H0 C cl fp => ⟨ts_one (GT.is (t_or (j := false) (t_cmp op_eq (g_ixS (gv 2 (ρ := rT) r3) (gv 7 (ρ := rI) (x := (a : Int)) r3') hmi (by omega)) (ge_is g_str (y := [63]) (by decide)) rb_eqT) fun z => by cases z) (k' := true) rfl), fun _ => gv 10 rl1⟩) (fun qt wt B7 H7 mt prt => ?_) rfl scCa.nd (by apply blkOk_by; change blkC nmCa (defScope (topS 53)) _ _ = true; decide +kernel) (fun _ _ _ _ _ => pg_name (i := 10) scCa.nd rfl (.inl rfl)) (by rfl)
    rw [filt, List.map_id'] at prt
    obtain ⟨net, m7, xt⟩ := mb.addO mt
    have rt : (rL rT).r (sg (labs rows)) (.ref qt) (upd B7 qt (.lst wt)) := ⟨qt, wt, rfl, upd_same, pmap prt fun x v r => rT.ex (Ex.new mt.b) r⟩
    have pr7 := pmap prb fun x v r => (rL rT).ex (xt.trans m7.up) r
    have rk7 := (rL (rL rN)).ex (xt.trans m7.up) rkb
    have rw7 := (rD (rL rT)).ex (xt.trans m7.up) rwb
    have rt7 := (rL rT).ex m7.up rt
    have rcs : (rL (rL rT)).r cs (.ref l) (upd (upd B7 qt (.lst wt)) l (.lst ws1)) := ⟨l, ws1, rfl, upd_same, pr7⟩
    have hwl : ws1.length = cs.length := (Paired.length prb).symm
    have hk3 : (kdf wd sh a).length ≤ 3 := by
      rcases hk2 with h | h
      · rw [h]; simp
      · rw [h]; rcases hp.w23 with h | h <;> omega
    refine wp_setix (ρ := rL rT) (x := canV (labs rows) rows (kdf wd sh a) ((kdf wd sh a).map fun j => cs.getD j [])) (n := a) m7.fin.i (ge_is (g_lc (ρ := rT) (τ := rT) (own := [("_law_letter", 10)]) (j := 10) (xs := sg (labs rows)) (fun l => (wayL rows (l.headD 0)).any (fitV ((kdf wd sh a).map fun j => cs.getD j [])) || (kdf wd sh a).isEmpty) (fun l => l) rfl scCa.nd (by apply blkOk_by; change blkC nmCa (defScope (topS 53)) _ _ = true; decide +kernel) (fun _ _ _ _ _ => pg_name (i := 10) scCa.nd rfl (.inl rfl)) (gi_list (gv 8 rt7)) (by rw [len_sg]; omega) fun l1 vl1 B8 hl1 x8 rl1 s0 H0 C cl fp => ⟨ts_one ?_, fun _ => gv 10 rl1⟩) (List.map_id' _)) (gvv 5) (gv 7 (ρ := rI) (x := (a : Int)) r3') m7.h (by omega) (fun w8 B8 H8 f8 r8 h8 => ?_)
    · obtain ⟨c, hc, rfl⟩ := List.mem_map.mp hl1
      refine t_val (g_call3 (cal_st g D.st) hr (by decide) (gv 5 ((rL (rL rT)).ex x8 rcs)) (g_ixL (gv 3 ((rL (rL rN)).ex x8 rk7)) (gv 7 (ρ := rI) (x := (a : Int)) r3') hki) (g_dget hu (gv 4 ((rD (rL rT)).ex x8 rw7)) (gv 10 rl1) (wy_look hc)) ⟨by omega, fun t ht => ?_, fun j hj => by have := (hk1 j hj).2; show j < cs.length; omega⟩ (fun _ _ h => h))
      have h1 := wy_len gr t ht
      rcases hp.w23 with h | h <;> rcases hk2 with h2 | h2 <;> (rw [h2]; first | (simp; omega) | omega)
    · have m8 := m7.un f8
      have hne : cs ≠ [] := fun e => by rw [e] at hls; simp at hls; omega
      have r8' := (rL rT).dl (f8.b.lst upd_same) trivial nf_lst (nodLL prb hne) r8
      have hex := (f8.un m7.b).b
      refine wp_nil ⟨del B8 l, xt.trans hex, (m8.put (o' := .lst (ws1.set a w8)) nf_lst).F.i, _, _, cs.set a (canV (labs rows) rows (kdf wd sh a) ((kdf wd sh a).map fun j => cs.getD j [])), ws1.set a w8, rfl, m8.put nf_lst, p_set r8' a (pmap prb fun x v r => (rL rT).ex (xt.trans hex) r), by rw [List.length_set]; exact hls, fun q h1 h2 => ?_⟩
      rw [List.length_append, List.length_singleton] at h1
      exact dp_step (V := fun q vs => canV (labs rows) rows (kdf wd sh q) vs) (fun q => (hp.kidsL q).1) [] hls hap (fun q g1 g2 => hd q (by omega) g2) rfl q (by omega) h2
  · subst e
    rw [List.length_reverse, List.length_range] at hd
    refine wp_ret mj.fin.i (gv 5 (ρ := rL (rL rT)) (x := cs) ⟨l, ws1, rfl, upd_same, pmap prj fun x v r => (rL rT).ex mj.up r⟩) fun v5 B6 H6 f6 r6 => q v5 B6 H6 (mj.fin.trans f6) ⟨cs, ⟨hls, fun q' h => hd q' (by omega) h⟩, r6⟩
end
end KD
end
section
set_option autoImplicit false
set_option linter.all false
/-! M13: words put together, step by step. -/
namespace MF
open MS
def pgt (ps : List (Option Ob)) (j : Nat) : Ob := (ps.getD j none).getD []
def stX (ps : List (Option Ob)) (t : List Nat) (pre : List (Nat × Nat)) : List (Ob × Nat) := pre.map fun x => (pgt ps x.2, t.getD x.1 0)
def stF (ps : List (Option Ob)) (l t : List Nat) (pre : List (Nat × Nat)) : List (List Nat) := (stX ps t pre).foldl wsS [l]
theorem stF_snoc {ps : List (Option Ob)} {l t : List Nat} {pre : List (Nat × Nat)} {a : Nat × Nat} : stF ps l t (pre ++ [a]) = (stF ps l t pre).flatMap fun u => (lk (pgt ps a.2) (t.getD a.1 0)).map fun m => u ++ m := by
  unfold stF stX
  rw [List.map_append, List.foldl_append]
  rfl
theorem stX_all {ps : List (Option Ob)} {t ks : List Nat} (h : t.length = ks.length) : stX ps t ((List.range ks.length).zip ks) = (ks.map (pgt ps)).zip t := by
  unfold stX
  refine List.ext_getElem? fun k => ?_
  rw [List.getElem?_map]
  by_cases hk : k < ks.length
  · have h1 : (List.range ks.length)[k]? = some k := List.getElem?_range hk
    have h2 : ks[k]? = some ks[k] := List.getElem?_eq_getElem hk
    have h3 : t[k]? = some t[k] := List.getElem?_eq_getElem (by omega)
    rw [show ((List.range ks.length).zip ks)[k]? = some (k, ks[k]) from List.getElem?_zip_eq_some.mpr ⟨h1, h2⟩]
    refine (List.getElem?_zip_eq_some.mpr ⟨?_, ?_⟩).symm
    · rw [List.getElem?_map, h2]
      rfl
    · show t[k]? = some (t.getD k 0)
      rw [List.getD_eq_getElem?_getD, h3]
      rfl
  · rw [List.getElem?_eq_none (by rw [List.length_zip, List.length_range]; omega), List.getElem?_eq_none (by rw [List.length_zip, List.length_map]; omega)]
    rfl
theorem stF_all {ps : List (Option Ob)} {l t ks : List Nat} (h : t.length = ks.length) : stF ps l t ((List.range ks.length).zip ks) = wsD [l] (ks.map (pgt ps)) t := by
  unfold stF
  rw [stX_all h, wsD_fold _ (by rw [List.length_map]; exact h)]
theorem wsS_word : ∀ {xs : List (Ob × Nat)} {ns : List Nat} {acc : List (List Nat)} {A : Nat}, xs.length = ns.length → (∀ u ∈ acc, u.length ≤ A) → (∀ (k : Nat) x n, xs[k]? = some x → ns[k]? = some n → ∀ m ∈ lk x.1 x.2, m.length ≤ n) → ∀ u ∈ xs.foldl wsS acc, u.length ≤ A + ns.sum
  | [], [], acc, A, _, h, _, u, hu => h u hu
  | x :: xs, n :: ns, acc, A, hl, h, h2, u, hu => by
    have ih := wsS_word (xs := xs) (ns := ns) (acc := wsS acc x) (A := A + n) (by simpa using hl) (fun u hu => by
      obtain ⟨v, hv, hm⟩ := List.mem_flatMap.mp hu
      obtain ⟨m, hm', rfl⟩ := List.mem_map.mp hm
      have h3 := h v hv
      have h4 := h2 0 x n rfl rfl m hm'
      rw [List.length_append]
      omega) (fun k y m h3 h4 => h2 (k + 1) y m (by simpa using h3) (by simpa using h4)) u hu
    rw [List.sum_cons]
    omega
  | [], _ :: _, _, _, hl, _, _, _, _ => by simp at hl
  | _ :: _, [], _, _, hl, _, _, _, _ => by simp at hl
theorem mem_le_sum : ∀ {xs : List Nat} {x : Nat}, x ∈ xs → x ≤ xs.sum
  | y :: ys, x, h => by
    rw [List.sum_cons]
    rcases List.mem_cons.mp h with rfl | h
    · omega
    · have := mem_le_sum h
      omega
/-- what is asked of the parts -/
structure Pts (ps : List (Option Ob)) (ks : List Nat) (b s : Nat → Nat) : Prop where
  d : ∀ j ∈ ks, ∃ D, ps[j]? = some (some D)
  p : ∀ j ∈ ks, 1 ≤ b j
  n : ∀ j ∈ ks, ∀ c, (lk (pgt ps j) c).length ≤ b j
  l : ∀ j ∈ ks, ∀ c, ∀ x ∈ lk (pgt ps j) c, x.length ≤ s j
theorem prodL_pre {xs ys : List Nat} (h : ∀ y ∈ ys, 1 ≤ y) : prodL xs ≤ prodL (xs ++ ys) := by
  rw [prodL_app]
  have := prodL_pos h
  calc prodL xs = prodL xs * 1 := (Nat.mul_one _).symm
    _ ≤ _ := Nat.mul_le_mul_left _ this
section
variable {ps : List (Option Ob)} {ks t l : List Nat} {b s : Nat → Nat}
theorem zip_snd {α β : Type} : ∀ {xs : List α} {ys : List β}, xs.length = ys.length → (xs.zip ys).map (·.2) = ys
  | [], [], _ => rfl
  | x :: xs, y :: ys, h => by rw [List.zip_cons_cons, List.map_cons, zip_snd (by simpa using h)]
  | [], _ :: _, h => by simp at h
  | _ :: _, [], h => by simp at h
theorem Pts.len (h : Pts ps ks b s) {pre post : List (Nat × Nat)} (e : (List.range ks.length).zip ks = pre ++ post) : (stF ps l t pre).length ≤ prodL (ks.map b) ∧ ∀ u ∈ stF ps l t pre, u.length ≤ l.length + (ks.map s).sum := by
  have e2 : ks = (pre ++ post).map (·.2) := by
    rw [← e, zip_snd (by rw [List.length_range])]
  have hin : ∀ x ∈ pre ++ post, x.2 ∈ ks := fun x hx => by
    rw [← e] at hx
    exact (List.of_mem_zip hx).2
  refine ⟨?_, fun u hu => ?_⟩
  · have h1 : (stF ps l t pre).length ≤ [l].length * prodL (pre.map fun x => b x.2) := wsS_len (by unfold stX; rw [List.length_map, List.length_map]) fun k x m h1 h2 => by
      unfold stX at h1
      rw [List.getElem?_map] at h1 h2
      obtain ⟨y, g1, g2⟩ := Option.map_eq_some_iff.mp h1
      rw [g1] at h2
      cases h2
      rw [← g2]
      exact h.n _ (hin y (List.mem_append_left _ (List.mem_of_getElem? g1))) _
    refine Nat.le_trans h1 ?_
    have e3 : ks.map b = (pre.map fun x => b x.2) ++ post.map fun x => b x.2 := by
      rw [e2, List.map_map, List.map_append]
      rfl
    rw [e3]
    show 1 * _ ≤ _
    rw [Nat.one_mul]
    exact prodL_pre fun y hy => by
      obtain ⟨x, hx, rfl⟩ := List.mem_map.mp hy
      exact h.p _ (hin x (List.mem_append_right _ hx))
  · have := wsS_word (xs := stX ps t pre) (ns := pre.map fun x => s x.2) (acc := [l]) (A := l.length) (by unfold stX; rw [List.length_map, List.length_map]) (fun u hu => by rw [List.mem_singleton.mp hu]; exact Nat.le_refl _) (fun k x n h1 h2 m hm => by
      unfold stX at h1
      rw [List.getElem?_map] at h1 h2
      obtain ⟨y, g1, g2⟩ := Option.map_eq_some_iff.mp h1
      rw [g1] at h2
      cases h2
      rw [← g2] at hm
      exact h.l _ (hin y (List.mem_append_left _ (List.mem_of_getElem? g1))) _ m hm) u hu
    have e3 : ks.map s = (pre.map fun x => s x.2) ++ post.map fun x => s x.2 := by
      conv => lhs; rw [e2]
      rw [List.map_map, List.map_append]
      rfl
    rw [e3, List.sum_append]
    omega
theorem Pts.all (h : Pts ps ks b s) (ht : t.length = ks.length) : (wsD [l] (ks.map (pgt ps)) t).length ≤ prodL (ks.map b) ∧ ∀ u ∈ wsD [l] (ks.map (pgt ps)) t, u.length ≤ l.length + (ks.map s).sum := by
  rw [← stF_all ht]
  exact h.len (l := l) (t := t) (pre := (List.range ks.length).zip ks) (post := []) (List.append_nil _).symm
end
/-! ### place by place -/
def valA (rows : List (List Nat)) (ks : List Nat) (vs : List Ob) (c : Nat) : List (List Nat) := if ks = [] then [[c]] else (wayL rows c).flatMap fun t => wsD [[c]] vs t
theorem allB_val (L : List Nat) (rows : List (List Nat)) (ks : List Nat) (vs : List Ob) : allB L rows ks vs = L.map fun c => (c, valA rows ks vs c) := rfl
def slst (w : Nat) (sh : List Nat) : List Nat := (List.range sh.length).reverse.foldl (fun l q => l.set q (1 + ((kdf w sh q).map fun j => l.getD j 0).sum)) (List.replicate sh.length 0)
theorem Sh.sl {w : Nat} {sh : List Nat} (h : Sh w sh) : ∀ q, q < sh.length → (slst w sh).getD q 0 = 1 + ((kdf w sh q).map fun j => (slst w sh).getD j 0).sum ∧ (slst w sh).getD q 0 ≤ 7 := fun q hq => h.all (fun w sh => ∀ q, q < sh.length → (slst w sh).getD q 0 = 1 + ((kdf w sh q).map fun j => (slst w sh).getD j 0).sum ∧ (slst w sh).getD q 0 ≤ 7) (by decide +kernel) q hq
def Bw (w : Nat) (sh : List Nat) (cs : List Ob) (q : Nat) : Prop := ∀ c, (lk (cs.getD q []) c).length ≤ (blst2 w sh).getD q 1 ∧ ∀ x ∈ lk (cs.getD q []) c, x.length ≤ (slst w sh).getD q 0
def opts (n lo : Nat) (cs : List Ob) : List (Option Ob) := (List.range n).map fun q => if lo ≤ q then some (cs.getD q []) else none
theorem opts_at {n lo : Nat} {cs : List Ob} {j : Nat} (h : j < n) (h2 : lo ≤ j) : (opts n lo cs)[j]? = some (some (cs.getD j [])) := by
  unfold opts
  rw [List.getElem?_map, List.getElem?_range h]
  show some (if lo ≤ j then _ else _) = _
  rw [if_pos h2]
theorem opts_pgt {n lo : Nat} {cs : List Ob} {j : Nat} (h : j < n) (h2 : lo ≤ j) : pgt (opts n lo cs) j = cs.getD j [] := by
  unfold pgt
  rw [List.getD_eq_getElem?_getD (l := opts n lo cs), opts_at h h2]
  rfl
section
variable {w : Nat} {rows : List (List Nat)} {sh : List Nat} {cs : List Ob} {a : Nat}
theorem step_pts (h : Sh w sh) (hb : ∀ j ∈ kdf w sh a, Bw w sh cs j) : Pts (opts sh.length (a + 1) cs) (kdf w sh a) (fun j => (blst2 w sh).getD j 1) (fun j => (slst w sh).getD j 0) := by
  have hk := (h.kidsL a).1
  have hg : ∀ j ∈ kdf w sh a, pgt (opts sh.length (a + 1) cs) j = cs.getD j [] := fun j hj => opts_pgt (hk j hj).2 (hk j hj).1
  exact ⟨fun j hj => ⟨_, opts_at (hk j hj).2 (hk j hj).1⟩, fun j hj => (h.bl2 j (hk j hj).2).2.1, fun j hj c => by rw [hg j hj]; exact (hb j hj c).1, fun j hj c x hx => by rw [hg j hj] at hx; exact (hb j hj c).2 x hx⟩
theorem step_map (h : Sh w sh) : (kdf w sh a).map (pgt (opts sh.length (a + 1) cs)) = (kdf w sh a).map fun j => cs.getD j [] := by
  have hk := (h.kidsL a).1
  exact List.map_congr_left fun j hj => opts_pgt (hk j hj).2 (hk j hj).1
theorem step_sum (h : Sh w sh) (ha : a < sh.length) : ((kdf w sh a).map fun j => (slst w sh).getD j 0).sum ≤ 6 := by
  obtain ⟨h1, h2⟩ := h.sl a ha
  omega
theorem step_n (g : Gr w rows) (h : Sh w sh) (ha : a < sh.length) (hne : kdf w sh a ≠ []) (c : Nat) : (wayL rows c).length * prodL ((kdf w sh a).map fun j => (blst2 w sh).getD j 1) ≤ 10648 := by
  obtain ⟨h1, _, h3⟩ := h.bl2 a ha
  rw [if_neg hne] at h1
  exact Nat.le_trans (Nat.mul_le_mul_right _ (wayL_max g c)) (by omega)
theorem step_val (g : Gr w rows) (h : Sh w sh) (ha : a < sh.length) (hb : ∀ j ∈ kdf w sh a, Bw w sh cs j) (c : Nat) : (valA rows (kdf w sh a) ((kdf w sh a).map fun j => cs.getD j []) c).length ≤ (blst2 w sh).getD a 1 ∧ ∀ x ∈ valA rows (kdf w sh a) ((kdf w sh a).map fun j => cs.getD j []) c, x.length ≤ (slst w sh).getD a 0 := by
  obtain ⟨h1, h2, h3⟩ := h.bl2 a ha
  obtain ⟨s1, s2⟩ := h.sl a ha
  unfold valA
  by_cases hne : kdf w sh a = []
  · rw [if_pos hne]
    refine ⟨h2, fun x hx => ?_⟩
    rw [List.mem_singleton.mp hx, s1]
    show 1 ≤ _
    omega
  · rw [if_neg hne]
    rw [if_neg hne] at h1
    have P := step_pts (cs := cs) h hb
    have hk := (h.kidsL a).2.resolve_left hne
    have hall : ∀ t ∈ wayL rows c, _ := fun t ht => P.all (l := [c]) (t := t) (by rw [g.aw_len (mem_wayL.mp ht), hk])
    rw [step_map h] at hall
    constructor
    · rw [h1]
      exact Nat.le_trans (flatMap_le fun t ht => (hall t ht).1) (Nat.mul_le_mul_right _ (wayL_max g c))
    · intro x hx
      obtain ⟨t, ht, hx⟩ := List.mem_flatMap.mp hx
      rw [s1]
      exact (hall t ht).2 x hx
theorem step_bw (g : Gr w rows) (h : Sh w sh) (ha : a < sh.length) (hb : ∀ j ∈ kdf w sh a, Bw w sh cs j) {cs' : List Ob} (e : cs'.getD a [] = allB (labs rows) rows (kdf w sh a) ((kdf w sh a).map fun j => cs.getD j [])) : Bw w sh cs' a := by
  intro c
  have hL : (labs rows).Nodup := asc_nd stoN (asc_usort stoN _)
  rw [e, allB_lk hL]
  by_cases hc : c ∈ labs rows
  · rw [if_pos hc]
    exact step_val g h ha hb c
  · rw [if_neg hc]
    exact ⟨Nat.zero_le _, fun x hx => nomatch hx⟩
end
end MF
end
section
set_option Elab.async false
set_option linter.all false
set_option maxRecDepth 100000
set_option maxHeartbeats 4000000
/-! LE8: all right words below a label. -/
namespace KD
open PySem PySem.Spec PyProof.Rows L2 KS MS KB
open SX (S)
open MF (abc Gr labs Sh kd kdf Ob wys wayL lk pgt stF stF_snoc stF_all Pts wsD prodL)
abbrev nmAb : List Str := ["_law_parts", "_law_kids_here", "_law_letter", "_law_ways_here", "_law_found", "_law_way", "_law_words", "_law_j", "_law_kid", "_law_late", "_law_word", "_law_more"]
theorem scAb : FnScope nmAb ["_law_parts", "_law_kids_here", "_law_letter", "_law_ways_here"] (defScope (topS 55)) := ⟨rfl, rfl, rfl, by decide +kernel, rfl, by decide +kernel, by decide +kernel⟩
section
variable {P : Program} {w : World} {K : PySem.W.Frag} {mg : Str → Option Value} {base : Heap}
abbrev DAb (K : PySem.W.Frag) (mg : Str → Option Value) : Prop := Dfn K mg "_law_all_below" (topS 55) ["_law_parts", "_law_kids_here", "_law_letter", "_law_ways_here"]
theorem cal_ab (g : GC K mg) (D : DAb K mg) : C8.Cal P w K mg base 1 "_law_all_below" (sp4 (rL (rAny (rD (rL rT)))) (rL rN) rT (rL rT) (fun ps ks l ways => ks.length ≤ 3 ∧ l.length ≤ 1 ∧ (∀ t ∈ ways, t.length = ks.length) ∧ ∃ b s, Pts ps ks b s ∧ ways.length * prodL (ks.map b) ≤ 90000 ∧ (ks.map s).sum ≤ 100) fun ps ks l ways => (rL rT).r (ways.flatMap fun t => wsD [l] (ks.map (pgt ps)) t)) [] := by
  refine D.cal scAb (fun vs H Q E ⟨x, y, z, w', v, u, t, s, B, e, _⟩ => by rw [e]; rfl) fun f cdv A outer s H vs Q E hr ⟨ps, ks, l, ways, v, u, t, z, B, e, i, r, r2, r3, r4, ⟨hk3, hl1, hwl, b, sz, hp, hb, hs⟩, q⟩ => ?_
  subst e
  have hu := hu_of hr
  have hP1 : 1 ≤ prodL (ks.map b) := MF.prodL_pos fun y hy => by
    obtain ⟨j, hj, rfl⟩ := List.mem_map.mp hy
    exact hp.p j hj
  have hways : ways.length ≤ 90000 := Nat.le_trans (Nat.le_mul_of_pos_right _ hP1) hb
  refine wp_set 4 i (P := (rL rT).r []) g_nil (fun v4 B1 H1 f1 rv4 => ?_) scAb.nd
  refine wp_for (ρ := rT) (xs := ways) (fun pre σ' Bj Hj => ∃ (a b c d e f : Option V) (vf : V), σ' = [some v, some u, some t, some z, some vf, a, b, c, d, e, f, none] ∧ KB.Fr B H Bj Hj ∧ (rL rT).r (pre.flatMap fun t => wsD [l] (ks.map (pgt ps)) t) vf Bj) f1.i (gi_list (gv 3 ((rL rT).ex f1.b r4))) (pg_name (i := 5) scAb.nd rfl (.inl rfl)) (fun B2 H2 f2 => ⟨none, none, none, none, none, none, v4, rfl, f1.trans f2, (rL rT).ex f2.b rv4⟩) (fun pre a post v' σ' Bj H2 Bb H3 hx x2 x3 ⟨a1, a2, a3, a4, a5, a6, vf, e, F, rf⟩ f3 r3' => ?_) (fun σ' B2 H2 x1 x2 ⟨a1, a2, a3, a4, a5, a6, vf, e, F, rf⟩ => ?_) rfl (hgm := gm_name)
  · subst e
    have ha : a ∈ ways := by rw [hx]; exact List.mem_append_right _ (List.mem_cons_self ..)
    have hal := hwl a ha
    have F := F.trans f3
    have rf := (rL rT).ex f3.b rf
    have hpre : (pre.length + 1) * prodL (ks.map b) ≤ 90000 := by
      refine Nat.le_trans (Nat.mul_le_mul_right _ ?_) hb
      rw [hx, List.length_append, List.length_cons]
      omega
    refine wp_set 6 F.i (g_lst1 (gv 2 (ρ := rT) r3)) (fun v6 B4 H4 f4 r6 => ?_) scAb.nd
    have G := F.trans f4
    refine wp_for (ρ := rP rN rN) (xs := (List.range ks.length).zip ks) (fun pre2 σ' Bj Hj => ∃ (b c d e : Option V) (vw : V), σ' = [some v, some u, some t, some z, some vf, some v', some vw, b, c, d, e, none] ∧ KB.Fr B H Bj Hj ∧ (rL rT).r (stF ps l a pre2) vw Bj) G.i (gi_enumL g.bi.enumerate (gv 1 ((rL rN).ex G.b r2))) (pg_tup rfl (pgs_cons (pg_name (i := 7) scAb.nd rfl (.inl rfl)) (pgs_cons (pg_name (i := 8) scAb.nd rfl (.inl rfl)) pgs_nil))) (fun B5 H5 f5 => ⟨_, _, _, _, v6, rfl, G.trans f5, (rL rT).ex f5.b r6⟩) (fun pre2 a2 post2 v2 σ2 Bj2 H5 Bb2 H6 hx2 x4 x5 ⟨b1, b2, b3, b4, vw, e, G2, rw2⟩ f6 rp => ?_) (fun σ2 B5 H5 y1 y2 ⟨b1, b2, b3, b4, vw, e, G2, rw2⟩ => ?_) rfl (hgm := gm_pair)
    · subst e
      refine g_pr f6.i rp fun vx vy rx ry => ?_
      have G2 := G2.trans f6
      have rw2 := (rL rT).ex f6.b rw2
      have hmem : a2 ∈ (List.range ks.length).zip ks := by rw [hx2]; exact List.mem_append_right _ (List.mem_cons_self ..)
      have hj := List.mem_range.mp (List.of_mem_zip hmem).1
      have hk := (List.of_mem_zip hmem).2
      obtain ⟨Dd, hD⟩ := hp.d a2.2 hk
      have hDd : pgt ps a2.2 = Dd := by
        unfold pgt
        rw [List.getD_eq_getElem?_getD, hD]
        rfl
      obtain ⟨n1, n2⟩ := hp.len (l := l) (t := a) hx2
      obtain ⟨m1, _⟩ := hp.len (l := l) (t := a) (pre := pre2 ++ [a2]) (post := post2) (by rw [hx2]; simp)
      have n3 := hp.n a2.2 hk (a.getD a2.1 0)
      have n4 := hp.l a2.2 hk (a.getD a2.1 0)
      have n5 : sz a2.2 ≤ _ := MF.mem_le_sum (List.mem_map.mpr ⟨a2.2, hk, rfl⟩)
      have hpl2 : pre2.length ≤ 3 := by
        have := congrArg List.length hx2
        rw [List.length_zip, List.length_range, List.length_append, List.length_cons] at this
        omega
      rw [hDd] at n3 n4
      have hP9 : prodL (ks.map b) ≤ 90000 := Nat.le_trans (Nat.le_mul_of_pos_left _ (by omega)) hpre
      rw [stF_snoc, hDd] at m1
      refine wp_setN 9 (fun d hd => ?_) scAb.nd
      have m : One B H d (.lst []) Bb2 _ := One.new G2 hd nf_lst
      refine wp_for (ρ := rT) (xs := stF ps l a pre2) (fun pre3 σ' Bj Hj => ∃ (a' : Option V), σ' = [some v, some u, some t, some z, some vf, some v', some vw, some vx, some vy, some (.ref d), a', none] ∧ One B H d (.lst ((pre3.flatMap fun u => (lk Dd (a.getD a2.1 0)).map fun m => u ++ m).map tx)) Bj Hj) m.F.i (gi_list (g_listL g.bi.list (gv 6 rw2))) (pg_name (i := 10) scAb.nd rfl (.inr rfl)) (fun B7 H7 f7 => ⟨_, rfl, m.step f7⟩) (fun pre3 o post3 v3 σ3 Bj3 H7 Bb3 H8 hx3 x6 x7 ⟨c1, e, m2⟩ f8 r8 => ?_) (fun σ3 B7 H7 z1 z2 ⟨c1, e, m2⟩ => ?_) rfl (hgm := gm_name)
      · subst e
        have ho : o ∈ stF ps l a pre2 := by rw [hx3]; exact List.mem_append_right _ (List.mem_cons_self ..)
        have hol := n2 o ho
        have m2 := m2.step f8
        have hcnt : (pre3.flatMap fun u => (lk Dd (a.getD a2.1 0)).map fun m => u ++ m).length + ((lk Dd (a.getD a2.1 0)).map fun m => o ++ m).length ≤ prodL (ks.map b) := by
          refine Nat.le_trans ?_ m1
          rw [hx3, List.flatMap_append, List.length_append, List.flatMap_cons, List.length_append]
          omega
        have hc2 : ((lk Dd (a.getD a2.1 0)).map fun m => o ++ m).length = (lk Dd (a.getD a2.1 0)).length := List.length_map _
        have xP : Ex B Bb3 := m2.F.b
        have xQ : Ex Bb2 Bb3 := x6.trans f8.b
        refine wp_ext (ρ := rT) (ys := (lk Dd (a.getD a2.1 0)).map fun m => o ++ m) m2.F.i (gvv 9) (ge_is (g_lc (ρ := rT) (τ := rT) (own := [("_law_more", 11)]) (j := 11) (xs := lk Dd (a.getD a2.1 0)) (fun _ => true) (fun m => o ++ m) rfl scAb.nd (by apply blkOk_by; change blkC nmAb (defScope (topS 55)) _ _ = true; decide +kernel) (fun _ _ _ _ _ => pg_name (i := 11) scAb.nd rfl (.inl rfl)) (gi_list (ge_is (g_dget2 (ρ := rL rT) (x := []) (xs := Dd) (k := a.getD a2.1 0) hu (ge_any (g_ixL (gv 0 ((rL (rAny (rD (rL rT)))).ex xP r)) (gv 8 (ρ := rI) (x := (a2.2 : Int)) ry) hD)) (g_ixS (gv 5 (ρ := rT) r3') (gv 7 (ρ := rI) (x := (a2.1 : Int)) rx) (getD_at (by omega)) (by omega)) g_nil) rfl)) (by omega) fun m vm B9 hm x9 rm s0 H0 C cl fp => ⟨ts_nil, fun _ => g_cat (gv 10 (ρ := rT) r8) (gv 11 (ρ := rT) rm) (by have := n4 m hm; omega)⟩) (by rw [filt])) m2.h (by rw [List.length_map]; omega) (fun ws9 B9 H9 f9 pr9 h9 => ?_)
        have ew := rT_list pr9
        subst ew
        have m9 := (m2.step f9).put (o' := .lst ((pre3.flatMap fun u => (lk Dd (a.getD a2.1 0)).map fun m => u ++ m).map tx ++ ((lk Dd (a.getD a2.1 0)).map fun m => o ++ m).map tx)) nf_lst
        refine wp_nil ⟨B9, f9.b, m9.F.i, _, rfl, ?_⟩
        have e : ((pre3 ++ [o]).flatMap fun u => (lk Dd (a.getD a2.1 0)).map fun m => u ++ m).map tx = (pre3.flatMap fun u => (lk Dd (a.getD a2.1 0)).map fun m => u ++ m).map tx ++ ((lk Dd (a.getD a2.1 0)).map fun m => o ++ m).map tx := by
          rw [List.flatMap_append, List.map_append]
          simp
        rw [e]
        exact m9
      · subst e
        refine wp_set 6 m2.fin.i (gv 9 (ρ := rL rT) (x := stF ps l a (pre2 ++ [a2])) (lT.mpr ⟨d, rfl, by rw [stF_snoc, hDd]; exact upd_same⟩)) (fun v9 B9 H9 f9 r9 => ?_) scAb.nd
        exact wp_nil ⟨B9, (z1.trans m2.up).trans f9.b, f9.i, _, _, _, _, v9, rfl, m2.fin.trans f9, r9⟩
    · subst e
      rw [stF_all hal] at rw2
      obtain ⟨q1, _⟩ := hp.all (l := l) hal
      have hcnt : (pre.flatMap fun t => wsD [l] (ks.map (pgt ps)) t).length ≤ pre.length * prodL (ks.map b) := MF.flatMap_le fun t ht => (hp.all (hwl t (by rw [hx]; exact List.mem_append_left _ ht))).1
      have hmul : (pre.length + 1) * prodL (ks.map b) = pre.length * prodL (ks.map b) + prodL (ks.map b) := Nat.succ_mul ..
      have xf := f4.b.trans y1
      refine wp_set 4 G2.i (g_catL (gv 4 ((rL rT).ex xf rf)) (gv 6 rw2) (by omega)) (fun v9 B9 H9 f9 r9 => ?_) scAb.nd
      refine wp_nil ⟨B9, xf.trans f9.b, f9.i, _, _, _, _, _, _, v9, rfl, G2.trans f9, ?_⟩
      rw [List.flatMap_append]
      simpa using r9
  · subst e
    exact wp_ret F.i (gv 4 rf) fun v5 B5 H5 f5 r5 => q v5 B5 H5 (F.trans f5) r5
end
end KD
end
section
set_option Elab.async false
set_option linter.all false
set_option maxRecDepth 100000
set_option maxHeartbeats 4000000
/-! LE9: all right words of a shape. -/
namespace KD
open PySem PySem.Spec PyProof.Rows L2 KS MS KB
open SX (S)
open MF (abc Gr labs Sh kd kdf Ob wys wayL wys_keys lk pgt Pts wsD prodL IsAll allB valA opts opts_at Bw blst2 slst step_pts step_map step_sum step_n step_bw dp_step)
abbrev nmAl : List Str := ["_law_grid_here", "_law_tree_here", "_law_signs", "_law_kids_here", "_law_ways_here", "_law_found", "_law_k", "_law_holder", "_law_letter", "_law_rows", "_law_sign"]
theorem scAl : FnScope nmAl ["_law_grid_here", "_law_tree_here", "_law_signs"] (defScope (topS 54)) := ⟨rfl, rfl, rfl, by decide +kernel, rfl, by decide +kernel, by decide +kernel⟩
theorem nf_nil : NF (.dK []) := nf_dK fun p hp => nomatch hp
/-- the dicts ahead of a are empty and not told of -/
def Oth (ps : List Addr) (a : Nat) (B H : Hp) : Prop := ∀ q b, q < a → ps[q]? = some b → B b = none ∧ H b = some (.dK [])
theorem Oth.fr {ps : List Addr} {a : Nat} {B H B2 H2 : Hp} (h : Oth ps a B H) (f : KB.Fr B H B2 H2) : Oth ps a B2 H2 := fun q b hq hb => ⟨f.out (h q b hq hb).1 (h q b hq hb).2, f.h.keep (h q b hq hb).2 nf_nil⟩
theorem Oth.le {ps : List Addr} {a c : Nat} {B H : Hp} (h : Oth ps a B H) (hc : c ≤ a) : Oth ps c B H := fun q b hq hb => h q b (by omega) hb
theorem Oth.put {ps : List Addr} {a : Nat} {B H : Hp} {d : Addr} {o : HO} (h : Oth ps a B H) (hn : ps.Nodup) (hd : ps[a]? = some d) : Oth ps a B (upd H d o) := fun q b hq hb => ⟨(h q b hq hb).1, by
  have ne : b ≠ d := fun e => by
    subst e
    have hlt := (List.getElem?_eq_some_iff.mp hb).1
    have := (List.getElem?_inj hlt hn).mp (hb.trans hd.symm)
    omega
  rw [upd_ne ne]
  exact (h q b hq hb).2⟩
theorem Oth.add {ps : List Addr} {a : Nat} {B H : Hp} {d : Addr} {o : HO} (h : Oth ps a B H) (hn : ps.Nodup) (hd : ps[a]? = some d) : Oth ps a (upd B d o) H := fun q b hq hb => ⟨by
  have ne : b ≠ d := fun e => by
    subst e
    have hlt := (List.getElem?_eq_some_iff.mp hb).1
    have := (List.getElem?_inj hlt hn).mp (hb.trans hd.symm)
    omega
  rw [upd_ne ne]
  exact (h q b hq hb).1, (h q b hq hb).2⟩
/-- the list of the dicts, by what is known -/
theorem mk_any {α : Type} {ρ : R α} {B : Hp} {p : Addr} {ps : List Addr} {os : List (Option α)} (h : (rL rV).r (ps.map V.ref) (.ref p) B) (hl : os.length = ps.length) (ho : ∀ (q : Nat) x a, os[q]? = some (some x) → ps[q]? = some a → ρ.r x (.ref a) B) : (rL (rAny ρ)).r os (.ref p) B := by
  obtain ⟨a, vs, e, h1, pr⟩ := h
  refine ⟨a, vs, e, h1, p_mk (by rw [hl, ← Paired.length pr, List.length_map]) fun i x v hx hv => ?_⟩
  have hi : i < ps.length := by rw [← hl]; exact (List.getElem?_eq_some_iff.mp hx).1
  have hpi : ps[i]? = some ps[i] := List.getElem?_eq_getElem hi
  obtain ⟨u, hu, ru⟩ := p_get (x := V.ref ps[i]) pr (by rw [List.getElem?_map, hpi]; rfl)
  rw [hv] at hu
  cases hu
  have ru : v = .ref ps[i] := ru
  refine ⟨⟨_, ru⟩, ?_⟩
  cases x with
  | none => trivial
  | some x =>
    rw [ru]
    exact ho i x _ hx hpi
theorem metW {w : Nat} {rows : List (List Nat)} {sh : List Nat} {cs : List Ob} (g : Gr w rows) (h : Sh w sh) (hc : IsAll w rows sh cs) : (metK (((cs.getD 0 []).flatMap (·.2)).map S)).length + 1 < scanBound := by
  obtain ⟨ks, hks⟩ : ∃ ks : List Str, ks = metK (((cs.getD 0 []).flatMap (·.2)).map S) := ⟨_, rfl⟩
  have hmem : ∀ s ∈ ks, ∃ l ∈ (cs.getD 0 []).flatMap (·.2), S l = s := fun s hs => by
    rw [hks] at hs
    exact List.mem_map.mp (mem_metK.mp hs)
  have hnd : ks.Nodup := by rw [hks]; exact nd_metK _
  have hn : (ks.map fun s => s.cps.toList).Nodup := by
    refine List.pairwise_map.mpr (List.Pairwise.imp_of_mem (R := fun a b => a ≠ b) (fun {x y} hx hy hne e => hne ?_) hnd)
    obtain ⟨l, _, rfl⟩ := hmem x hx
    obtain ⟨m, _, rfl⟩ := hmem y hy
    have e : l = m := e
    rw [e]
  rw [← hks]
  have := MF.all_few g h hc hn fun y hy => by
    obtain ⟨s, hs, rfl⟩ := List.mem_map.mp hy
    obtain ⟨l, hl, rfl⟩ := hmem s hs
    exact hl
  rw [List.length_map] at this
  have e : scanBound = 4096 := rfl
  omega
section
variable {P : Program} {w : World} {K : PySem.W.Frag} {mg : Str → Option Value} {base : Heap}
abbrev DAl (K : PySem.W.Frag) (mg : Str → Option Value) : Prop := Dfn K mg "_law_all" (topS 54) ["_law_grid_here", "_law_tree_here", "_law_signs"]
theorem cal_al (g : GC K mg) (D : LD2 K mg) (D1 : DAb K mg) (D2 : DAl K mg) : C8.Cal P w K mg base 3 "_law_all" (sp3 rG rT rT (fun gr sh m => Gr gr.1 gr.2 ∧ Sh gr.1 sh ∧ m = List.replicate sh.length 63) fun gr sh m => (rW (rL rT) fun ev => ∃ cs, IsAll gr.1 gr.2 sh cs ∧ ev = usort ltL ((cs.getD 0 []).flatMap (·.2))).r ()) [] := by
  refine D2.cal scAl (fun vs H Q E ⟨x, y, z, v, u, t, B, e, _⟩ => by rw [e]; rfl) fun f cdv A outer s H vs Q E hr ⟨⟨wd, rows⟩, sh, m, v, u, t, B, e, i, r, r2, r3, ⟨gr, hp, hm⟩, q⟩ => ?_
  subst e
  have gr : Gr wd rows := gr
  have hm : m = List.replicate sh.length 63 := hm
  have hp : Sh wd sh := hp
  have hu := hu_of hr
  have hlen := hp.len
  have hpos := hp.pos
  have hfew : (labs rows).length ≤ 3 := gr.few
  have hml : m.length = sh.length := by rw [hm, List.length_replicate]
  have hnL : (labs rows).Nodup := asc_nd stoN (asc_usort stoN _)
  refine wp_set 3 i (g_call2 (cal_ki g D.ki) hr (by decide) (g_fst (gv 0 r) g_int) (gv 1 r2) hp) (fun vk B1 H1 f1 rk => ?_) scAl.nd
  refine wp_set 4 f1.i (g_call1 (ρ := rG) (x := (wd, rows)) (cal_wy g D.a.let' D.or' D.wy) hr (by decide) (gv 0 (rG.ex f1.b r)) gr) (fun vw B2 H2 f2 rw2 => ?_) scAl.nd
  have F := f1.trans f2
  have rk : (rL (rL rN)).r (kd wd sh) vk B1 := rk
  have rk := (rL (rL rN)).ex f2.b rk
  have rw2 : (rD (rL rT)).r (wys (labs rows) rows) vw B2 := rw2
  refine wp_setLc 5 (own := [("_law_sign", 10)]) (A := fun v2 H3 => ∃ (p : Addr) (ps : List Addr) (B3 : Hp), v2 = .ref p ∧ KB.Fr B2 H2 B3 H3 ∧ H2 p = none ∧ B3 p = none ∧ H3 p = some (.lst (ps.map V.ref)) ∧ ps.length = (sg sh).length ∧ ps.Nodup ∧ ∀ a ∈ ps, a ≠ p ∧ H2 a = none ∧ B3 a = none ∧ H3 a = some (.dK [])) (fun Q' q' => tlc_fresh (o0 := .dK []) nf_nil (gi_str (gv 1 r2)) (by rw [len_sg]; omega) gm_name (fun a va B1 H1 ha x1 x2 ra => ⟨rfl, rfl⟩) (fun s0 H0 C cl fp σ2 H1 Q2 q2 => g_newD H1 Q2 q2) B2 H2 F.b F.i Q' fun p ps B2 H2 f2 h1 h2 h3 h4 h5 h6 => q' _ _ ⟨p, ps, B2, rfl, f2, h1, h2, h3, h4, h5, h6⟩) (fun v2 H3 hA => ?_) rfl scAl.nd (by apply blkOk_by; change blkC nmAl (defScope (topS 54)) _ _ = true; decide +kernel) (fun _ _ _ _ _ => pg_name (i := 10) scAl.nd rfl (.inl rfl)) (by rfl)
  obtain ⟨p, ps, B3, rfl, F3, hp0, bp, hp2, hlp, hnd, hps⟩ := hA
  rw [len_sg] at hlp
  have Fa := F.trans (F3.add hp0 bp hp2)
  have xa : Ex B2 (upd B3 p (.lst (ps.map V.ref))) := (F3.add hp0 bp hp2).b
  have hpsH : ∀ a ∈ ps, H a = none := fun a ha => F.h.fresh (hps a ha).2.1
  have rk := (rL (rL rN)).ex xa rk
  have rw3 := (rD (rL rT)).ex xa rw2
  refine wp_for (ρ := rN) (xs := (List.range sh.length).reverse) (fun pre σ' Bj Hj => ∃ (a b c : Option V) (cs : List Ob), σ' = [some v, some u, some t, some vk, some vw, some (.ref p), a, b, c, none, none] ∧ KB.Fr B H Bj Hj ∧ (rL rV).r (ps.map V.ref) (.ref p) Bj ∧ cs.length = sh.length ∧ (∀ q, sh.length - pre.length ≤ q → q < sh.length → cs.getD q [] = allB (labs rows) rows (kdf wd sh q) ((kdf wd sh q).map fun j => cs.getD j [])) ∧ (∀ q, sh.length - pre.length ≤ q → q < sh.length → Bw wd sh cs q ∧ ∀ a, ps[q]? = some a → (rD (rL rT)).r (cs.getD q []) (.ref a) Bj) ∧ Oth ps (sh.length - pre.length) Bj Hj) Fa.i (gi_down g.bi.range (g_sub (GE.n (g_lenS g.bi.len (gv 1 (ρ := rT) r2) (by omega))) g_int) (g_neg g_int) (g_neg g_int) (by omega)) (pg_name (i := 6) scAl.nd rfl (.inl rfl)) (fun B5 H5 f5 => ⟨none, none, none, List.replicate sh.length [], rfl, Fa.trans f5, (rL rV).ex f5.b ⟨p, ps.map V.ref, rfl, upd_same, p_mk rfl fun i x v h1 h2 => by rw [h1] at h2; cases h2; rfl⟩, List.length_replicate, fun q h1 h2 => ?_, fun q h1 h2 => ?_, Oth.fr (fun q b hq hb => ?_) f5⟩) (fun pre a post v' σ' Bj H5 Bb H6 hx x2 x3 ⟨a1, b1, c1, cs, e, F, rps, hls, hd, hbw, ho⟩ f3 r3' => ?_) (fun σ' B5 H5 x1 x2 ⟨a1, b1, c1, cs, e, F, rps, hls, hd, hbw, ho⟩ => ?_) rfl (hgm := gm_name)
  · rw [List.length_nil] at h1
    omega
  · rw [List.length_nil] at h1
    omega
  · obtain ⟨z1, z2, z3, z4⟩ := hps b (List.mem_of_getElem? hb)
    exact ⟨by rw [upd_ne z1]; exact z3, z4⟩
  · subst e
    obtain ⟨ea, hpl⟩ := down_at hx
    have hap : a < sh.length := by omega
    have hap1 : sh.length - pre.length = a + 1 := by omega
    rw [hap1] at hd hbw ho
    obtain ⟨hk1, hk2⟩ := hp.kidsL a
    have hki : (kd wd sh)[a]? = some (kdf wd sh a) := getD_at (by rw [hp.klen]; exact hap)
    have hmi : m[a]? = some 63 := by rw [hm, List.getElem?_replicate, if_pos hap]
    obtain ⟨da, hda⟩ : ∃ da, ps[a]? = some da := ⟨ps[a]'(by omega), List.getElem?_eq_getElem _⟩
    have hbk : ∀ j ∈ kdf wd sh a, Bw wd sh cs j := fun j hj => (hbw j (by have := (hk1 j hj).1; omega) (hk1 j hj).2).1
    have hk3 : (kdf wd sh a).length ≤ 3 := by
      rcases hk2 with h | h
      · rw [h]; simp
      · rw [h]; rcases hp.w23 with h | h <;> omega
    have F := F.trans f3
    refine wp_set 7 F.i (g_ixL (ρ := rV) (gv 5 ((rL rV).ex f3.b rps)) (gv 6 (ρ := rI) (x := (a : Int)) r3') (x := V.ref da) (by rw [List.getElem?_map, hda]; rfl)) (fun vd B7 H7 f7 rd => ?_) scAl.nd
    have rd : vd = V.ref da := rd
    subst rd
    have F := F.trans f7
    have f37 := f3.trans f7
    have o7 := ho.fr f37
    obtain ⟨od1, od2⟩ := o7 a da (by omega) hda
    have m7 : One B H da (.dK []) B7 H7 := ⟨F, od1, od2, hpsH da (List.mem_of_getElem? hda), nf_nil⟩
    have x7 := x2.trans f37.b
    have rk7 := (rL (rL rN)).ex x7 rk
    have rw7 := (rD (rL rT)).ex x7 rw3
    have rfd : (rL (rAny (rD (rL rT)))).r (opts sh.length (a + 1) cs) (.ref p) B7 := (rL (rAny (rD (rL rT)))).ex f37.b (mk_any rps (by unfold opts; rw [List.length_map, List.length_range, hlp]) fun q x b hq hb => by
      unfold opts at hq
      rw [List.getElem?_map] at hq
      obtain ⟨q', g1, g2⟩ := Option.map_eq_some_iff.mp hq
      have hqn : q < sh.length := by
        have := (List.getElem?_eq_some_iff.mp g1).1
        rw [List.length_range] at this
        exact this
      rw [List.getElem?_range hqn] at g1
      cases g1
      by_cases hlo : a + 1 ≤ q
      · rw [if_pos hlo] at g2
        cases g2
        exact (hbw q hlo hqn).2 b hb
      · rw [if_neg hlo] at g2
        cases g2)
    have rp7 := (rL rV).ex f37.b rps
    refine wp_lock m7.F.i rw7 fun do' kvo oo L U DD lc ev hrd pro hDD => ?_
    subst ev
    have nek : ∀ b, B7 b = none → b ≠ do' := fun b hb e => by
      subst e
      rcases hrd with h | ⟨_, h⟩ <;> · rw [hb] at h; cases h
    have ned : da ≠ do' := nek da od1
    obtain ⟨mL, back⟩ := lc.one m7 ned m7.F.h
    have hat : L B7 do' = some (.frz oo (.dK kvo)) := lc.at' hrd m7.F.i
    have prL : Paired (fun x p => p.1 = kL x.1 ∧ (rL rT).r x.2 p.2 (L B7)) (wys (labs rows) rows) kvo := pmap pro fun x p r => ⟨r.1, lc.lr (rL rT) r.2⟩
    have rwL := lc.lr (rD (rL rT)) rw7
    have rkL := lc.lr (rL (rL rN)) rk7
    have rfL := lc.lr (rL (rAny (rD (rL rT)))) rfd
    have oL : Oth ps a (L B7) (L H7) := fun q b hq hb => by
      obtain ⟨g1, g2⟩ := o7 q b (by omega) hb
      exact ⟨lc.ln.mpr g1, by rw [lc.lo (nek b g1)]; exact g2⟩
    have neO : ∀ q b, q < a → ps[q]? = some b → b ≠ do' := fun q b hq hb => nek b (o7 q b (by omega) hb).1
    have eks : (wys (labs rows) rows).map (fun p => [p.1]) = sg (labs rows) := by
      unfold wys sg
      rw [List.map_map]
      rfl
    refine ws_for (ρ := rT) (xs := (wys (labs rows) rows).map fun p => [p.1]) (fun pre3 σ' Bj Hj => ∃ (c : Option V) (kvs : List (Key × V)), σ' = [some v, some u, some t, some vk, some (.ref do'), some (.ref p), some v', some (.ref da), c, none, none] ∧ One (L B) (L H) da (.dK kvs) Bj Hj ∧ Paired (fun x p => p.1 = kL x.1 ∧ (rL rT).r x.2 p.2 Bj) (((labs rows).take pre3.length).map fun c => (c, valA rows (kdf wd sh a) ((kdf wd sh a).map fun j => cs.getD j []) c)) kvs ∧ Oth ps a Bj Hj) mL.F.i (gi_keysF (ok := fun v x => (rL rT).r x.2 v (L B7)) (gvv 4) hat prL) (pg_name (i := 8) scAl.nd rfl (.inl rfl)) (fun B9 H9 f9 => ⟨_, [], rfl, mL.step f9, .nil, oL.fr f9⟩) (fun pre3 a3 post3 v3 σ3 Bj3 H8 Bb3 H9 hx3 x8 x9 ⟨c3, kvs, e, mj, prj, oj⟩ f9 r9 => ?_) (fun σ3 B9 H9 y1 y2 ⟨c3, kvs, e, mj, prj, oj⟩ => ?_) rfl (hgm := gm_name)
    · subst e
      rw [eks] at hx3
      have hlen3 := congrArg List.length hx3
      rw [len_sg, List.length_append, List.length_cons] at hlen3
      have hpl3 : pre3.length < (labs rows).length := by omega
      obtain ⟨c, hc0⟩ : ∃ c, (labs rows)[pre3.length]? = some c := ⟨_, List.getElem?_eq_getElem hpl3⟩
      have ea3 : a3 = [c] := by
        have h1 : (sg (labs rows))[pre3.length]? = some a3 := by rw [hx3, List.getElem?_append_right (Nat.le_refl _), Nat.sub_self]; rfl
        unfold sg at h1
        rw [List.getElem?_map, hc0] at h1
        exact (Option.some.inj h1).symm
      subst ea3
      have hcL : c ∈ labs rows := List.mem_of_getElem? hc0
      have etk : (labs rows).take (pre3.length + 1) = (labs rows).take pre3.length ++ [c] := by rw [List.take_add_one, hc0]; rfl
      have el : (pre3 ++ [[c]]).length = pre3.length + 1 := by rw [List.length_append]; rfl
      have hcn : c ∉ (labs rows).take pre3.length := fun z => by
        obtain ⟨j, hj, e5⟩ := List.getElem_of_mem z
        rw [List.length_take] at hj
        have h7 : (labs rows)[j]? = some c := by
          have h8 : ((labs rows).take pre3.length)[j]? = some c := by
            rw [List.getElem?_eq_getElem (by rw [List.length_take]; omega)]
            exact congrArg some e5
          rw [List.getElem?_take, if_pos (by omega)] at h8
          exact h8
        have := (List.getElem?_inj (by omega) hnL).mp (h7.trans hc0.symm)
        omega
      have mb := mj.step f9
      have oj := oj.fr f9
      have prb := pmap prj fun (x : Nat × List (List Nat)) (p : Key × V) r => (⟨r.1, (rL rT).ex f9.b r.2⟩ : p.1 = kL x.1 ∧ (rL rT).r x.2 p.2 Bb3)
      have xb := x8.trans f9.b
      have rw9 := (rD (rL rT)).ex xb rwL
      have rk9 := (rL (rL rN)).ex xb rkL
      have rf9 := (rL (rAny (rD (rL rT)))).ex xb rfL
      have hkl : kvs.length ≤ 3 := by
        rw [← Paired.length prb, List.length_map, List.length_take]
        omega
      have keysOf : (((labs rows).take pre3.length).map fun c => (c, valA rows (kdf wd sh a) ((kdf wd sh a).map fun j => cs.getD j []) c)).map (·.1) = (labs rows).take pre3.length := by
        rw [List.map_map]
        exact List.map_id _
      have nk : ∀ x ∈ kvs, x.1 ≠ kL c := fun x hx' e => by
        obtain ⟨c', h1, h2⟩ := pk_keys prb x hx'
        rw [h2] at e
        have e := kL_inj e
        subst e
        rw [keysOf] at h1
        exact hcn h1
      refine wp_if (k := true) mb.F.i (GT.is (t_or (j := false) (t_cmp op_eq (g_ixS (gv 2 (ρ := rT) r3) (gv 6 (ρ := rI) (x := (a : Int)) r3') hmi (by omega)) (ge_is g_str (y := [63]) (by decide)) rb_eqT) fun z => by cases z) rfl) (fun _ B10 H10 f10 => ?_) (fun z => by cases z)
      have m10 := mb.step f10
      have o10 := oj.fr f10
      refine wp_dput (kk := kL c) (ρ := rL rT) (x := [[c]]) hu m10.F.i (g_lst1 (gv 8 (ρ := rT) r9)) (gvv 7) (gv 8 (ρ := rV) (x := tx [c]) r9) m10.h m10.nf (by omega) (fun w11 B11 H11 f11 r11 h11 => ?_)
      rw [putK_new nk]
      have x11 : Ex Bb3 B11 := f10.b.trans f11.b
      have pr11 := pk_app (pmap prb fun (x : Nat × List (List Nat)) (p : Key × V) r => (⟨r.1, (rL rT).ex x11 r.2⟩ : p.1 = kL x.1 ∧ (rL rT).r x.2 p.2 B11)) (.cons ⟨rfl, r11⟩ .nil : Paired (fun x p => p.1 = kL x.1 ∧ (rL rT).r x.2 p.2 B11) [(c, [[c]])] [(kL c, w11)])
      have m11 := (m10.step f11).put (pk_nf pr11)
      have o11 := (o10.fr f11).put (o := .dK (kvs ++ [(kL c, w11)])) hnd hda
      refine wp_if m11.F.i (t_cmp (op_neD (hu64 hr)) (g_ixL (gv 3 ((rL (rL rN)).ex x11 rk9)) (gv 6 (ρ := rI) (x := (a : Int)) r3') hki) (g_nil (ρ := rN)) (rb_neNil (fun x _ => dat_N))) (fun z B12 H12 f12 => ?_) (fun z B12 H12 f12 => ?_)
      · have hne : kdf wd sh a ≠ [] := fun e => by rw [e] at z; cases z
        have hkw := hk2.resolve_left hne
        have m12 := m11.step f12
        have x12 := x11.trans f12.b
        have pr12 := pmap pr11 fun (x : Nat × List (List Nat)) (p : Key × V) r => (⟨r.1, (rL rT).ex f12.b r.2⟩ : p.1 = kL x.1 ∧ (rL rT).r x.2 p.2 B12)
        refine wp_dput (kk := kL c) (ρ := rL rT) (x := (wayL rows c).flatMap fun t => wsD [[c]] ((kdf wd sh a).map fun j => cs.getD j []) t) hu m12.F.i (ge_is (g_call4 (cal_ab g D1) hr (by decide) (gv 5 ((rL (rAny (rD (rL rT)))).ex x12 rf9)) (g_ixL (gv 3 ((rL (rL rN)).ex x12 rk9)) (gv 6 (ρ := rI) (x := (a : Int)) r3') hki) (gv 8 (ρ := rT) r9) (g_dget hu (gv 4 ((rD (rL rT)).ex x12 rw9)) (gv 8 (ρ := rT) r9) (wy_look hcL)) ⟨hk3, Nat.le_refl 1, fun t ht => by rw [wy_len gr t ht, hkw], _, _, step_pts hp hbk, Nat.le_trans (step_n gr hp hap hne c) (by decide), Nat.le_trans (step_sum hp hap) (by decide)⟩ (fun _ _ h => h)) (by rw [step_map hp])) (gvv 7) (gv 8 (ρ := rV) (x := tx [c]) r9) m12.h m12.nf (by rw [List.length_append]; simp; omega) (fun w13 B13 H13 f13 r13 h13 => ?_)
        rw [putK_old ⟨(kL c, w11), List.mem_append_right _ (List.mem_singleton.mpr rfl), rfl⟩]
        have pr13 := p_putK (c := c) r13 (pmap pr12 fun (x : Nat × List (List Nat)) (p : Key × V) r => (⟨r.1, (rL rT).ex f13.b r.2⟩ : p.1 = kL x.1 ∧ (rL rT).r x.2 p.2 B13))
        have e13 : (((((labs rows).take pre3.length).map fun c => (c, valA rows (kdf wd sh a) ((kdf wd sh a).map fun j => cs.getD j []) c)) ++ [(c, [[c]])]).map fun p => if p.1 = c then (p.1, (wayL rows c).flatMap fun t => wsD [[c]] ((kdf wd sh a).map fun j => cs.getD j []) t) else p) = ((labs rows).take (pre3.length + 1)).map fun c => (c, valA rows (kdf wd sh a) ((kdf wd sh a).map fun j => cs.getD j []) c) := by
          rw [etk, List.map_append, List.map_append]
          congr 1
          · rw [List.map_map]
            refine List.map_congr_left fun d hd => ?_
            show (if d = c then _ else _) = _
            rw [if_neg fun (e : d = c) => hcn (e ▸ hd)]
          · show [if c = c then _ else _] = [(c, valA rows (kdf wd sh a) _ c)]
            rw [if_pos rfl]
            unfold valA
            rw [if_neg hne]
        rw [e13] at pr13
        have m13 := (m12.step f13).put (pk_nf pr13)
        have o13 := ((o11.fr f12).fr f13).put (o := .dK ((kvs ++ [(kL c, w11)]).map fun kv => if kv.1 = kL c then (kv.1, w13) else kv)) hnd hda
        refine wp_nil (wp_nil (wp_nil ⟨B13, x12.trans f13.b, m13.F.i, _, _, rfl, m13, ?_, o13⟩))
        rw [el]
        exact pr13
      · have he : kdf wd sh a = [] := by
          cases h : kdf wd sh a with
          | nil => rfl
          | cons x y => rw [h] at z; cases z
        refine wp_nil (wp_nil (wp_nil ⟨B12, x11.trans f12.b, (m11.step f12).F.i, _, _, rfl, m11.step f12, ?_, o11.fr f12⟩))
        rw [el, etk, List.map_append]
        have ev : valA rows (kdf wd sh a) ((kdf wd sh a).map fun j => cs.getD j []) c = [[c]] := by
          unfold valA
          rw [if_pos he]
        show Paired _ (_ ++ [(c, valA rows (kdf wd sh a) ((kdf wd sh a).map fun j => cs.getD j []) c)]) _
        rw [ev]
        exact pmap pr11 fun (x : Nat × List (List Nat)) (p : Key × V) r => (⟨r.1, (rL rT).ex f12.b r.2⟩ : p.1 = kL x.1 ∧ (rL rT).r x.2 p.2 B12)
    · subst e
      have mu := back mj
      have hfin : H9 do' = some (.frz oo (.dK kvo)) := y2.keep (y1.keep hat nf_frz) nf_frz
      refine hDD _ H9 hfin ?_
      rw [List.length_map, show (wys (labs rows) rows).length = (labs rows).length by unfold wys; rw [List.length_map], List.take_length] at prj
      have eU : U (L B7) = B7 := lc.ul m7.F.i
      have xU : Ex B7 (U B9) := by
        have := lc.um y1
        rw [eU] at this
        exact this
      have oU : Oth ps a (U B9) (U H9) := fun q b hq hb => by
        obtain ⟨g1, g2⟩ := oj q b hq hb
        exact ⟨lc.un.mpr g1, by rw [lc.uo (neO q b hq hb)]; exact g2⟩
      have prU := pmap prj fun (x : Nat × List (List Nat)) (p : Key × V) r => (⟨r.1, (rL rT).ex mu.up (lc.ur (rL rT) r.2)⟩ : p.1 = kL x.1 ∧ (rL rT).r x.2 p.2 (upd (U B9) da (.dK kvs)))
      have hset : ∀ q, (cs.set a (allB (labs rows) rows (kdf wd sh a) ((kdf wd sh a).map fun j => cs.getD j []))).getD q [] = if a = q then allB (labs rows) rows (kdf wd sh a) ((kdf wd sh a).map fun j => cs.getD j []) else cs.getD q [] := fun q => by
        rw [List.getD_eq_getElem?_getD, List.getD_eq_getElem?_getD, List.getElem?_set]
        by_cases e : a = q
        · subst e
          rw [if_pos rfl, if_pos (by omega), if_pos rfl]
          rfl
        · rw [if_neg e, if_neg e]
      have xall : Ex Bb (upd (U B9) da (.dK kvs)) := (f7.b.trans xU).trans mu.up
      refine wp_nil ⟨upd (U B9) da (.dK kvs), xall, mu.fin.i, _, _, _, cs.set a (allB (labs rows) rows (kdf wd sh a) ((kdf wd sh a).map fun j => cs.getD j [])), rfl, mu.fin, (rL rV).ex (f3.b.trans xall) rps, by rw [List.length_set]; exact hls, fun q h1 h2 => ?_, fun q h1 h2 => ?_, ?_⟩
      · rw [List.length_append, List.length_singleton] at h1
        exact dp_step (V := fun q vs => allB (labs rows) rows (kdf wd sh q) vs) (fun q => (hp.kidsL q).1) [] hls hap (fun q g1 g2 => hd q (by omega) g2) rfl q (by omega) h2
      · rw [List.length_append, List.length_singleton] at h1
        by_cases e : a = q
        · subst e
          refine ⟨step_bw gr hp hap hbk (by rw [hset, if_pos rfl]), fun b hb => ?_⟩
          rw [hda] at hb
          cases hb
          rw [hset, if_pos rfl]
          exact ⟨da, kvs, rfl, .inl upd_same, prU⟩
        · have h3 := hbw q (by omega) h2
          have e2 : (cs.set a (allB (labs rows) rows (kdf wd sh a) ((kdf wd sh a).map fun j => cs.getD j []))).getD q [] = cs.getD q [] := by rw [hset, if_neg e]
          refine ⟨fun c => by rw [e2]; exact h3.1 c, fun b hb => ?_⟩
          rw [e2]
          exact (rD (rL rT)).ex (f3.b.trans xall) (h3.2 b hb)
      · have e : sh.length - (pre ++ [a]).length = a := by rw [List.length_append, List.length_singleton]; omega
        rw [e]
        exact oU.add hnd hda
  · subst e
    rw [List.length_reverse, List.length_range, Nat.sub_self] at hd hbw
    have hall : IsAll wd rows sh cs := ⟨hls, fun q h => hd q (Nat.zero_le _) h⟩
    obtain ⟨d0, hd0⟩ : ∃ d0, ps[0]? = some d0 := ⟨ps[0]'(by omega), List.getElem?_eq_getElem _⟩
    have rD0 := (hbw 0 (Nat.le_refl _) hpos).2 d0 hd0
    have hB0 := (hbw 0 (Nat.le_refl _) hpos).1
    obtain ⟨_, _, hb0⟩ := hp.bl2 0 hpos
    have e0 : cs.getD 0 [] = (labs rows).map fun c => (c, valA rows (kdf wd sh 0) ((kdf wd sh 0).map fun j => cs.getD j []) c) := hd 0 (Nat.le_refl _) hpos
    have hk0 : (cs.getD 0 []).map (·.1) = labs rows := by
      rw [e0, List.map_map]
      exact List.map_id _
    have hp2 : ∀ x ∈ cs.getD 0 [], x.2.length ≤ 10648 := fun x hx => by
      have h1 := (hB0 x.1).1
      rw [MF.lk_mem (by rw [hk0]; exact hnL) hx] at h1
      omega
    have hl3 : (cs.getD 0 []).length ≤ 3 := by
      have := congrArg List.length hk0
      rw [List.length_map] at this
      omega
    refine wp_set 9 F.i (P := (rL rT).r []) g_nil (fun v9 B6 H6 f6 r6 => ?_) scAl.nd
    have F := F.trans f6
    have rD6 := (rD (rL rT)).ex f6.b rD0
    have rp6 := (rL rV).ex f6.b rps
    refine wp_lock F.i rD6 fun do' kvo oo L U DD lc ev hrd pro hDD => ?_
    cases ev
    have hat : L B6 d0 = some (.frz oo (.dK kvo)) := lc.at' hrd F.i
    have prL : Paired (fun x p => p.1 = kL x.1 ∧ (rL rT).r x.2 p.2 (L B6)) (cs.getD 0 []) kvo := pmap pro fun x p r => ⟨r.1, lc.lr (rL rT) r.2⟩
    have rDL := lc.lr (rD (rL rT)) rD6
    have rpL := lc.lr (rL rV) rp6
    have r6L := lc.lr (rL rT) r6
    have iL : Ex (L B6) (L H6) := lc.lm F.i
    have h0i : (ps.map V.ref)[0]? = some (V.ref d0) := by rw [List.getElem?_map, hd0]; rfl
    refine ws_for (ρ := rT) (xs := (cs.getD 0 []).map fun p => [p.1]) (fun pre3 σ' Bj Hj => ∃ (c : Option V) (vr : V), σ' = [some v, some u, some t, some vk, some vw, some (.ref p), a1, b1, c, some vr, none] ∧ KB.Fr (L B6) (L H6) Bj Hj ∧ (rL rT).r (((cs.getD 0 []).take pre3.length).flatMap (·.2)) vr Bj) iL (gi_keysF (ok := fun v x => (rL rT).r x.2 v (L B6)) (ge_is (g_ixL (ρ := rV) (gv 5 rpL) g_int h0i) rfl) hat prL) (pg_name (i := 8) scAl.nd rfl (.inl rfl)) (fun B9 H9 f9 => ⟨_, v9, rfl, f9, (rL rT).ex f9.b r6L⟩) (fun pre3 a3 post3 v3 σ3 Bj3 H8 Bb3 H9 hx3 x8 x9 ⟨c3, vr, e, Fj, rr⟩ f9 r9 => ?_) (fun σ3 B9 H9 y1 y2 ⟨c3, vr, e, Fj, rr⟩ => ?_) rfl (hgm := gm_name)
    · subst e
      have hlen3 := congrArg List.length hx3
      rw [List.length_map, List.length_append, List.length_cons] at hlen3
      have hpl3 : pre3.length < (cs.getD 0 []).length := by omega
      obtain ⟨x0, hx0⟩ : ∃ x0, (cs.getD 0 [])[pre3.length]? = some x0 := ⟨_, List.getElem?_eq_getElem hpl3⟩
      have ea3 : a3 = [x0.1] := by
        have h1 : ((cs.getD 0 []).map fun p => [p.1])[pre3.length]? = some a3 := by rw [hx3, List.getElem?_append_right (Nat.le_refl _), Nat.sub_self]; rfl
        rw [List.getElem?_map, hx0] at h1
        exact (Option.some.inj h1).symm
      subst ea3
      have hx0m : x0 ∈ cs.getD 0 [] := List.mem_of_getElem? hx0
      have etk : (cs.getD 0 []).take (pre3.length + 1) = (cs.getD 0 []).take pre3.length ++ [x0] := by rw [List.take_add_one, hx0]; rfl
      have el : (pre3 ++ [[x0.1]]).length = pre3.length + 1 := by rw [List.length_append]; rfl
      have xb := x8.trans f9.b
      have Fj := Fj.trans f9
      have hsz : (((cs.getD 0 []).take pre3.length).flatMap (·.2)).length ≤ ((cs.getD 0 []).take pre3.length).length * 10648 := MF.flatMap_le fun y hy => hp2 y (List.mem_of_mem_take hy)
      have hsz2 : ((cs.getD 0 []).take pre3.length).length ≤ 3 := by rw [List.length_take]; omega
      have hx0l := hp2 x0 hx0m
      refine wp_set 9 Fj.i (g_catL (gv 9 ((rL rT).ex f9.b rr)) (g_dget hu (ge_vr (g_ixL (ρ := rV) (gv 5 ((rL rV).ex xb rpL)) g_int h0i) ((rD (rL rT)).ex xb rDL)) (gv 8 (ρ := rT) r9) (look_mem (by rw [hk0]; exact hnL) hx0m)) (by omega)) (fun v10 B10 H10 f10 r10 => ?_) scAl.nd
      refine wp_nil ⟨B10, f10.b, f10.i, _, v10, rfl, Fj.trans f10, ?_⟩
      rw [el, etk, List.flatMap_append]
      simpa using r10
    · subst e
      have hfin : H9 d0 = some (.frz oo (.dK kvo)) := y2.keep (y1.keep hat nf_frz) nf_frz
      refine hDD _ H9 hfin ?_
      rw [List.length_map, List.take_length] at rr
      have rU := lc.ur (rL rT) rr
      have FU : KB.Fr B6 H6 (U B9) (U H9) := by
        have h1 := lc.um Fj.h
        have h2 := lc.um Fj.b
        rw [lc.ul (Ex.refl H6)] at h1
        rw [lc.ul F.i] at h2
        refine ⟨h1, h2, lc.um Fj.i, fun b hb => ?_⟩
        rcases Fj.f b (fun e => hb (lc.un.mpr e)) with z | z
        · exact .inl fun e => z (lc.ln.mpr e)
        · exact .inr (lc.ln.mp z)
      have F9 := F.trans FU
      refine wp_ret F9.i (g_sortSetT rfl g.bi.sorted g.bi.set (gv 9 rU) (metW gr hp hall)) fun v5 B10 H10 f10 r10 => q v5 B10 H10 (F9.trans f10) ⟨_, ⟨cs, hall, rfl⟩, r10⟩
end
end KD
end
section
set_option Elab.async false
set_option linter.all false
set_option maxRecDepth 100000
set_option maxHeartbeats 4000000
/-! KG1: defs that are called where no repr is under way; repr. -/
namespace KD
open PySem PySem.Spec PyProof.Rows L2 KS MS KB
open SX (S)
section
variable {P : Program} {w : World} {K : PySem.W.Frag} {mg : Str → Option Value} {base : Heap}
/-- as FnOk, where no repr is under way -/
structure FnG (P : Program) (w : World) (K : PySem.W.Frag) (mg : Str → Option Value) (base : Heap) (k : Nat) (f : Addr) (fd : FuncData) (ps : List Str) (sp : Sp) : Prop where
  ln : ∀ vs H Q E, sp vs H Q E → vs.length = ps.length
  go : ∀ (A : Around) (outer : List Env) (s : Shared) (H : Hp) (args : Args) (us : List Value) (vs : List V) (Q : VK) (E : XK), Room k A → A.guards = some [] → Env0 P w K mg base A outer s H →
    BindsTo s fd args (ps.zip us) → Vals vs us → sp vs H Q E → codeAny (model P w) A (.call (.ref f) args) (CR CX0 outer P w H s Q E) s
/-- its call, by the name -/
structure CalG (P : Program) (w : World) (K : PySem.W.Frag) (mg : Str → Option Value) (base : Heap) (k : Nat) (x : Str) (sp : Sp) : Prop where
  ex : ∃ (f : Addr) (fd : FuncData) (ps : List Str), FnG P w K mg base k f fd ps sp ∧ mg x = some (.ref f) ∧ PySem.W.keepIn K (.ref f) = true ∧ Binds K fd ps []
theorem Dfn.go {x : Str} {st : Stmt} {N ps : List Str} {k : Nat} {sp : Sp} {f : Addr} {fd : FuncData} (Fn : L2.Fun K x x st f fd) (Sc : FnScope N ps (defScope st)) (len : ∀ vs H Q E, sp vs H Q E → vs.length = ps.length)
    (hbody : ∀ (cdv : Value) (A : Around) (outer : List Env) (s : Shared) (H : Hp) (vs : List V) (Q : VK) (E : XK), Room k (A.deeper (envOfC x (defScope st) s.heap.objs.size f cdv)) → A.guards = some [] → sp vs H Q E →
      WP (DX P w K mg base N x st f cdv A outer s H E) (defBody st) { nx := fun _ H' => Q .non H', rt := Q } (start N vs) H) : FnG P w K mg base (k + 1) f fd ps sp := by
  obtain ⟨o1, o2, k1, d1, p1, n1, cdv, c1, sl, e, hlk, hc⟩ := Fn.ex
  subst e
  refine ⟨len, fun A outer s H args us vs Q E room gd env hb rv h => ?_⟩
  have hin : K.In s.heap := env.mod.kin.keeps fun b o e => (env.bs b o e).1
  have hnl : s.heap.NoLimit := env.mod.nolimit.keeps fun b o e => (env.bs b o e).1
  refine codeAny_call_function room.depth (hin _ _ hlk) rfl Sc.co Sc.gen rfl (PySem.W.codeRec_of hin hc) (hb _ _ _ _ ?_)
  have hk : ∀ y ∈ ps.zip us, (defScope st).names.lookup y.1 = some .local ∨ ((defScope st).names.lookup y.1 = some .cell ∧ ((cellsFrom (s.heap.objs.size + 1) (defScope st).names []).lookup y.1).isSome = true) := fun y hy =>
    (Sc.par y.1 (List.of_mem_zip (show (y.1, y.2) ∈ ps.zip us from hy)).1).imp id fun q => ⟨q, PySem.W.cellsFrom_some _ _ _ (.inl q)⟩
  refine wpAny_newFunctionEnv_cells Sc.kind hk fun en hen s1 ic => ?_
  subst hen
  refine ⟨hnl.keeps ic.toInCall.keep, codeAny_func ?_⟩
  have run := hbody cdv A outer s H vs Q E (room.deeper _) gd h
  have inv : Inv (cxOf L2.CX0 P w K mg base N x (defScope st) f cdv A outer s H E) [] (start N vs) H s1 := inv_start Sc room.hd env (len _ _ _ _ h) rv ic
  have pss : PSs (DX P w K mg base N x st f cdv A outer s H E) (defBody st) (WP (DX P w K mg base N x st f cdv A outer s H E) (defBody st)) := pssW
  refine wpAny_mono (pss.nox.run [] s1 (start N vs) H _ inv run) (fun fl s' r => ?_) fun _ _ r => r
  match fl, r with
  | .ret u, r =>
    obtain ⟨v, σ', H', J, rel, q⟩ := r
    exact ⟨v, H', J.os, J.bare, J.base, J.hok, rel, q⟩
  | .next, r =>
    obtain ⟨σ', H', J, q⟩ := r
    exact ⟨V.non, H', J.os, J.bare, J.base, J.hok, rfl, q⟩
  | .brk, r => exact r.elim fun _ r => r.elim fun _ r => r.2.elim
  | .cont, r => exact r.elim fun _ r => r.elim fun _ r => r.2.elim
theorem Dfn.calG {x : Str} {st : Stmt} {N ps : List Str} {k : Nat} {sp : Sp} (Fn : Dfn K mg x st ps) (Sc : FnScope N ps (defScope st)) (len : ∀ vs H Q E, sp vs H Q E → vs.length = ps.length)
    (hbody : ∀ (f : Addr) (cdv : Value) (A : Around) (outer : List Env) (s : Shared) (H : Hp) (vs : List V) (Q : VK) (E : XK), Room k (A.deeper (envOfC x (defScope st) s.heap.objs.size f cdv)) → A.guards = some [] → sp vs H Q E →
      WP (DX P w K mg base N x st f cdv A outer s H E) (defBody st) { nx := fun _ H' => Q .non H', rt := Q } (start N vs) H) : CalG P w K mg base (k + 1) x sp := by
  obtain ⟨f, fd, h, hm, b⟩ := Fn.ex
  exact ⟨f, fd, ps, Dfn.go h Sc len fun cdv A outer s H vs Q E => hbody f cdv A outer s H vs Q E, hm, h.kp, b⟩
end
section
variable {X : Cx} {e a b c d : Expr} {es : List Expr} {σ : L2.St} {B : Hp} {pos px : Pos} {α β γ δ : Type} {ρ : R α} {τ : R β} {υ : R γ} {ω : R δ} {x : α} {y : β} {z : γ} {u : δ} {T : As}
/-- such a call -/
theorem g_callG {k j : Nat} {n : Str} {sp : Sp} {A : List V → Hp → Prop} (cl : CalG X.prog X.w X.K X.mg X.base k n sp) (hr : Room j X.A) (hgd : X.A.guards = some []) (hk : k ≤ j) (ha : GA X (e :: es) σ B A)
    (hsp : ∀ vs B1 H1, Ex B B1 → Ex B1 H1 → A vs B1 → ∀ Q : VK, Gv T B1 H1 Q → sp vs H1 Q C8.E0) (hg : Gl X n := by rfl) (hdb : (n == ("__debug__" : Str)) = false := by decide)
    (he : starEach (e :: es) X.env = (false, eval e X.env) :: starEach es X.env := by rfl) (hpl : (backTo pos (starEach es X.env)).any (·.1) = false := by rfl) : GE X (.Call (.Name n px) (e :: es) [] pos) σ B T := by
  obtain ⟨f, fd, ps, Fn, hm, hkp, hb⟩ := cl.ex
  have rule : PE X (.Call (.Name n px) (e :: es) [] pos) (fun σ H Q => WA X (e :: es) σ H fun vs H1 => sp vs H1 Q C8.E0) := by
    refine ⟨fun pins s σ H Q I h => wpAny_Call_Name_kw (ld_glob I hg hm ?_ hdb)⟩
    refine PySem.W.callWith_K (h₀ := X.base) I.ok.mod.kin hkp (thn (paW.run pos pins s σ H _ I h) fun us s1 ⟨vs, H1, J, rv, q⟩ => ⟨J.kIn, ?_⟩) he hpl
    have hl : (us ++ []).length = ps.length := by rw [List.append_nil, ← rv.length]; exact Fn.ln _ _ _ _ q
    have rv' : Vals vs (us ++ []) := by rw [List.append_nil]; exact rv
    refine wpAny_call (codeAny_mono (Fn.go X.A X.stack s1 H1 ⟨us, []⟩ (us ++ []) vs Q C8.E0 (hr.mono hk) hgd J.env0 (hb s1 us J.kIn hl) rv' q) fun r s' hq => ?_)
    match r, hq with
    | .error e, hq => exact (show Passes CX0 X C8.E0 from C8.pass0) pins σ H1 s1 e s' J hq
    | .ok (.ret u), hq => exact J.after hq
    | .ok .next, hq => exact hq.elim
    | .ok .brk, hq => exact hq.elim
    | .ok .cont, hq => exact hq.elim
  exact fun B1 H1 v i Q q => W.of rule (ha B1 H1 v i _ fun vs B2 H2 f2 r2 => hsp vs B2 H2 (v.trans f2.b) f2.i r2 Q (Gv.fr q f2))
theorem g_callG4 {k j : Nat} {n : Str} {Pre : α → β → γ → δ → Prop} {R0 : α → β → γ → δ → As} (cl : CalG X.prog X.w X.K X.mg X.base k n (sp4 ρ τ υ ω Pre R0)) (hr : Room j X.A) (hgd : X.A.guards = some []) (hk : k ≤ j) (ha : GE X a σ B (ρ.r x)) (hb : GE X b σ B (τ.r y)) (hc : GE X c σ B (υ.r z)) (hd : GE X d σ B (ω.r u)) (hp : Pre x y z u) (hT : ∀ v H, R0 x y z u v H → T v H) (hg : Gl X n := by rfl) (hdb : (n == ("__debug__" : Str)) = false := by decide)
    (he : starEach [a, b, c, d] X.env = (false, eval a X.env) :: starEach [b, c, d] X.env := by rfl) (he2 : starEach [b, c, d] X.env = (false, eval b X.env) :: starEach [c, d] X.env := by rfl) (he3 : starEach [c, d] X.env = (false, eval c X.env) :: starEach [d] X.env := by rfl) (he4 : starEach [d] X.env = (false, eval d X.env) :: starEach [] X.env := by rfl) (hpl : (backTo pos (starEach [b, c, d] X.env)).any (·.1) = false := by rfl) : GE X (.Call (.Name n px) [a, b, c, d] [] pos) σ B T :=
  g_callG cl hr hgd hk (ga4 ha hb hc hd he he2 he3 he4) (fun vs B1 H1 _ i ⟨v1, v2, v3, v4, e1, r1, r2, r3, r4⟩ Q q => ⟨x, y, z, u, v1, v2, v3, v4, B1, e1, i, r1, r2, r3, r4, hp, fun v B2 H2 f p => q v B2 H2 f (hT v B2 p)⟩) hg hdb he hpl
end
end KD
end
section
set_option Elab.async false
set_option linter.all false
set_option maxRecDepth 100000
set_option maxHeartbeats 4000000
/-! KG2: repr of answers and tables. -/
namespace KD
open PySem PySem.Spec PyProof.Rows L2 KS MS KB
open SX (S)
/-- an answer: a text, a number, None -/
inductive Wd where
  | t (l : List Nat)
  | i (n : Nat)
  | o
def wdV : Wd → V
  | .t l => tx l
  | .i n => nI n
  | .o => .non
def rWd : R Wd := ⟨fun x v _ => v = wdV x, noF, fun v => (∃ s, v = .str s) ∨ (∃ n, v = .int n) ∨ v = .non, fun h _ => h, fun h => h.elim, fun {x v H} h => by
  cases x with
  | t l => exact .inl ⟨_, h⟩
  | i n => exact .inr (.inl ⟨_, h⟩)
  | o => exact .inr (.inr h)⟩
def wdT : Option (List Nat) → Wd
  | none => .o
  | some l => .t l
def wdN : Option Nat → Wd
  | none => .o
  | some n => .i n
def toD : Wd → PyData
  | .t l => .str (S l)
  | .i n => .int n
  | .o => .none
/-- short ones -/
def Sht : Wd → Prop
  | .t l => l.length ≤ 100 ∧ ∀ c ∈ l, c < 1000
  | .i n => n ≤ 2187
  | .o => True
/-- what repr shows without ado -/
structure Shw (d : PyData) : Prop where
  s : d.showable = true
  h : d.hasDict = false
  dp : d.depth ≤ 3
  l : PyData.leavesShort 13 d = true
  w : d.weight ≤ 10000
theorem int_short (n : Nat) (hn : n ≤ 2187) : decide ((PyData.shown (.int n)).length ≤ 13) = true ∧ decide ((n : Int).natAbs.log2 < 1920) = true ∧ (if ((n : Int) == 0) = true then 0 else (n : Int).natAbs.log2 + 1) ≤ 100 := by
  have h1 : (toString (n : Int)).length ≤ 4 + 1 := int_text_length_le10 (by decide) (show n < 10 ^ 4 by omega)
  have e : (PyData.shown (.int n)).length = (toString (n : Int)).length := by
    show (Str.ofString (toString (n : Int))).length = _
    exact PySem.ofString_length _
  have h3 : (n : Int).natAbs.log2 < 12 := by
    by_cases h0 : n = 0
    · subst h0
      decide
    · exact (Nat.log2_lt h0).mpr (by omega)
  exact ⟨decide_eq_true (by omega), decide_eq_true (by omega), by split <;> omega⟩
theorem shw_str {l : List Nat} (h : l.length ≤ 100 ∧ ∀ c ∈ l, c < 1000) : PyData.leavesShort 13 (.str (S l)) = true ∧ PyData.weight (.str (S l)) ≤ 100 := by
  refine ⟨?_, ?_⟩
  · simp only [PyData.leavesShort]
    refine List.all_eq_true.mpr fun c hc => decide_eq_true ?_
    have h1 := h.2 c hc
    have h2 : (1000 : Nat) < 16 ^ 8 := by decide
    exact Nat.lt_trans h1 h2
  · simp only [PyData.weight]
    show l.toArray.size ≤ 100
    rw [List.size_toArray]
    exact h.1
theorem shw_one : ∀ {x : Wd}, Sht x → (toD x).showable = true ∧ (toD x).hasDict = false ∧ (toD x).depth = 0 ∧ (toD x).leavesShort 13 = true ∧ (toD x).weight ≤ 100
  | .t l, h => ⟨by simp only [toD, PyData.showable], by simp only [toD, PyData.hasDict], by simp only [toD, PyData.depth], (shw_str h).1, (shw_str h).2⟩
  | .i n, h => by
    obtain ⟨h1, h2, h3⟩ := int_short n h
    refine ⟨?_, by simp only [toD, PyData.hasDict], by simp only [toD, PyData.depth], ?_, ?_⟩
    · simp only [toD, PyData.showable]
      exact h2
    · simp only [toD, PyData.leavesShort]
      exact h1
    · simp only [toD, PyData.weight]
      exact h3
  | .o, _ => ⟨by simp only [toD, PyData.showable], by simp only [toD, PyData.hasDict], by simp only [toD, PyData.depth], by simp only [toD, PyData.leavesShort], by simp only [toD, PyData.weight]; omega⟩
theorem shw_all : ∀ {xs : List Wd}, (∀ x ∈ xs, Sht x) → PyData.showableAll (xs.map toD) = true ∧ PyData.hasDictAll (xs.map toD) = false ∧ PyData.depthAll (xs.map toD) = 0 ∧ PyData.leavesShortAll 13 (xs.map toD) = true ∧ PyData.weightAll (xs.map toD) ≤ 101 * xs.length
  | [], _ => ⟨by simp only [List.map_nil, PyData.showableAll], by simp only [List.map_nil, PyData.hasDictAll], by simp only [List.map_nil, PyData.depthAll], by simp only [List.map_nil, PyData.leavesShortAll], by simp only [List.map_nil, PyData.weightAll]; omega⟩
  | x :: xs, h => by
    obtain ⟨a1, a2, a3, a4, a5⟩ := shw_one (h x (List.mem_cons_self ..))
    obtain ⟨b1, b2, b3, b4, b5⟩ := shw_all (xs := xs) fun y hy => h y (List.mem_cons_of_mem _ hy)
    refine ⟨?_, ?_, ?_, ?_, ?_⟩
    · simp only [List.map_cons, PyData.showableAll, a1, b1, Bool.and_self]
    · simp only [List.map_cons, PyData.hasDictAll, a2, b2, Bool.or_self]
    · simp only [List.map_cons, PyData.depthAll, a3, b3, Nat.max_self]
    · simp only [List.map_cons, PyData.leavesShortAll, a4, b4, Bool.and_self]
    · simp only [List.map_cons, PyData.weightAll, List.length_cons]
      omega
theorem shw_list {xs : List Wd} (h : ∀ x ∈ xs, Sht x) (hl : xs.length ≤ 50) : Shw (.list (xs.map toD)) := by
  obtain ⟨b1, b2, b3, b4, b5⟩ := shw_all h
  refine ⟨?_, ?_, ?_, ?_, ?_⟩
  · simp only [PyData.showable, b1]
  · simp only [PyData.hasDict, b2]
  · simp only [PyData.depth, b3]
    omega
  · simp only [PyData.leavesShort, b4]
  · simp only [PyData.weight]
    omega
theorem shw_table {n : Nat} {rows : List (List Nat)} (hn : n ≤ 3) (h : ∀ r ∈ rows, r.length ≤ 100 ∧ ∀ c ∈ r, c < 1000) (hl : rows.length ≤ 50) : Shw (.tuple [.int n, .tuple ((rows.map Wd.t).map toD)]) := by
  obtain ⟨b1, b2, b3, b4, b5⟩ := shw_all (xs := rows.map Wd.t) fun x hx => by
    obtain ⟨r, hr, rfl⟩ := List.mem_map.mp hx
    exact h r hr
  obtain ⟨a1, a2, a3, a4, a5⟩ := shw_one (x := .i n) (show n ≤ 2187 by omega)
  simp only [toD] at a1 a2 a3 a4 a5
  rw [List.length_map] at b5
  refine ⟨?_, ?_, ?_, ?_, ?_⟩
  · simp only [PyData.showable, PyData.showableAll, b1, Bool.and_true]
    simpa only [PyData.showable] using a1
  · simp only [PyData.hasDict, PyData.hasDictAll, b2, Bool.or_false]
  · simp only [PyData.depth, PyData.depthAll, b3]
    omega
  · simp only [PyData.leavesShort, PyData.leavesShortAll, b4, Bool.and_true]
    simpa only [PyData.leavesShort] using a4
  · simp only [PyData.weight, PyData.weightAll] at a5 ⊢
    omega
theorem dp_wd {K : PySem.W.Frag} {H : Hp} : ∀ x : Wd, Dp K H (wdV x) (toD x)
  | .t l => .str _
  | .i n => .int _
  | .o => .non
theorem dp_wds {K : PySem.W.Frag} {B H : Hp} : ∀ {xs : List Wd} {vs : List V}, Paired (fun x v => rWd.r x v B) xs vs → DpAll K H vs (xs.map toD)
  | _, _, .nil => .nil
  | x :: _, _, .cons r t => by
    rw [show _ = wdV x from r]
    exact .cons (dp_wd x) (dp_wds t)
section
variable {X : Cx} {e a : Expr} {es : List Expr} {rest : List Stmt} {σ : L2.St} {B H : Hp} {D : Ends} {pos px p1 p2 : Pos} {α : Type} {ρ : R α} {x : α} {d : PyData}
theorem ge_wt {l : List Nat} (h : GE X e σ B (rT.r l)) : GE X e σ B (rWd.r (.t l)) := h
theorem ge_wn {n : Nat} (h : GE X e σ B (rN.r n)) : GE X e σ B (rWd.r (.i n)) := h
theorem ge_wot {o : Option (List Nat)} (h : GE X e σ B ((rO rT).r o)) : GE X e σ B (rWd.r (wdT o)) := by cases o <;> exact h
theorem ge_won {o : Option Nat} (h : GE X e σ B ((rO rN).r o)) : GE X e σ B (rWd.r (wdN o)) := by cases o <;> exact h
/-- repr(e) -/
theorem g_repr {k : Nat} (hr : Room k X.A) (hgd : X.A.guards = some []) (hm : X.mg "repr" = none) (h : GE X e σ B (ρ.r x)) (hd : ∀ v B1 H1, Ex B B1 → Ex B1 H1 → ρ.r x v B1 → ∃ p, v = .ref p ∧ Dp X.K H1 (.ref p) d) (hs : Shw d)
    (he : starEach [e] X.env = (false, eval e X.env) :: starEach [] X.env := by rfl) (hg : Gl X "repr" := by rfl) (hpl : (backTo pos (starEach [] X.env)).any (·.1) = false := by rfl) : GE X (.Call (.Name "repr" px) [e] [] pos) σ B (rT.r d.shown.cps.toList) :=
  g_callB (cr_repr hr hgd) hm (ga1 h he) (fun vs B1 H1 u ih ⟨v, e1, r⟩ Q q => by
    obtain ⟨p, ep, dp⟩ := hd v B1 H1 u ih r
    exact ⟨p, d, by rw [e1, ep], dp, hs.s, hs.h, by have := hs.dp; omega, PyData.shown_fits (B := 13) (by decide) (by decide) hs.l (Nat.le_trans hs.w (show 10000 ≤ 2 ^ 20 by decide)), q _ _ _ (Fr.refl ih) (by
      show V.str d.shown = V.str ⟨d.shown.cps.toList.toArray⟩
      rw [Array.toArray_toList])⟩) (by decide +kernel) hg (by decide) (by decide) he hpl
theorem g_reprL {k : Nat} {xs : List Wd} (hr : Room k X.A) (hgd : X.A.guards = some []) (hm : X.mg "repr" = none) (h : GE X e σ B ((rL rWd).r xs)) (hs : ∀ x ∈ xs, Sht x) (hl : xs.length ≤ 50)
    (he : starEach [e] X.env = (false, eval e X.env) :: starEach [] X.env := by rfl) (hg : Gl X "repr" := by rfl) (hpl : (backTo pos (starEach [] X.env)).any (·.1) = false := by rfl) : GE X (.Call (.Name "repr" px) [e] [] pos) σ B (rT.r (PyData.shown (.list (xs.map toD))).cps.toList) :=
  g_repr hr hgd hm h (fun v B1 H1 _ ih ⟨p, vs, e1, h1, pr⟩ => ⟨p, e1, .lst (.inl (.inl (ih.lst h1))) (dp_wds pr)⟩) (shw_list hs hl) he hg hpl
theorem g_reprG {k : Nat} {gr : Nat × List (List Nat)} (hr : Room k X.A) (hgd : X.A.guards = some []) (hm : X.mg "repr" = none) (h : GE X e σ B (rG.r gr)) (hn : gr.1 ≤ 3) (hs : ∀ r ∈ gr.2, r.length ≤ 100 ∧ ∀ c ∈ r, c < 1000) (hl : gr.2.length ≤ 50)
    (he : starEach [e] X.env = (false, eval e X.env) :: starEach [] X.env := by rfl) (hg : Gl X "repr" := by rfl) (hpl : (backTo pos (starEach [] X.env)).any (·.1) = false := by rfl) : GE X (.Call (.Name "repr" px) [e] [] pos) σ B (rT.r (PyData.shown (.tuple [.int gr.1, .tuple ((gr.2.map Wd.t).map toD)])).cps.toList) :=
  g_repr hr hgd hm h (fun v B1 H1 _ ih ⟨p, y, z, e1, h1, r1, q, vs, e2, h2, pr⟩ => by
    refine ⟨p, e1, .tup (.inl (.inl (ih.keep h1 nf_tup))) (.cons ?_ (.cons ?_ .nil))⟩
    · rw [show y = nI gr.1 from r1]
      exact .int _
    · rw [e2]
      refine .tup (.inl (.inl (ih.keep h2 nf_tup))) (dp_wds (B := B1) ?_)
      have : ∀ {rs : List (List Nat)} {vs : List V}, Paired (fun x v => rT.r x v B1) rs vs → Paired (fun x v => rWd.r x v B1) (rs.map Wd.t) vs := by
        intro rs vs h
        induction h with
        | nil => exact .nil
        | cons r t ih => exact .cons r ih
      exact this pr) (shw_table hn hs hl) he hg hpl
/-- name = [a, b, ..]; the new list may be changed -/
theorem wp_setLstM (j : Nat) {n : Str} {xs : List α} (ih : Ex B H) (h : GA X es σ B (fun vs H => Paired (fun x v => ρ.r x v H) xs vs)) (hl : xs.length ≤ 1000) (k : ∀ q ws B1 H1, One B H q (.lst ws) B1 H1 → Paired (fun x v => ρ.r x v B1) xs ws → WP X rest D (σ.set j (some (.ref q))) H1) (hN : X.N.Nodup) (hi : X.N[j]? = some n := by rfl) (hx : Loc X.env.scope n := by first | exact Or.inl rfl | exact Or.inr rfl) (hs : swapsWith (.List es p2) (some (.Name n p1)) pos.line X.env = pure false := by rfl) (hf : X.fn n = true ∨ X.env.scope.names.lookup n = some .local := by first | exact Or.inl rfl | exact Or.inr rfl) :
    WP X (.Assign [.Name n p1] (.List es p2) pos :: rest) D σ H :=
  WP.cons (ps_set hN hi hx (pe_lst paW) hs hf) (h B H (Ex.refl B) ih _ fun vs B2 H2 f2 r => ⟨by rw [← Paired.length r]; exact Nat.le_trans hl (by decide), fun p hp => k p vs B2 _ (One.new f2 hp nf_lst) r⟩)
end
end KD
end
section
set_option autoImplicit false
set_option linter.all false
/-! M14: letters of right words; drawn marks. -/
namespace MF
open MS
section
variable {w : Nat} {rows : List (List Nat)} {sh m : List Nat} {ev : List (List Nat)}
theorem Gr.labs_abc (g : Gr w rows) {c : Nat} (h : c ∈ labs rows) : c ∈ MF.abc := by
  obtain ⟨r, h1, h2⟩ := mem_labs.mp h
  exact g.abc r h1 c h2
theorem Ev.abc (E : Ev w rows sh ev) (g : Gr w rows) {x : List Nat} (hx : x ∈ ev) : ∀ c ∈ x, c ∈ MF.abc := by
  obtain ⟨c, hc⟩ := (E.mem x).mp hx
  exact fun d hd => g.labs_abc (fw_ok (g := fun c => c ∈ labs rows) (fun _ _ z => z) _ hc d hd)
theorem abc_small : ∀ c ∈ abc, c < 1000 := by decide
theorem apart_le (m x : List Nat) : apart m x ≤ m.length := by
  unfold apart
  refine Nat.le_trans (List.length_filter_le ..) ?_
  rw [List.length_range]
  exact Nat.le_refl _
theorem frc_abc {A : List (List Nat)} {n : Nat} {l : List Nat} (h : frc A n = some l) (hA : ∀ x ∈ A, x.length = n ∧ ∀ c ∈ x, c ∈ abc) : l.length = n ∧ ∀ c ∈ l, c < 1000 := by
  unfold frc at h
  split at h
  · cases h
  · rename_i hne
    cases h
    refine ⟨by rw [List.length_map, List.length_range], fun c hc => ?_⟩
    obtain ⟨k, hk, rfl⟩ := List.mem_map.mp hc
    rw [List.mem_range] at hk
    split
    · cases A with
      | nil => exact absurd rfl hne
      | cons x A =>
        obtain ⟨h1, h2⟩ := hA x (List.mem_cons_self ..)
        show x.getD k 0 < 1000
        rw [List.getD_eq_getElem?_getD, List.getElem?_eq_getElem (by omega)]
        exact abc_small _ (h2 _ (List.getElem_mem _))
    · decide
end
end MF
end
section
set_option Elab.async false
set_option linter.all false
set_option maxRecDepth 100000
set_option maxHeartbeats 4000000
/-! LE10: what words have in common, how far words are apart. -/
namespace KD
open PySem PySem.Spec PyProof.Rows L2 KS MS KB
open SX (S)
open MF (abc Gr labs apart frc agree)
abbrev nmFc : List Str := ["_law_rows", "_law_size", "_law_signs", "_law_k", "_law_same", "_law_row_here"]
theorem scFc : FnScope nmFc ["_law_rows", "_law_size"] (defScope (topS 58)) := ⟨rfl, rfl, rfl, by decide +kernel, rfl, by decide +kernel, by decide +kernel⟩
theorem scAp : FnScope ["_law_signs", "_law_row_here", "_law_k"] ["_law_signs", "_law_row_here"] (defScope (topS 59)) := ⟨rfl, rfl, rfl, by decide +kernel, rfl, by decide +kernel, by decide +kernel⟩
theorem dat_abc {l : List Nat} (h : ∀ c ∈ l, c < 1000) : Dat rT l := dat_T (by
  unfold PyData.strOk
  refine Array.all_eq_true'.mpr fun c hc => decide_eq_true ?_
  have := h c (by simpa using hc)
  omega)
section
variable {P : Program} {w : World} {K : PySem.W.Frag} {mg : Str → Option Value} {base : Heap}
abbrev DFc (K : PySem.W.Frag) (mg : Str → Option Value) : Prop := Dfn K mg "_law_forced" (topS 58) ["_law_rows", "_law_size"]
abbrev DAp (K : PySem.W.Frag) (mg : Str → Option Value) : Prop := Dfn K mg "_law_apart" (topS 59) ["_law_signs", "_law_row_here"]
theorem cal_ap (g : GC K mg) (D : DAp K mg) : C8.Cal P w K mg base 1 "_law_apart" (sp2 rT rT (fun m x => m.length ≤ 100 ∧ x.length = m.length) fun m x => rN.r (apart m x)) [] := by
  refine D.cal scAp (fun vs H Q E ⟨x, y, v, u, B, e, _⟩ => by rw [e]; rfl) fun f cdv A outer s H vs Q E hr ⟨m, x, v, u, B, e, i, r, r2, ⟨hm, hx⟩, q⟩ => ?_
  subst e
  refine wp_ret i (ge_is (g_lenL g.bi.len (g_lc (ρ := rN) (τ := rN) (own := [("_law_k", 2)]) (j := 2) (xs := List.range m.length) (fun k => !decide ([m.getD k 0] = [63]) && !decide ([m.getD k 0] = [x.getD k 0])) (fun k => k) rfl scAp.nd (by apply blkOk_by; change blkC ["_law_signs", "_law_row_here", "_law_k"] (defScope (topS 59)) _ _ = true; decide +kernel) (fun _ _ _ _ _ => pg_name (i := 2) scAp.nd rfl (.inl rfl)) (gi_range g.bi.range (GE.n (g_lenS g.bi.len (gv 0 (ρ := rT) r) (by omega))) (by omega)) (by rw [List.length_range]; omega) fun k vk B2 hk x2 rk s0 H0 C cl fp => ⟨ts_one ?_, fun _ => gv 2 rk⟩)) (y := apart m x) (by rw [List.map_id']; rfl)) fun v B1 H1 f p => q v B1 H1 f p
  rw [List.mem_range] at hk
  have h1 : m[k]? = some (m.getD k 0) := getD_at hk
  have h2 : x[k]? = some (x.getD k 0) := getD_at (by omega)
  exact t_and (t_cmp op_ne (g_ixS (gv 0 (ρ := rT) r) (gv 2 (ρ := rI) (x := (k : Int)) rk) h1 (by omega)) (ge_is g_str (y := [63]) (by decide)) rb_neT) fun _ => t_cmp op_ne (g_ixS (gv 0 (ρ := rT) r) (gv 2 (ρ := rI) (x := (k : Int)) rk) h1 (by omega)) (g_ixS (gv 1 (ρ := rT) r2) (gv 2 (ρ := rI) (x := (k : Int)) rk) h2 (by omega)) rb_neT
theorem cal_fc (g : GC K mg) (D : DFc K mg) : C8.Cal P w K mg base 1 "_law_forced" (sp2 (rL rT) rN (fun A n => A.length ≤ 4000 ∧ n ≤ 7 ∧ ∀ x ∈ A, x.length = n ∧ ∀ c ∈ x, c ∈ abc) fun A n => (rO rT).r (frc A n)) [] := by
  refine D.cal scFc (fun vs H Q E ⟨x, y, v, u, B, e, _⟩ => by rw [e]; rfl) fun f cdv A outer s H vs Q E hr ⟨As, n, v, u, B, e, i, r, r2, ⟨hA, hn, hx⟩, q⟩ => ?_
  subst e
  refine wp_if i (t_cmp (op_eqD (hu64 hr)) (gv 0 r) (g_nil (ρ := rT)) (rb_eqNil fun x hx' => dat_abc fun c hc => MF.abc_small c ((hx x hx').2 c hc))) (fun z B1 H1 f1 => ?_) (fun z B1 H1 f1 => ?_)
  · have he : As = [] := by
      cases As with
      | nil => rfl
      | cons x y => cases z
    refine wp_ret f1.i (g_non (ρ := rT)) fun v5 B5 H5 f5 r5 => q v5 B5 H5 (f1.trans f5) ?_
    show (rO rT).r (frc As n) v5 B5
    rw [he]
    exact r5
  · have hne : As ≠ [] := fun e => by
      rw [e] at z
      cases z
    obtain ⟨x0, hx0⟩ : ∃ x0, As[0]? = some x0 := by
      cases As with
      | nil => exact absurd rfl hne
      | cons x y => exact ⟨x, rfl⟩
    have hd0 : As.headD [] = x0 := by
      cases As with
      | nil => cases hx0
      | cons x y => exact Option.some.inj hx0
    have hx0l := (hx x0 (List.mem_of_getElem? hx0)).1
    refine wp_nil ?_
    refine wp_setN 2 (fun l hl0 => ?_) scFc.nd
    have m : One B H l (.lst []) B1 _ := One.new f1 hl0 nf_lst
    refine wp_for (ρ := rN) (xs := List.range n) (fun pre σ' Bj Hj => ∃ (a b : Option V), σ' = [some v, some u, some (.ref l), a, b, none] ∧ One B H l (.lst ((pre.map fun k => [if (As.filter fun r => decide ([r.getD k 0] = [x0.getD k 0])).length = As.length then x0.getD k 0 else 63]).map tx)) Bj Hj) m.F.i (gi_range (n := n) g.bi.range (gv 1 (ρ := rI) (x := (n : Int)) r2) (by omega)) (pg_name (i := 3) scFc.nd rfl (.inr rfl)) (fun B2 H2 f2 => ⟨none, none, rfl, m.step f2⟩) (fun pre a post v' σ' Bj H2 Bb H3 hx' x2 x3 ⟨a1, b1, e, mj⟩ f3 r3 => ?_) (fun σ' B2 H2 x1 x2 ⟨a1, b1, e, mj⟩ => ?_) rfl (hgm := gm_name)
    · subst e
      have hlen := congrArg List.length hx'
      rw [List.length_range, List.length_append, List.length_cons] at hlen
      have han : a < n := by
        have : a ∈ List.range n := by rw [hx']; exact List.mem_append_right _ (List.mem_cons_self ..)
        exact List.mem_range.mp this
      have mb := mj.step f3
      have xb : Ex B Bb := mb.F.b
      have h0 : x0[a]? = some (x0.getD a 0) := getD_at (by omega)
      refine wp_setLcM 4 (own := [("_law_row_here", 5)]) (jt := 5) (ρ := rT) (τ := rT) (xs := As) mb.F.i (fun r => decide ([r.getD a 0] = [x0.getD a 0])) (fun r => r) (gi_list (gv 0 ((rL rT).ex xb r))) (by omega) (fun y vy B4 hy x4 ry s0 H0 C cl fp => ⟨ts_one (t_cmp op_eq (g_ixS (gv 5 (ρ := rT) ry) (gv 3 (ρ := rI) (x := (a : Int)) r3) (getD_at (by rw [(hx y hy).1]; exact han)) (by rw [(hx y hy).1]; omega)) (g_ixS (g_ixL (ρ := rT) (i := 0) (gv 0 ((rL rT).ex (xb.trans x4) r)) g_int hx0) (gv 3 (ρ := rI) (x := (a : Int)) r3) h0 (by omega)) rb_eqT), fun _ => gv 5 ry⟩) (fun ql wl B4 H4 m4 pr4 => ?_) rfl scFc.nd (by apply blkOk_by; change blkC nmFc (defScope (topS 58)) _ _ = true; decide +kernel) (fun _ _ _ _ _ => pg_name (i := 5) scFc.nd rfl (.inl rfl)) (by rfl)
      rw [List.map_id'] at pr4
      obtain ⟨ne4, m5, x5⟩ := mb.addO m4
      have rs : (rL rT).r (As.filter fun r => decide ([r.getD a 0] = [x0.getD a 0])) (.ref ql) (upd B4 ql (.lst wl)) := ⟨ql, wl, rfl, upd_same, pmap pr4 fun x v r => rT.ex (Ex.new m4.b) r⟩
      have xf := xb.trans x5
      refine wp_app (P := rT.r [if (As.filter fun r => decide ([r.getD a 0] = [x0.getD a 0])).length = As.length then x0.getD a 0 else 63]) m5.F.i (gvv 2) (g_if (t_cmp (ρ := rI) (τ := rI) op_eq (GE.n (g_lenL g.bi.len (gv 4 rs))) (GE.n (g_lenL g.bi.len (gv 0 ((rL rT).ex xf r)))) rb_eqI) (fun z => ge_is (g_ixS (g_ixL (ρ := rT) (i := 0) (gv 0 ((rL rT).ex xf r)) g_int hx0) (gv 3 (ρ := rI) (x := (a : Int)) r3) h0 (by omega)) (by rw [if_pos (by have := of_decide_eq_true z; omega)])) (fun z => ge_is g_str (by rw [if_neg (by have := of_decide_eq_false z; omega)]; decide))) m5.h (by rw [List.length_map, List.length_map]; omega) (fun w6 B6 H6 f6 r6 h6 => ?_)
      have r6 : w6 = tx _ := r6
      subst r6
      have m6 := (m5.step f6).put (o' := .lst ((pre.map fun k => [if (As.filter fun r => decide ([r.getD k 0] = [x0.getD k 0])).length = As.length then x0.getD k 0 else 63]).map tx ++ [tx [if (As.filter fun r => decide ([r.getD a 0] = [x0.getD a 0])).length = As.length then x0.getD a 0 else 63]])) nf_lst
      refine wp_nil ⟨B6, x5.trans f6.b, m6.F.i, _, _, rfl, ?_⟩
      rw [List.map_append, List.map_append]
      exact m6
    · subst e
      have rsum : ∀ xs : List Nat, ((xs.map fun k => [if (As.filter fun r => decide ([r.getD k 0] = [x0.getD k 0])).length = As.length then x0.getD k 0 else 63]).map (·.length)).sum = xs.length := by
        intro xs
        induction xs with
        | nil => rfl
        | cons x xs ih =>
          rw [List.map_cons, List.map_cons, List.sum_cons, ih, List.length_cons]
          show 1 + xs.length = xs.length + 1
          omega
      refine wp_ret mj.fin.i (GE.some (g_join (gv 2 (ρ := rL rT) (lT.mpr ⟨l, rfl, upd_same⟩)) (by rw [rsum, List.length_range]; omega))) fun v5 B5 H5 f5 r5 => q v5 B5 H5 (mj.fin.trans f5) ?_
      show (rO rT).r (frc As n) v5 B5
      unfold frc
      rw [if_neg hne, hd0]
      rw [MF.flat_one] at r5
      exact r5
end
end KD
end
section
set_option Elab.async false
set_option linter.all false
set_option maxRecDepth 100000
set_option maxHeartbeats 4000000
/-! LE11: drawn marks. -/
namespace KD
open PySem PySem.Spec PyProof.Rows L2 KS MS KB
open SX (S)
open MF (abc Gr labs Sh kd kdf Ob wys wayL Mk)
abbrev nmSm : List Str := ["_law_feed_here", "_law_grid_here", "_law_tree_here", "_law_cans_here", "_law_kids_here", "_law_ways_here", "_law_signs", "_law_letters_here", "_law_share", "_law_k", "_law_suits", "_law_way", "_law_j", "_law_sign"]
theorem scSm : FnScope nmSm ["_law_feed_here", "_law_grid_here", "_law_tree_here"] (defScope (topS 56)) := ⟨rfl, rfl, rfl, by decide +kernel, rfl, by decide +kernel, by decide +kernel⟩
theorem range_at {n : Nat} {pre post : List Nat} {a : Nat} (h : List.range n = pre ++ a :: post) : a = pre.length ∧ pre.length < n := by
  have hl := congrArg List.length h
  rw [List.length_range, List.length_append, List.length_cons] at hl
  have h1 : (List.range n)[pre.length]? = some a := by rw [h, List.getElem?_append_right (Nat.le_refl _), Nat.sub_self]; rfl
  rw [List.getElem?_range (by omega)] at h1
  exact ⟨(Option.some.inj h1).symm, by omega⟩
theorem set_sg (ss : List Nat) (q d : Nat) : ((sg ss).map tx).set q (tx [d]) = (sg (ss.set q d)).map tx := by
  unfold sg
  rw [List.map_set, List.map_set]
theorem getD_setN {s : List Nat} {i j x : Nat} : (s.set j x).getD i 0 = if j = i ∧ j < s.length then x else s.getD i 0 := by
  rw [List.getD_eq_getElem?_getD, List.getD_eq_getElem?_getD, List.getElem?_set]
  by_cases e : j = i
  · subst e
    by_cases h : j < s.length
    · rw [if_pos rfl, if_pos h, if_pos ⟨rfl, h⟩]
      rfl
    · rw [if_pos rfl, if_neg h, if_neg fun z => h z.2, List.getElem?_eq_none (by omega)]
  · rw [if_neg e, if_neg fun z => e z.1]
theorem mem_set' {s : List Nat} {q x c : Nat} (h : c ∈ s.set q x) : c = x ∨ c ∈ s := (List.mem_or_eq_of_mem_set h).symm
theorem fitV_get {vs : List (List (List Nat))} {t : List Nat} (h : fitV vs t = true) : ∀ j, j < vs.length → [t.getD j 0] ∈ vs.getD j [] := fun j hj => by
  unfold fitV at h
  refine Decidable.byContradiction fun z => ?_
  have hm : j ∈ (List.range vs.length).filter fun j => !decide ([t.getD j 0] ∈ vs.getD j []) := List.mem_filter.mpr ⟨List.mem_range.mpr hj, by rw [decide_eq_false z]; rfl⟩
  rw [List.isEmpty_iff.mp h] at hm
  cases hm
theorem can_mem {wd : Nat} {rows : List (List Nat)} {sh : List Nat} {cs : List (List (List Nat))} (hc : IsCans wd rows sh cs) {q : Nat} (hq : q < sh.length) {l : List Nat} (h : l ∈ cs.getD q []) : ∃ c ∈ labs rows, l = [c] ∧ (kdf wd sh q ≠ [] → ∃ t ∈ wayL rows c, fitV ((kdf wd sh q).map fun j => cs.getD j []) t = true) := by
  have e := hc.2 q hq
  rw [e] at h
  obtain ⟨h1, h2⟩ := List.mem_filter.mp (show l ∈ (sg (labs rows)).filter _ from h)
  obtain ⟨c, hcl, rfl⟩ := List.mem_map.mp h1
  refine ⟨c, hcl, rfl, fun hne => ?_⟩
  rcases Bool.or_eq_true_iff.mp h2 with h3 | h3
  · exact List.any_eq_true.mp h3
  · exact absurd (List.isEmpty_iff.mp h3) hne
section
variable {X : Cx} {a b : Expr} {σ : L2.St} {B : Hp} {pos : Pos} {α β : Type} {ρ : R α} {τ : R β} {x : α} {P : As}
/-- the second argument unknown -/
theorem g_call2F {k j : Nat} {n : Str} {px : Pos} {Pre : α → β → Prop} {T : α → β → As} {Pp : β → Prop} (cl : C8.Cal X.prog X.w X.K X.mg X.base k n (sp2 ρ τ Pre T) []) (hr : Room j X.A) (hk : k ≤ j) (ha : GE X a σ B (ρ.r x)) (hb : GE X b σ B ((rW τ Pp).r ())) (hp : ∀ y, Pp y → Pre x y) (hT : ∀ y v H, Pp y → T x y v H → P v H) (hg : Gl X n := by rfl) (hdb : (n == ("__debug__" : Str)) = false := by decide)
    (he : starEach [a, b] X.env = (false, eval a X.env) :: starEach [b] X.env := by rfl) (he2 : starEach [b] X.env = (false, eval b X.env) :: starEach [] X.env := by rfl) (hpl : (backTo pos (starEach [b] X.env)).any (·.1) = false := by rfl) : GE X (.Call (.Name n px) [a, b] [] pos) σ B P :=
  g_call cl hr hk (ga2 ha hb he he2) (fun vs B1 H1 _ i ⟨v, w, e1, r1, ⟨y, py, r2⟩⟩ Q q => ⟨x, y, v, w, B1, by rw [e1]; rfl, i, r1, r2, hp y py, fun u B2 H2 f2 p => q u B2 H2 f2 (hT y u B2 py p)⟩) hg hdb he hpl
end
section
variable {P : Program} {w : World} {K : PySem.W.Frag} {mg : Str → Option Value} {base : Heap}
abbrev DSm (K : PySem.W.Frag) (mg : Str → Option Value) : Prop := Dfn K mg "_law_some_marks" (topS 56) ["_law_feed_here", "_law_grid_here", "_law_tree_here"]
theorem cal_sm (g : GC K mg) (D : LD2 K mg) (D1 : DCa K mg) (D2 : DSm K mg) : C8.Cal P w K mg base 4 "_law_some_marks" (sp3 rF rG rT (fun _ gr sh => Gr gr.1 gr.2 ∧ Sh gr.1 sh) fun _ _ sh => (rW rT (Mk sh.length)).r ()) [] := by
  refine D2.cal scSm (fun vs H Q E ⟨x, y, z, v, u, t, B, e, _⟩ => by rw [e]; rfl) fun f cdv A outer s H vs Q E hr ⟨_, ⟨wd, rows⟩, sh, v, u, t, B, e, i, r, r2, r3, ⟨gr, hp⟩, q⟩ => ?_
  subst e
  have gr : Gr wd rows := gr
  have hp : Sh wd sh := hp
  have hu := hu_of hr
  have hlen := hp.len
  have hpos := hp.pos
  have hrl := gr.n
  have hr4 := Gr.len4 gr
  have hfew : (labs rows).length ≤ 3 := gr.few
  have hlab : ∀ c ∈ labs rows, c ∈ abc := fun c hc => gr.labs_abc hc
  have q63 : [63] = [63] := rfl
  refine wp_set 3 i (P := (rW (rL (rL rT)) (IsCans wd rows sh)).r ()) (g_call3 (ρ := rG) (x := (wd, rows)) (cal_can g D D1) hr (by decide) (gv 1 r2) (gv 2 r3) (g_repS (k := 63) (n := sh.length) (ge_is g_str (by decide)) (GE.n (g_lenS g.bi.len (gv 2 (ρ := rT) r3) (by omega))) (by omega)) ⟨gr, hp, rfl⟩) (fun vc B1 H1 f1 rc => ?_) scSm.nd
  obtain ⟨cs, hcs, rc⟩ := rc
  refine wp_set 4 f1.i (g_call2 (cal_ki g D.ki) hr (by decide) (g_fst (gv 1 (rG.ex f1.b r2)) g_int) (gv 2 r3) hp) (fun vk B2 H2 f2 rk => ?_) scSm.nd
  have rk : (rL (rL rN)).r (kd wd sh) vk B2 := rk
  have F := f1.trans f2
  refine wp_set 5 F.i (g_call1 (ρ := rG) (x := (wd, rows)) (cal_wy g D.a.let' D.or' D.wy) hr (by decide) (gv 1 (rG.ex F.b r2)) gr) (fun vw B3 H3 f3 rw3 => ?_) scSm.nd
  have rw3 : (rD (rL rT)).r (wys (labs rows) rows) vw B3 := rw3
  have F := F.trans f3
  refine wp_setLcM 6 (own := [("_law_sign", 13)]) (jt := 13) (ρ := rT) (τ := rT) F.i (fun _ => true) (fun _ => [63]) (gi_str (gv 2 r3)) (by rw [len_sg]; omega) (fun a va B4 ha x4 ra s0 H0 C cl fp => ⟨ts_nil, fun _ => ge_is g_str (y := [63]) (by decide)⟩) (fun l ws B4 H4 m4 pr4 => ?_) rfl scSm.nd (by apply blkOk_by; change blkC nmSm (defScope (topS 56)) _ _ = true; decide +kernel) (fun _ _ _ _ _ => pg_name (i := 13) scSm.nd rfl (.inl rfl)) (by rfl)
  have ew : ws = (sg (List.replicate sh.length 63)).map tx := by
    rw [rT_list pr4, filt, map_const, len_sg]
    unfold sg
    rw [List.map_replicate (f := fun c => [c])]
  subst ew
  have mm := One.from F m4
  refine wp_set 7 mm.F.i (g_call1 (ρ := rG) (x := (wd, rows)) (cal_let g D.a.let') hr (by decide) (gv 1 (rG.ex mm.F.b r2)) ⟨hrl, fun l hl => (hr4 l hl).2⟩) (fun vl B5 H5 f5 rl => ?_) scSm.nd
  have rl : (rL rT).r (sg (labs rows)) vl B5 := rl
  have mm := mm.step f5
  refine wp_set 8 mm.F.i (g_addE (fun k => 1 ≤ k ∧ k ≤ 5) (GE.we (Pp := fun k => k = 1) g_int rfl) (g_call2 (P := (rWI fun k => 0 ≤ k ∧ k < ((5 : Nat) : Int)).r ()) (cal_draw g D.a.dr) hr (by decide) (gv 0 (rF.ex mm.F.b r)) (ge_nat (n := 5) g_int rfl) ⟨by decide, by decide⟩) (fun i j h1 h2 => by omega)) (fun vs6 B6 H6 f6 r6 => ?_) scSm.nd
  obtain ⟨k6, hk6, r6⟩ := r6
  obtain ⟨shr, rfl⟩ : ∃ n : Nat, k6 = (n : Int) := ⟨k6.toNat, by omega⟩
  have rsh : ∀ B', rN.r shr vs6 B' := fun _ => r6
  have mm := mm.step f6
  have x6 : Ex B2 B6 := ((f3.b.trans m4.F.b).trans f5.b).trans f6.b
  have rc := (rL (rL rT)).ex (f2.b.trans x6) rc
  have rk := (rL (rL rN)).ex x6 rk
  have rw6 := (rD (rL rT)).ex ((m4.F.b.trans f5.b).trans f6.b) rw3
  have rl := (rL rT).ex f6.b rl
  have h0c : cs[0]? = some (cs.getD 0 []) := getD_at (by rw [hcs.1]; exact hpos)
  have dat0 : ∀ q, q < sh.length → ∀ l ∈ cs.getD q [], Dat rT l := fun q hq l hl => by
    obtain ⟨c, hc, e, _⟩ := can_mem hcs hq hl
    subst e
    exact dat_abc fun d hd => by
      rw [List.mem_singleton] at hd
      rw [hd]
      exact MF.abc_small c (hlab c hc)
  have hc0l : (cs.getD 0 []).length ≤ 3 := by
    rw [hcs.2 0 hpos]
    refine Nat.le_trans (List.length_filter_le ..) ?_
    rw [len_sg]
    exact hfew
  refine wp_cut (fun σ2 H7 => ∃ (B7 : Hp) (ss : List Nat) (a1 a2 a3 a4 : Option V), σ2 = [some v, some u, some t, some vc, some vk, some vw, some (.ref l), some vl, some vs6, a1, a2, a3, a4, none] ∧ Ex B6 B7 ∧ One B H l (.lst ((sg ss).map tx)) B7 H7 ∧ ss.length = sh.length ∧ ∀ c ∈ ss, c ∈ abc ∨ c = 63) ?_ ?_
  · refine ws_if mm.F.i (t_cmp (op_neD (hu64 hr)) (g_ixL (gv 3 rc) g_int h0c) (g_nil (ρ := rT)) (rb_neNil fun l hl => dat0 0 hpos l hl)) (fun z B7 H7 f7 => ?_) (fun z B7 H7 f7 => ?_)
    · have hne0 : 0 < (cs.getD 0 []).length := by
        cases h : cs.getD 0 [] with
        | nil => rw [h] at z; cases z
        | cons x y => simp
      have m7 := mm.step f7
      refine wp_setix (ρ := rW rT (· ∈ cs.getD 0 [])) (x := ()) (n := 0) m7.F.i (g_call2 (cal_pick (ρ := rT) g D.a.dr D.a.pick) hr (by decide) (gv 0 (rF.ex m7.F.b r)) (g_ixL (gv 3 ((rL (rL rT)).ex f7.b rc)) g_int h0c) ⟨hne0, by omega⟩) (gvv 6) g_int m7.h (by rw [List.length_map, len_sg, List.length_replicate]; omega) (fun w8 B8 H8 f8 r8 h8 => ?_)
      obtain ⟨l8, hl8, r8⟩ := r8
      obtain ⟨c8, hc8, e8, _⟩ := can_mem hcs hpos hl8
      subst e8
      have r8 : w8 = tx [c8] := r8
      subst r8
      have m8 := (m7.step f8).put (o' := .lst (((sg (List.replicate sh.length 63)).map tx).set 0 (tx [c8]))) nf_lst
      rw [set_sg] at m8 ⊢
      have x8 := f7.b.trans f8.b
      refine wp_for (ρ := rN) (xs := List.range sh.length) (fun pre σ' Bj Hj => ∃ (a1 a2 a3 a4 : Option V) (ss : List Nat), σ' = [some v, some u, some t, some vc, some vk, some vw, some (.ref l), some vl, some vs6, a1, a2, a3, a4, none] ∧ One B H l (.lst ((sg ss).map tx)) Bj Hj ∧ ss.length = sh.length ∧ (∀ c ∈ ss, c ∈ abc ∨ c = 63) ∧ ∀ q, q < sh.length → (q = 0 ∨ ∃ p, p < pre.length ∧ q ∈ kdf wd sh p) → [ss.getD q 0] ∈ cs.getD q []) m8.F.i (gi_range (n := sh.length) g.bi.range (GE.n (g_lenS g.bi.len (gv 2 (ρ := rT) r3) (by omega))) (by omega)) (pg_name (i := 9) scSm.nd rfl (.inr rfl)) (fun B9 H9 f9 => ⟨none, none, none, none, _, rfl, m8.step f9, by rw [List.length_set, List.length_replicate], fun c hc => ?_, fun q hq hv => ?_⟩) (fun pre a post v' σ' Bj H9 Bb H10 hx x9 x10 ⟨a1, a2, a3, a4, ss, e, mj, hsl, hsa, hsv⟩ f10 r10 => ?_) (fun σ' B9 H9 x9 x10 ⟨a1, a2, a3, a4, ss, e, mj, hsl, hsa, hsv⟩ => ?_) rfl (hgm := gm_name)
      · rcases mem_set' hc with rfl | hc
        · exact .inl (hlab _ hc8)
        · exact .inr (List.eq_of_mem_replicate hc)
      · rcases hv with rfl | ⟨p, hp', _⟩
        · rw [getD_setN, if_pos ⟨rfl, by rw [List.length_replicate]; exact hpos⟩]
          exact hl8
        · exact absurd hp' (Nat.not_lt_zero _)
      · subst e
        obtain ⟨ea, hpl⟩ := range_at hx
        have hap : a < sh.length := by omega
        have mb := mj.step f10
        have xb := (x8.trans x9).trans f10.b
        have rcb := (rL (rL rT)).ex xb rc
        have rkb := (rL (rL rN)).ex xb rk
        have rwb := (rD (rL rT)).ex xb rw6
        have hki : (kd wd sh)[a]? = some (kdf wd sh a) := getD_at (by rw [hp.klen]; exact hap)
        obtain ⟨hk1, hk2⟩ := hp.kidsL a
        have hk3 : (kdf wd sh a).length ≤ 3 := by
          rcases hk2 with h | h
          · rw [h]; simp
          · rw [h]; rcases hp.w23 with h | h <;> omega
        have hva := hsv a hap (by
          rcases hp.every a hap with h | ⟨p, h1, h2⟩
          · exact .inl h
          · exact .inr ⟨p, by omega, h2⟩)
        obtain ⟨c, hc, ec, hcw⟩ := can_mem hcs hap hva
        have hca : ss.getD a 0 = c := List.head_eq_of_cons_eq ec
        have hsi : (sg ss)[a]? = some [c] := by
          unfold sg
          rw [List.getElem?_map, getD_at (d := 0) (show a < ss.length by omega), hca]
          rfl
        have rss : (rL rT).r (sg ss) (.ref l) (upd Bb l (.lst ((sg ss).map tx))) := lT.mpr ⟨l, rfl, upd_same⟩
        have hwmax : (wayL rows c).length ≤ 66 := by
          have h1 := MF.wayL_max gr c
          have h2 : MF.wMax wd ≤ 66 := by unfold MF.wMax; split <;> omega
          omega
        have xu := mb.up
        -- suits
        refine wp_setLcM 10 (own := [("_law_way", 11)]) (jt := 11) (ρ := rT) (τ := rT) (xs := wayL rows c) mb.fin.i (fun t => !(kdf wd sh a).isEmpty && fitV ((kdf wd sh a).map fun j => cs.getD j []) t) (fun t => t) (gi_list (g_dget hu (gv 5 ((rD (rL rT)).ex xu rwb)) (g_ixL (ρ := rT) (gv 6 rss) (gv 9 (ρ := rI) (x := (a : Int)) r10) hsi) (wy_look hc))) (by omega) (fun y vy B11 hy x11 ry s0 H0 C cl fp => ⟨ts_one (t_and (t_cmp (op_neD (hu64 hr)) (g_ixL (gv 4 ((rL (rL rN)).ex (xu.trans x11) rkb)) (gv 9 (ρ := rI) (x := (a : Int)) r10) hki) (g_nil (ρ := rN)) (rb_neNil fun x _ => dat_N)) fun hne => t_val (g_call3 (cal_fi g D.fi) hr (by decide) (gv 3 ((rL (rL rT)).ex (xu.trans x11) rcb)) (g_ixL (gv 4 ((rL (rL rN)).ex (xu.trans x11) rkb)) (gv 9 (ρ := rI) (x := (a : Int)) r10) hki) (gv 11 ry) ⟨by omega, ?hkw, by rw [wy_len gr y hy]; rcases hp.w23 with h | h <;> omega, fun j hj => by have := (hk1 j hj).2; have := hcs.1; show j < cs.length; omega⟩ (fun _ _ h => h))), fun _ => gv 11 ry⟩) (fun qs wsu B11 H11 m11 pr11 => ?_) rfl scSm.nd (by apply blkOk_by; change blkC nmSm (defScope (topS 56)) _ _ = true; decide +kernel) (fun _ _ _ _ _ => pg_name (i := 11) scSm.nd rfl (.inl rfl)) (by rfl)
        case hkw =>
          rw [wy_len gr y hy]
          rcases hk2 with h | h
          · rw [h]; simp
          · omega
        rw [List.map_id'] at pr11
        obtain ⟨neq, mA, xA⟩ := mb.unAdd m11
        generalize hSu : ((wayL rows c).filter fun t => !(kdf wd sh a).isEmpty && fitV ((kdf wd sh a).map fun j => cs.getD j []) t) = Su at pr11
        have hSm : ∀ y ∈ Su, y ∈ wayL rows c ∧ kdf wd sh a ≠ [] ∧ fitV ((kdf wd sh a).map fun j => cs.getD j []) y = true := fun y hy => by
          rw [← hSu] at hy
          obtain ⟨h1, h2⟩ := List.mem_filter.mp hy
          obtain ⟨h3, h4⟩ := Bool.and_eq_true_iff.mp h2
          refine ⟨h1, fun e => ?_, h4⟩
          rw [e] at h3
          cases h3
        have hSl : Su.length ≤ 66 := by
          rw [← hSu]
          exact Nat.le_trans (List.length_filter_le ..) hwmax
        have rsu : (rL rT).r Su (.ref qs) (upd (del B11 l) qs (.lst wsu)) := by
          refine ⟨qs, wsu, rfl, upd_same, pmap pr11 fun x v r => ?_⟩
          exact r
        have xq := xb.trans xA
        -- way
        refine wp_set 11 mA.F.i (P := (rW rT fun y => (kdf wd sh a = [] ∧ y = []) ∨ y ∈ Su).r ()) (g_if (t_cmp (op_neD (hu64 hr)) (gv 10 rsu) (g_nil (ρ := rT)) (rb_neNil fun y hy => dat_abc fun d hd => MF.abc_small d (hlab d ((gr.top (MF.mem_wayL.mp (hSm y hy).1)).2 d hd)))) (fun z => ge_wmono (g_call2 (cal_pick (ρ := rT) g D.a.dr D.a.pick) hr (by decide) (gv 0 (rF.ex mA.F.b r)) (gv 10 rsu) ⟨?hpos, by omega⟩) fun y hy => .inr hy) (fun z => GE.we (ge_is g_str (y := []) (by decide)) (.inl ⟨?hemp, rfl⟩))) (fun vy B12 H12 f12 ry => ?_) scSm.nd
        case hpos =>
          cases Su with
          | nil => cases z
          | cons x y => simp
        case hemp =>
          refine Decidable.byContradiction fun hne => ?_
          obtain ⟨t', ht1, ht2⟩ := hcw hne
          have : t' ∈ Su := by
            rw [← hSu]
            refine List.mem_filter.mpr ⟨ht1, Bool.and_eq_true_iff.mpr ⟨?_, ht2⟩⟩
            cases h : kdf wd sh a with
            | nil => exact absurd h hne
            | cons x y => rfl
          cases Su with
          | nil => cases this
          | cons x y => cases z
        obtain ⟨y, hy, ry⟩ := ry
        have ry : ∀ B', rT.r y vy B' := fun _ => ry
        have m12 := mA.step f12
        have xr := xq.trans f12.b
        have hyl : y.length = (kdf wd sh a).length ∧ (kdf wd sh a ≠ [] → fitV ((kdf wd sh a).map fun j => cs.getD j []) y = true) ∧ ∀ d ∈ y, d ∈ abc := by
          rcases hy with ⟨h1, rfl⟩ | hy
          · exact ⟨by rw [h1], fun h => absurd h1 h, fun d hd => nomatch hd⟩
          · obtain ⟨h1, h2, h3⟩ := hSm y hy
            exact ⟨by rw [wy_len gr y h1, hk2.resolve_left h2], fun _ => h3, fun d hd => hlab d ((gr.top (MF.mem_wayL.mp h1)).2 d hd)⟩
        have hkn := hp.kn a
        refine wp_for (ρ := rN) (xs := List.range y.length) (fun pre2 σ' Bj Hj => ∃ (a4 : Option V) (s2 : List Nat), σ' = [some v, some u, some t, some vc, some vk, some vw, some (.ref l), some vl, some vs6, some v', some (.ref qs), some vy, a4, none] ∧ One B H l (.lst ((sg s2).map tx)) Bj Hj ∧ s2.length = sh.length ∧ (∀ c ∈ s2, c ∈ abc ∨ c = 63) ∧ (∀ q, q ∉ kdf wd sh a → s2.getD q 0 = ss.getD q 0) ∧ ∀ j, j < pre2.length → ∀ k, (kdf wd sh a)[j]? = some k → s2.getD k 0 = y.getD j 0) m12.F.i (gi_range (n := y.length) g.bi.range (GE.n (g_lenS g.bi.len (gv 11 (ry B12)) (by omega))) (by omega)) (pg_name (i := 12) scSm.nd rfl (.inl rfl)) (fun B13 H13 f13 => ⟨_, ss, rfl, m12.step f13, hsl, hsa, fun q _ => rfl, fun j hj => absurd hj (Nat.not_lt_zero _)⟩) (fun pre2 b post2 v2 σ2 Bj2 H13 Bb2 H14 hx2 x13 x14 ⟨b4, s2, e, m2, h2l, h2a, h2o, h2d⟩ f14 r14 => ?_) (fun σ2 B13 H13 x13 x14 ⟨b4, s2, e, m2, h2l, h2a, h2o, h2d⟩ => ?_) rfl (hgm := gm_name)
        · subst e
          obtain ⟨eb, hpl2⟩ := range_at hx2
          have hbk : b < (kdf wd sh a).length := by omega
          obtain ⟨kk, hkk⟩ : ∃ kk, (kdf wd sh a)[b]? = some kk := ⟨_, List.getElem?_eq_getElem hbk⟩
          have hkm : kk ∈ kdf wd sh a := List.mem_of_getElem? hkk
          obtain ⟨_, hkk2⟩ := hk1 kk hkm
          have m14 := m2.step f14
          have xs14 := (xr.trans x13).trans f14.b
          have hyb : y[b]? = some (y.getD b 0) := getD_at (by omega)
          refine wp_setix (ρ := rT) (x := [y.getD b 0]) (n := kk) m14.F.i (g_ixS (gv 11 (ry Bb2)) (gv 12 (ρ := rI) (x := (b : Int)) r14) hyb (by omega)) (gvv 6) (GE.n (g_ixL (ρ := rN) (g_ixL (gv 4 ((rL (rL rN)).ex (xs14) rk)) (gv 9 (ρ := rI) (x := (a : Int)) r10) hki) (gv 12 (ρ := rI) (x := (b : Int)) r14) hkk)) m14.h (by rw [List.length_map, len_sg]; omega) (fun w15 B15 H15 f15 r15 h15 => ?_)
          have r15 : w15 = tx [y.getD b 0] := r15
          subst r15
          have m15 := (m14.step f15).put (o' := .lst (((sg s2).map tx).set kk (tx [y.getD b 0]))) nf_lst
          rw [set_sg] at m15 ⊢
          refine wp_nil ⟨B15, f15.b, m15.F.i, _, _, rfl, m15, by rw [List.length_set]; exact h2l, fun d hd => ?_, fun q hq => ?_, fun j hj k hjk => ?_⟩
          · rcases mem_set' hd with rfl | hd
            · exact .inl (hyl.2.2 _ (List.mem_of_getElem? hyb))
            · exact h2a d hd
          · rw [getD_setN, if_neg fun (z : kk = q ∧ kk < s2.length) => hq (z.1 ▸ hkm)]
            exact h2o q hq
          · rw [List.length_append, List.length_singleton] at hj
            rw [getD_setN]
            by_cases ej : j = b
            · subst ej
              rw [hkk] at hjk
              cases hjk
              rw [if_pos ⟨rfl, by omega⟩]
            · rw [if_neg fun (z : kk = k ∧ kk < s2.length) => ej ?_]
              · exact h2d j (by omega) k hjk
              · have hj1 := (List.getElem?_eq_some_iff.mp hjk).1
                refine (List.getElem?_inj hj1 hkn).mp (hjk.trans ?_)
                rw [← z.1]
                exact hkk.symm
        · subst e
          refine wp_nil ⟨B13, ((xA.trans f12.b).trans x13), m2.F.i, _, _, _, _, s2, rfl, m2, h2l, h2a, fun q hq hv => ?_⟩
          by_cases hqk : q ∈ kdf wd sh a
          · obtain ⟨j, hj, e⟩ := List.getElem_of_mem hqk
            have hjq : (kdf wd sh a)[j]? = some q := by rw [List.getElem?_eq_getElem hj, e]
            have hne : kdf wd sh a ≠ [] := fun e => by rw [e] at hqk; cases hqk
            rw [h2d j (by rw [List.length_range]; omega) q hjq]
            have h1 := fitV_get (hyl.2.1 hne) j (by rw [List.length_map]; exact hj)
            have h2 : ((kdf wd sh a).map fun j => cs.getD j []).getD j [] = cs.getD q [] := by
              rw [List.getD_eq_getElem?_getD, List.getElem?_map, hjq]
              rfl
            rw [h2] at h1
            exact h1
          · rw [h2o q hqk]
            refine hsv q hq ?_
            rcases hv with h | ⟨p, h1, h2⟩
            · exact .inl h
            · rw [List.length_append, List.length_singleton] at h1
              by_cases e : p = a
              · subst e
                exact absurd h2 hqk
              · exact .inr ⟨p, by omega, h2⟩
      · subst e
        exact wp_nil ⟨B9, ss, _, _, _, _, rfl, x8.trans x9, mj, hsl, hsa⟩
    · exact wp_nil ⟨B7, _, none, none, none, none, rfl, f7.b, mm.step f7, List.length_replicate, fun c hc => .inr (List.eq_of_mem_replicate hc)⟩
  · rintro σ2 H7 ⟨B7, ss, a1, a2, a3, a4, rfl, x7, m7, hsl, hsa⟩
    refine wp_for (ρ := rN) (xs := List.range sh.length) (fun pre σ' Bj Hj => ∃ (a1 : Option V) (ss : List Nat), σ' = [some v, some u, some t, some vc, some vk, some vw, some (.ref l), some vl, some vs6, a1, a2, a3, a4, none] ∧ One B H l (.lst ((sg ss).map tx)) Bj Hj ∧ ss.length = sh.length ∧ ∀ c ∈ ss, c ∈ abc ∨ c = 63) m7.F.i (gi_range (n := sh.length) g.bi.range (GE.n (g_lenS g.bi.len (gv 2 (ρ := rT) r3) (by omega))) (by omega)) (pg_name (i := 9) scSm.nd rfl (.inr rfl)) (fun B9 H9 f9 => ⟨_, ss, rfl, m7.step f9, hsl, hsa⟩) (fun pre a post v' σ' Bj H9 Bb H10 hx x9 x10 ⟨b1, ss, e, mj, hsl, hsa⟩ f10 r10 => ?_) (fun σ' B9 H9 x9 x10 ⟨b1, ss, e, mj, hsl, hsa⟩ => ?_) rfl (hgm := gm_name)
    · subst e
      obtain ⟨ea, hpl⟩ := range_at hx
      have hap : a < sh.length := by omega
      have mb := mj.step f10
      have xb := (x7.trans x9).trans f10.b
      refine wp_cut (fun σ2 H11 => ∃ (B11 : Hp) (s2 : List Nat), σ2 = [some v, some u, some t, some vc, some vk, some vw, some (.ref l), some vl, some vs6, some v', a2, a3, a4, none] ∧ Ex Bb B11 ∧ One B H l (.lst ((sg s2).map tx)) B11 H11 ∧ s2.length = sh.length ∧ ∀ c ∈ s2, c ∈ abc ∨ c = 63) ?_ ?_
      · refine ws_ifE mb.F.i (t_orE (t_cmp (op_eqD (hu64 hr)) (g_ixL (gv 3 ((rL (rL rT)).ex xb rc)) g_int h0c) (g_nil (ρ := rT)) (rb_eqNil fun l hl => dat0 0 hpos l hl)) fun _ => t_eqE (Pa := fun k => 0 ≤ k ∧ k < ((6 : Nat) : Int)) (g_call2 (cal_draw g D.a.dr) hr (by decide) (gv 0 (rF.ex mb.F.b r)) (ge_nat (n := 6) g_int rfl) ⟨by decide, by decide⟩) (GE.we (Pp := fun _ => True) g_int trivial)) (fun _ B11 H11 f11 => ?_) (fun _ B11 H11 f11 => ?_)
        · have m11 := mb.step f11
          have rl11 := (rL rT).ex (xb.trans f11.b) rl
          have hL0 : 0 < (sg (labs rows)).length := by
            rw [len_sg]
            obtain ⟨x, hx⟩ := List.exists_mem_of_ne_nil _ gr.pos
            obtain ⟨c, t, rfl, _⟩ := gr.row hx
            exact List.length_pos_of_mem (MF.mem_labs.mpr ⟨_, hx, List.mem_cons_self ..⟩)
          refine wp_setix (ρ := rW rT fun l => ∃ c, l = [c] ∧ c ∈ abc) (x := ()) (n := a) m11.F.i (g_call2F (Pp := fun xs => 0 < xs.length ∧ xs.length ≤ 4 ∧ ∀ l ∈ xs, ∃ c, l = [c] ∧ c ∈ abc) (cal_pick (ρ := rT) g D.a.dr D.a.pick) hr (by decide) (gv 0 (rF.ex m11.F.b r)) (g_ifE (t_eqE (Pa := fun k => 0 ≤ k ∧ k < ((9 : Nat) : Int)) (g_call2 (cal_draw g D.a.dr) hr (by decide) (gv 0 (rF.ex m11.F.b r)) (ge_nat (n := 9) g_int rfl) ⟨by decide, by decide⟩) (GE.we (Pp := fun _ => True) g_int trivial)) (fun _ => GE.we (g_catL (gv 7 rl11) (g_lst1 (ρ := rT) (ge_is g_str (y := [113]) (by decide))) (by rw [len_sg]; simp; omega)) ⟨by rw [List.length_append]; omega, by rw [List.length_append, len_sg]; simp; omega, fun l hl => ?hm1⟩) (fun _ => GE.we (gv 7 rl11) ⟨hL0, by rw [len_sg]; omega, fun l hl => ?hm2⟩)) (fun ys hy => ⟨hy.1, by have := hy.2.1; omega⟩) (fun ys v H hy ⟨l, hl, rl⟩ => ⟨l, hy.2.2 l hl, rl⟩)) (gvv 6) (gv 9 (ρ := rI) (x := (a : Int)) r10) m11.h (by rw [List.length_map, len_sg]; omega) (fun w12 B12 H12 f12 r12 h12 => ?_)
          case hm1 =>
            rcases List.mem_append.mp hl with hl | hl
            · obtain ⟨c, hc, rfl⟩ := List.mem_map.mp hl
              exact ⟨c, rfl, hlab c hc⟩
            · rw [List.mem_singleton] at hl
              exact ⟨113, hl, by decide⟩
          case hm2 =>
            obtain ⟨c, hc, rfl⟩ := List.mem_map.mp hl
            exact ⟨c, rfl, hlab c hc⟩
          obtain ⟨l12, ⟨c12, e12, hc12⟩, r12⟩ := r12
          subst e12
          have r12 : w12 = tx [c12] := r12
          subst r12
          have m12 := (m11.step f12).put (o' := .lst (((sg ss).map tx).set a (tx [c12]))) nf_lst
          rw [set_sg] at m12 ⊢
          refine wp_nil ⟨B12, _, rfl, f11.b.trans f12.b, m12, by rw [List.length_set]; exact hsl, fun d hd => ?_⟩
          rcases mem_set' hd with rfl | hd
          · exact .inl hc12
          · exact hsa d hd
        · exact wp_nil ⟨B11, ss, rfl, f11.b, mb.step f11, hsl, hsa⟩
      · rintro σ3 H11 ⟨B11, s2, rfl, x11, m11, h2l, h2a⟩
        refine wp_ifE m11.F.i (t_gtE (Pa := fun k => 0 ≤ k ∧ k < (shr : Int)) (g_call2 (cal_draw g D.a.dr) hr (by decide) (gv 0 (rF.ex m11.F.b r)) (gv 8 (rsh B11)) ⟨by omega, by omega⟩) (GE.we (Pp := fun _ => True) g_int trivial)) (fun _ B12 H12 f12 => ?_) (fun _ B12 H12 f12 => ?_)
        · have m12 := m11.step f12
          refine wp_setix (ρ := rT) (x := [63]) (n := a) m12.F.i (ge_is g_str (by decide)) (gvv 6) (gv 9 (ρ := rI) (x := (a : Int)) r10) m12.h (by rw [List.length_map, len_sg]; omega) (fun w13 B13 H13 f13 r13 h13 => ?_)
          have r13 : w13 = tx [63] := r13
          subst r13
          have m13 := (m12.step f13).put (o' := .lst (((sg s2).map tx).set a (tx [63]))) nf_lst
          rw [set_sg] at m13 ⊢
          refine wp_nil (wp_nil ⟨B13, (x11.trans f12.b).trans f13.b, m13.F.i, _, _, rfl, m13, by rw [List.length_set]; exact h2l, fun d hd => ?_⟩)
          rcases mem_set' hd with rfl | hd
          · exact .inr rfl
          · exact h2a d hd
        · exact wp_nil (wp_nil ⟨B12, x11.trans f12.b, (m11.step f12).F.i, _, _, rfl, m11.step f12, h2l, h2a⟩)
    · subst e
      refine wp_ret mj.fin.i (g_join (gv 6 (ρ := rL rT) (lT.mpr ⟨l, rfl, upd_same⟩)) (by rw [sum_sg]; omega)) fun v5 B10 H10 f10 r10 => q v5 B10 H10 (mj.fin.trans f10) ⟨ss, ⟨hsl, hsa⟩, ?_⟩
      have r10 : v5 = tx (sg ss).flatten := r10
      rw [flat_sg] at r10
      exact r10
end
end KD
end
section
set_option Elab.async false
set_option linter.all false
set_option maxRecDepth 100000
set_option maxHeartbeats 4000000
/-! LE12: the five functions are told by all right words. -/
namespace KD
open PySem PySem.Spec PyProof.Rows L2 KS MS KB
open SX (S)
open MF (abc Gr labs Sh Mk apart agree frc Ev)
abbrev nmEv : List Str := ["_law_grid_here", "_law_tree_here", "_law_signs", "_law_every", "_law_rows", "_law_due", "_law_far", "_law_heard", "_law_row_here"]
theorem scEv : FnScope nmEv ["_law_grid_here", "_law_tree_here", "_law_signs", "_law_every"] (defScope (topS 60)) := ⟨rfl, rfl, rfl, by decide +kernel, rfl, by decide +kernel, by decide +kernel⟩
theorem ltI_cast (a b : Nat) : ltI (a : Int) (b : Int) = ltN a b := by
  unfold ltI ltN
  exact decide_eq_decide.mpr (by omega)
theorem insU_cast (c : Nat) : ∀ l : List Nat, insU ltI (c : Int) (l.map fun (n : Nat) => (n : Int)) = (insU ltN c l).map fun (n : Nat) => (n : Int)
  | [] => rfl
  | d :: l => by
    rw [List.map_cons]
    unfold insU
    rw [ltI_cast, ltI_cast]
    split
    · rfl
    · split
      · rw [insU_cast c l]
        rfl
      · rfl
theorem usort_cast : ∀ l : List Nat, usort ltI (l.map fun (n : Nat) => (n : Int)) = (usort ltN l).map fun (n : Nat) => (n : Int)
  | [] => rfl
  | c :: l => by
    show insU ltI (c : Int) (usort ltI (l.map fun (n : Nat) => (n : Int))) = _
    rw [usort_cast l, insU_cast]
    rfl
theorem rN_of_I {ls : List Nat} {v : V} {H : Hp} (h : (rL rI).r (ls.map fun (n : Nat) => (n : Int)) v H) : (rL rN).r ls v H := by
  obtain ⟨a, e, h1⟩ := lI.mp h
  exact lNn.mpr ⟨a, e, by rw [h1, List.map_map]; rfl⟩
theorem headD_getD (x : List Nat) : x.getD 0 0 = x.headD 0 := by cases x <;> rfl
theorem heads_sg (As : List (List Nat)) : (As.map fun x => [x.getD 0 0]) = sg (As.map fun x => x.headD 0) := by
  unfold sg
  rw [List.map_map]
  exact List.map_congr_left fun x _ => by rw [headD_getD]; rfl
section
variable {P : Program} {w : World} {K : PySem.W.Frag} {mg : Str → Option Value} {base : Heap}
/-- the package's defs, all -/
structure PD2 (K : PySem.W.Frag) (mg : Str → Option Value) : Prop where
  d : PD K mg
  tb : DTB K mg
  fil : DFil K mg
  ways : DWays K mg
  cnt : DCnt K mg
  fo : DFor K mg
  cb : DCB K mg
  ca : DCA K mg
  lc : DLC K mg
abbrev DEv (K : PySem.W.Frag) (mg : Str → Option Value) : Prop := Dfn K mg "_law_is_even" (topS 60) ["_law_grid_here", "_law_tree_here", "_law_signs", "_law_every"]
theorem cal_ev (D : PD2 K mg) (D1 : DFc K mg) (D2 : DAp K mg) (D3 : DEv K mg) : CalG P w K mg base 6 "_law_is_even" (sp4 rG rT rT (rL rT) (fun gr sh m ev => Giv gr sh m ∧ Ev gr.1 gr.2 sh ev ∧ ev.length ≤ 2187) fun _ _ _ _ => rB.r true) := by
  refine D3.calG scEv (fun vs H Q E ⟨x, y, z, w', v, u, t, s, B, e, _⟩ => by rw [e]; rfl) fun f cdv A outer s H vs Q E hr hgd ⟨⟨wd, rows⟩, sh, m, ev, v, u, t, z, B, e, i, r, r2, r3, r4, ⟨⟨gr, hp, hm⟩, he, hel⟩, q⟩ => ?_
  subst e
  have g := D.d.g
  have gr : Gr wd rows := gr
  have hp : Sh wd sh := hp
  have he : Ev wd rows sh ev := he
  have hm : Mk sh.length m := hm
  have hgv : Giv (wd, rows) sh m := ⟨gr, hp, hm⟩
  have hml := hm.1
  have hlen := hp.len
  have evl : ∀ x ∈ ev, x.length = sh.length := fun x hx => he.len hp hx
  have eva : ∀ x ∈ ev, ∀ c ∈ x, c ∈ abc := fun x hx => he.abc gr hx
  refine wp_setLcM 4 (own := [("_law_row_here", 8)]) (jt := 8) (ρ := rT) (τ := rT) (xs := ev) i (fun x => decide (apart m x = 0)) (fun x => x) (gi_list (gv 3 r4)) (by omega) (fun y vy B2 hy x2 ry s0 H0 C cl fp => ⟨ts_one (GT.is (t_cmp (ρ := rI) (τ := rI) op_eq (GE.n (g_call2 (cal_ap g D2) hr (by decide) (gv 2 (ρ := rT) r3) (gv 8 (ρ := rT) ry) ⟨by omega, by rw [evl y hy, hml]⟩)) g_int rb_eqI) (decide_eq_decide.mpr (by omega))), fun _ => gv 8 ry⟩) (fun l ws B2 H2 m2 pr2 => ?_) rfl scEv.nd (by apply blkOk_by; change blkC nmEv (defScope (topS 60)) _ _ = true; decide +kernel) (fun _ _ _ _ _ => pg_name (i := 8) scEv.nd rfl (.inl rfl)) (by rfl)
  rw [List.map_id'] at pr2
  obtain ⟨Ag, hAg⟩ : ∃ Ag, Ag = agree m ev := ⟨_, rfl⟩
  have rr : (rL rT).r Ag (.ref l) (upd B2 l (.lst ws)) := ⟨l, ws, rfl, upd_same, by rw [hAg]; exact pmap pr2 fun x v r => rT.ex m2.up r⟩
  have agm : ∀ x ∈ Ag, x ∈ ev := fun x hx => by rw [hAg] at hx; exact (List.mem_filter.mp hx).1
  have agl : Ag.length ≤ 2187 := by
    rw [hAg]
    exact Nat.le_trans (List.length_filter_le ..) hel
  have agd : ∀ x ∈ Ag, Dat rT x := fun x hx => dat_abc fun c hc => MF.abc_small c (eva x (agm x hx) c hc)
  have F := m2.fin
  generalize hB3 : upd B2 l (.lst ws) = B3 at rr F
  obtain ⟨T, hT⟩ : ∃ T, T = usort ltN (Ag.map fun x => x.headD 0) := ⟨_, rfl⟩
  have hTl : (usort ltN (Ag.map fun x => x.headD 0)).length ≤ 3 := by
    refine Nat.le_trans ((asc_nd stoN (asc_usort stoN _)).length_le_of_subset (l₂ := labs rows) fun c hc => ?_) gr.few
    obtain ⟨x, hx, rfl⟩ := List.mem_map.mp ((mem_usort stoN).mp hc)
    obtain ⟨d, hd⟩ := (he.mem x).mp (agm x hx)
    have hok := MF.fw_ok (g := fun c => c ∈ labs rows) (fun _ _ z => z) _ hd
    have hl := evl x (agm x hx)
    cases x with
    | nil => have := hp.pos; simp at hl; omega
    | cons y r => exact hok y (List.mem_cons_self ..)
  have hTa : ∀ c ∈ T, c < 1000 := fun c hc => by
    rw [hT] at hc
    obtain ⟨x, hx, rfl⟩ := List.mem_map.mp ((mem_usort stoN).mp hc)
    have hl := evl x (agm x hx)
    cases x with
    | nil => have := hp.pos; simp at hl; omega
    | cons y r => exact MF.abc_small _ (eva _ (agm _ hx) y (List.mem_cons_self ..))
  have hflat : ∀ ls : List (List Nat), (∀ l ∈ ls, l.length ≤ 1) → ls.length ≤ 4000 → (ls.map (·.length)).sum ≤ 100000 := fun ls h1 h2 => by
    have := MF.sum_le (f := fun l : List Nat => l.length) h1
    omega
  -- due
  refine wp_setLstM 5 (ρ := rWd) (xs := [.t T, wdT Ag.head?, .i Ag.length]) F.i (gaL_cons (ge_wt (ge_is (g_join (ge_is (g_sortSetT rfl g.bi.sorted g.bi.set (ge_is (g_lc (ρ := rT) (τ := rT) (own := [("_law_row_here", 8)]) (j := 8) (xs := Ag) (fun _ => true) (fun x => [x.getD 0 0]) rfl scEv.nd (by apply blkOk_by; change blkC nmEv (defScope (topS 60)) _ _ = true; decide +kernel) (fun _ _ _ _ _ => pg_name (i := 8) scEv.nd rfl (.inl rfl)) (gi_list (gv 4 rr)) (by omega) fun y vy B4 hy x4 ry s0 H0 C cl fp => ⟨ts_nil, fun _ => g_ixS (i := 0) (gv 8 (ρ := rT) ry) g_int (getD_at (by rw [evl y (agm y hy)]; exact hp.pos)) (by rw [evl y (agm y hy)]; omega)⟩) (y := sg (Ag.map fun x => x.headD 0)) (by rw [filt, heads_sg])) (metS (by rw [len_sg, List.length_map]; omega))) (y := sg (usort ltN (Ag.map fun x => x.headD 0))) (usort_sg _)) (by rw [sum_sg]; omega)) (by rw [flat_sg, hT]))) (gaL_cons (ge_wot (g_if (t_cmp (op_neD (hu64 hr)) (gv 4 rr) (g_nil (ρ := rT)) (rb_neNil agd)) (fun z => ?hsome) (fun z => ?hnone))) (gaL_cons (ge_wn (g_lenL g.bi.len (gv 4 rr))) gaL_nil))) (show 3 ≤ 1000 by decide) (fun qd wsd B4 H4 m4 pr4 => ?_) scEv.nd
  case hsome =>
    cases hA : Ag with
    | nil => rw [hA] at z; cases z
    | cons x y =>
      rw [hA] at rr
      exact GE.some (g_ixL (i := 0) (gv 4 rr) g_int rfl)
  case hnone =>
    cases hA : Ag with
    | nil => exact g_non
    | cons x y => rw [hA] at z; cases z
  have mm := One.from F m4
  have x4 : Ex B3 B4 := m4.F.b
  have rr4 := (rL rT).ex x4 rr
  -- due.append(forced)
  refine wp_app (P := rWd.r (wdT (frc Ag sh.length))) mm.F.i (gvv 5) (ge_wot (g_call2 (cal_fc g D1) hr (by decide) (gv 4 rr4) (g_lenS g.bi.len (gv 1 (ρ := rT) r2) (by omega)) ⟨by omega, hlen, fun x hx => ⟨evl x (agm x hx), eva x (agm x hx)⟩⟩)) mm.h (by rw [← Paired.length pr4]; show 3 < 100000; decide) (fun w5 B5 H5 f5 r5 h5 => ?_)
  have pr5 := p_app (pmap pr4 fun x v r => rWd.ex f5.b r) (.cons r5 .nil : Paired (fun x v => rWd.r x v B5) [wdT (frc Ag sh.length)] [w5])
  have m5 := (mm.step f5).put (o' := .lst (wsd ++ [w5])) nf_lst
  have rr5 := (rL rT).ex f5.b rr4
  -- far
  have r4' : (rL rT).r ev z B5 := (rL rT).ex m5.F.b r4
  refine wp_set 6 m5.F.i (g_sortSetI rfl g.bi.sorted g.bi.set (ge_is (g_lc (ρ := rT) (τ := rI) (own := [("_law_row_here", 8)]) (j := 8) (xs := ev) (fun _ => true) (fun x => ((apart m x : Nat) : Int)) rfl scEv.nd (by apply blkOk_by; change blkC nmEv (defScope (topS 60)) _ _ = true; decide +kernel) (fun _ _ _ _ _ => pg_name (i := 8) scEv.nd rfl (.inl rfl)) (gi_list (gv 3 r4')) (by omega) fun y vy B6 hy x6 ry s0 H0 C cl fp => ⟨ts_nil, fun _ => GE.n (g_call2 (cal_ap g D2) hr (by decide) (gv 2 (ρ := rT) r3) (gv 8 (ρ := rT) ry) ⟨by omega, by rw [evl y hy, hml]⟩)⟩) (y := (ev.map (apart m)).map fun (n : Nat) => (n : Int)) (by rw [filt, List.map_map]; rfl)) (metI (by rw [List.length_map, List.length_map]; omega))) (fun v6 B6 H6 f6 r6 => ?_) scEv.nd
  have r6 : (rL rI).r (usort ltI ((ev.map (apart m)).map fun (n : Nat) => (n : Int))) v6 B6 := r6
  rw [usort_cast] at r6
  have r6 := rN_of_I r6
  obtain ⟨Fa, hFa⟩ : ∃ Fa, Fa = usort ltN (ev.map (apart m)) := ⟨_, rfl⟩
  rw [← hFa] at r6
  have m6 := m5.step f6
  have pr6 := pmap pr5 fun x v r => rWd.ex f6.b r
  -- due.append(least)
  refine wp_app (P := rWd.r (wdN Fa.head?)) m6.F.i (gvv 5) (ge_won (g_if (t_cmp (op_neD (hu64 hr)) (gv 6 r6) (g_nil (ρ := rN)) (rb_neNil fun x _ => dat_N)) (fun z => ?hsome2) (fun z => ?hnone2))) m6.h (by rw [← Paired.length pr6]; show 4 < 100000; decide) (fun w7 B7 H7 f7 r7 h7 => ?_)
  case hsome2 =>
    cases hA : Fa with
    | nil => rw [hA] at z; cases z
    | cons x y =>
      rw [hA] at r6
      exact GE.some (g_ixL (i := 0) (gv 6 r6) g_int rfl)
  case hnone2 =>
    cases hA : Fa with
    | nil => exact g_non
    | cons x y => rw [hA] at z; cases z
  have pr7 := p_app (pmap pr6 fun x v r => rWd.ex f7.b r) (.cons r7 .nil : Paired (fun x v => rWd.r x v B7) [wdN Fa.head?] [w7])
  have m7 := (m6.step f7).put (o' := .lst (wsd ++ [w5] ++ [w7])) nf_lst
  have F7 := m7.fin
  have rd : (rL rWd).r ([.t T, wdT Ag.head?, .i Ag.length] ++ [wdT (frc Ag sh.length)] ++ [wdN Fa.head?]) (.ref qd) (upd B7 qd (.lst (wsd ++ [w5] ++ [w7]))) := ⟨qd, _, rfl, upd_same, pmap pr7 fun x v r => rWd.ex m7.up r⟩
  generalize hB8 : upd B7 qd (.lst (wsd ++ [w5] ++ [w7])) = B8 at rd F7
  -- heard
  have rg8 : rG.r (wd, rows) v B8 := rG.ex F7.b r
  refine wp_set 7 F7.i (g_lstL (ρ := rWd) (xs := [.t T, wdT Ag.head?, .i Ag.length]) (gaL_cons (GE.imp (P := (rW rT fun l => ∃ ls, MF.IsLots wd rows sh m ls ∧ l = ls.getD 0 []).r ()) (g_call3 (x := (wd, rows)) (cal_tb D.d D.tb) hr (by decide) (gv 0 rg8) (gv 1 r2) (gv 2 r3) hgv) fun v9 B9 _ ⟨l9, ⟨ls, hl, e⟩, r9⟩ => ?ht) (gaL_cons (GE.imp (P := (rW (rO rT) (MF.IsFilled wd rows sh m)).r ()) (g_call3 (x := (wd, rows)) (cal_fil D.d D.fil) hr (by decide) (gv 0 rg8) (gv 1 r2) (gv 2 r3) hgv) fun v9 B9 _ ⟨l9, hl, r9⟩ => ?hf) (gaL_cons (GE.imp (P := (rW rN (fun n => ∃ cs, MF.IsCnts wd rows sh m cs ∧ n = ((cs.getD 0 []).map (·.2)).sum)).r ()) (g_call3 (x := (wd, rows)) (cal_cnt D.d D.ways D.cnt) hr (by decide) (gv 0 rg8) (gv 1 r2) (gv 2 r3) hgv) fun v9 B9 _ ⟨l9, ⟨cs, hl, e⟩, r9⟩ => ?hc) gaL_nil))) (show 3 ≤ 1000 by decide)) (fun v9 B9 H9 f9 r9 => ?_) scEv.nd
  case ht =>
    show v9 = wdV (.t T)
    rw [hT, hAg, ← MF.tops_law gr hp hml he hl, ← e]
    exact r9
  case hf =>
    have e := MF.filled_law gr hp hml he hl
    rw [hAg, ← e]
    cases l9 <;> exact r9
  case hc =>
    show v9 = wdV (.i Ag.length)
    rw [hAg, ← MF.count_law gr hp hml he hl, ← e]
    exact r9
  have F9 := F7.trans f9
  have rg9 : rG.r (wd, rows) v B9 := rG.ex f9.b rg8
  refine wp_set 7 F9.i (g_catL (gv 7 r9) (g_lstL (ρ := rWd) (xs := [wdT (frc Ag sh.length), wdN Fa.head?]) (gaL_cons (GE.imp (P := (rW (rO rT) (MF.IsForced wd rows sh m)).r ()) (g_call3 (x := (wd, rows)) (cal_for D.d D.fo) hr (by decide) (gv 0 rg9) (gv 1 r2) (gv 2 r3) hgv) fun v10 B10 _ ⟨l10, hl, r10⟩ => ?hfo) (gaL_cons (GE.imp (P := (rW (rO rN) (fun n => ∃ cs, MF.IsCsts wd rows sh m cs ∧ n = lcR (cs.getD 0 []))).r ()) (g_call3 (x := (wd, rows)) (cal_lc D.d D.cb D.ca D.lc) hr (by decide) (gv 0 rg9) (gv 1 r2) (gv 2 r3) hgv) fun v10 B10 _ ⟨l10, ⟨cs, hl, e⟩, r10⟩ => ?hlc) gaL_nil)) (show 2 ≤ 1000 by decide)) (show 3 + 2 ≤ 100000 by decide)) (fun v10 B10 H10 f10 r10 => ?_) scEv.nd
  case hfo =>
    have e := MF.forced_law gr hp hml he hl
    rw [hAg, ← e]
    cases l10 <;> exact r10
  case hlc =>
    have e2 := MF.least_law gr hp hml he hl
    rw [hFa, ← e2]
    have e : l10 = (if cs.getD 0 [] = [] then none else some (MF.minL ((cs.getD 0 []).map (·.2)))) := e
    rw [← e]
    cases l10 <;> exact r10
  have F10 := F9.trans f10
  have hsh : ∀ x ∈ ([.t T, wdT Ag.head?, .i Ag.length] ++ [wdT (frc Ag sh.length)] ++ [wdN Fa.head?] : List Wd), Sht x := by
    have h1 : Sht (.t T) := ⟨by rw [hT]; omega, hTa⟩
    have h2 : Sht (wdT Ag.head?) := by
      cases hA : Ag with
      | nil => trivial
      | cons x y =>
        have hx : x ∈ Ag := by rw [hA]; exact List.mem_cons_self ..
        exact ⟨by rw [evl x (agm x hx)]; omega, fun c hc => MF.abc_small c (eva x (agm x hx) c hc)⟩
    have h3 : Sht (.i Ag.length) := agl
    have h4 : Sht (wdT (frc Ag sh.length)) := by
      cases hA : frc Ag sh.length with
      | none => trivial
      | some l =>
        obtain ⟨k1, k2⟩ := MF.frc_abc hA fun x hx => ⟨evl x (agm x hx), eva x (agm x hx)⟩
        exact ⟨by omega, k2⟩
    have h5 : Sht (wdN Fa.head?) := by
      cases hA : Fa with
      | nil => trivial
      | cons x y =>
        have hx : x ∈ Fa := by rw [hA]; exact List.mem_cons_self ..
        rw [hFa] at hx
        obtain ⟨y, _, rfl⟩ := List.mem_map.mp ((mem_usort stoN).mp hx)
        have := MF.apart_le m y
        show apart m y ≤ 2187
        omega
    intro x hx
    simp only [List.cons_append, List.nil_append, List.mem_cons, List.not_mem_nil, or_false] at hx
    rcases hx with rfl | rfl | rfl | rfl | rfl <;> assumption
  refine wp_ret F10.i (ge_is (g_cmp op_eq (g_reprL hr hgd g.bi.repr (gv 7 r10) hsh (show 5 ≤ 50 by decide)) (g_reprL hr hgd g.bi.repr (gv 5 ((rL rWd).ex (f9.b.trans f10.b) rd)) hsh (show 5 ≤ 50 by decide)) rb_eqT) (decide_eq_true rfl)) fun v11 B11 H11 f11 r11 => q v11 B11 H11 (F10.trans f11) r11
end
end KD
end
section
set_option Elab.async false
set_option linter.all false
set_option maxRecDepth 100000
set_option maxHeartbeats 4000000
/-! LE13: the law. -/
namespace KD
open PySem PySem.Spec PyProof.Rows L2 KS MS KB
open SX (S)
open MF (abc Gr labs Sh Mk Ev)
abbrev nmLaw : List Str := ["_law_script", "_law_feed_here", "_law_lap", "_law_grid_here", "_law_tree_here", "_law_every", "_law_was", "_law_some", "_law_signs", "_law_turn", "_law_sign"]
theorem scLaw : FnScope nmLaw ["_law_script"] (defScope (topS 61)) := ⟨rfl, rfl, rfl, by decide +kernel, rfl, by decide +kernel, by decide +kernel⟩
theorem sg_of {Pp : Nat → Prop} : ∀ {xs : List (List Nat)}, (∀ x ∈ xs, ∃ c, x = [c] ∧ Pp c) → ∃ us : List Nat, xs = sg us ∧ ∀ c ∈ us, Pp c
  | [], _ => ⟨[], rfl, fun c hc => nomatch hc⟩
  | x :: xs, h => by
    obtain ⟨us, e1, e2⟩ := sg_of (xs := xs) fun y hy => h y (List.mem_cons_of_mem _ hy)
    obtain ⟨c, e3, hc⟩ := h x (List.mem_cons_self ..)
    refine ⟨c :: us, by rw [e1, e3]; rfl, fun d hd => ?_⟩
    rcases List.mem_cons.mp hd with rfl | hd
    · exact hc
    · exact e2 d hd
section
variable {X : Cx} {e : Expr} {σ : L2.St} {B : Hp} {pos p1 apos : Pos}
/-- a list of unknown texts put together -/
theorem g_joinE {Px : List (List Nat) → Prop} (Pq : List Nat → Prop) {j} (h : GE X e σ B ((rW (rL rT) Px).r ())) (hz : ∀ ls, Px ls → (ls.map (·.length)).sum ≤ 100000 ∧ Pq ls.flatten) (hs : starEach [e] X.env = [(false, eval e X.env)] := by rfl) (hline : (apos.endLine == pos.line) = true := by rfl)
    (hbase : attributeBase (.Constant (.str "") j p1) "join" X.env (eval (.Constant (.str "") j p1) X.env) = eval (.Constant (.str "") j p1) X.env := by rfl) : GE X (.Call (.Attribute (.Constant (.str "") j p1) "join" apos) [e] [] pos) σ B ((rW rT Pq).r ()) := fun B1 H1 u i0 Q q =>
  W.of (pe_join pe_str peW hs hbase hline) ⟨⟨_, rfl⟩, h B1 H1 u i0 _ fun v B2 H2 x2 ⟨ls, pl, r⟩ => by
    obtain ⟨p, e1, hp⟩ := lT.mp r
    obtain ⟨z1, z2⟩ := hz ls pl
    refine ⟨S [], p, ls.map S, rfl, by rw [e1], .inl (.inl (.inl (by rw [← map_S]; exact x2.i.lst hp))), ?_, ?_⟩
    · rw [sum_lens]
      exact Nat.le_trans z1 (by decide)
    · rw [SX.join_S, joinL_nil]
      exact q _ B2 H2 x2 ⟨ls.flatten, z2, rfl⟩⟩
end
def spLaw (K : PySem.W.Frag) : Sp := fun vs H Q _ => ∃ (a : Addr) (ns : List Int), vs = [.ref a] ∧ SqL K H a (ns.map V.int) ∧ ns.length ≤ 63 ∧ ∀ H', Q (.bl true) H'
section
variable {P : Program} {w : World} {K : PySem.W.Frag} {mg : Str → Option Value} {base : Heap}
/-- the law's own defs, all -/
structure LD3 (K : PySem.W.Frag) (mg : Str → Option Value) : Prop where
  l : LD2 K mg
  feed : DFeed K mg
  gr : DGr K mg
  tr : DTr K mg
  ab : DAb K mg
  al : DAl K mg
  ca : DCa K mg
  sm : DSm K mg
  fc : DFc K mg
  ap : DAp K mg
  ev : DEv K mg
theorem ok_law {f : Addr} {fd : FuncData} (D : PD2 K mg) (L : LD3 K mg) (Fn : L2.Fun K "law" "law" (topS 61) f fd) : FnG P w K mg base 7 f fd ["_law_script"] (spLaw K) := by
  have g := D.d.g
  refine Dfn.go Fn scLaw (fun vs H Q E ⟨a, ns, e, _⟩ => by rw [e]; rfl) fun cdv A outer s H vs Q E hr hgd ⟨a, ns, e, hS, hl, q⟩ => ?_
  subst e
  have hu := hu_of hr
  refine wp_set 1 (Ex.refl H) (P := rF.r ()) (g_call (cal_feed g L.feed) hr (by decide) (ga1 (ρ := rV) (x := .ref a) (gvv 0)) (fun vs B1 H1 u ih ⟨v, e1, r⟩ Q q => ⟨a, ns, B1, by rw [e1, show v = .ref a from r]; rfl, ih, sql_ex u hS, hl, q⟩)) (fun vf B1 H1 f1 rf => ?_) scLaw.nd
  refine wp_for (ρ := rN) (xs := List.range 2) (fun pre σ' Bj Hj => ∃ (b2 b3 b4 b5 b6 b7 b8 : Option V), σ' = [some (.ref a), some vf, b2, b3, b4, b5, b6, b7, b8, none, none] ∧ KB.Fr H H Bj Hj) f1.i (gi_range (n := 2) g.bi.range (GE.n (ge_nat (n := 2) g_int rfl)) (by omega)) (pg_name (i := 2) scLaw.nd rfl (.inl rfl)) (fun B2 H2 f2 => ⟨none, none, none, none, none, none, none, rfl, f1.trans f2⟩) (fun pre lap post vlap σ' Bj H2 Bb H3 hx x2 x3 ⟨b2, b3, b4, b5, b6, b7, b8, e, F⟩ f3 rlap => ?_) (fun σ' B2 H2 x1 x2 ⟨b2, b3, b4, b5, b6, b7, b8, e, F⟩ => ?_) rfl (hgm := gm_name)
  · subst e
    have F := F.trans f3
    have rf := rF.ex (x2.trans f3.b) rf
    -- grid
    refine wp_set 3 F.i (P := (rW rG fun gr => Gr gr.1 gr.2).r ()) (g_call2 (cal_gr g L.l.a L.gr) hr (by decide) (gv 1 rf) (ge_nat (n := 3) g_int rfl) rfl) (fun vg B4 H4 f4 rg => ?_) scLaw.nd
    obtain ⟨⟨wd, rows⟩, gr, rg⟩ := rg
    have gr : Gr wd rows := gr
    have F := F.trans f4
    -- tree
    refine wp_set 4 F.i (P := (rW rT (Sh wd)).r ()) (g_call3 (cal_tr g L.l.a L.tr) hr (by decide) (gv 1 (rF.ex f4.b rf)) (g_fst (gv 3 rg) g_int) (ge_nat (n := 7) g_int rfl) ⟨gr.w23, rfl⟩) (fun vt B5 H5 f5 rt => ?_) scLaw.nd
    obtain ⟨sh, hp, rt⟩ := rt
    have rt : ∀ B', rT.r sh vt B' := fun _ => rt
    have F := F.trans f5
    have hlen := hp.len
    have rg := rG.ex f5.b rg
    have hwd3 : wd ≤ 3 := by rcases gr.w23 with h | h <;> omega
    have hrows : ∀ r ∈ rows, r.length ≤ 100 ∧ ∀ c ∈ r, c < 1000 := fun r hr' => ⟨by have := (Gr.len4 gr r hr').2; omega, fun c hc => MF.abc_small c (gr.abc r hr' c hc)⟩
    have hrl := gr.n
    have g63 : ∀ {X : Cx} {σ : L2.St} {B' : Hp}, True := trivial
    -- every, was
    refine wp_par 5 6 (ρ := rW (rL rT) fun ev => Ev wd rows sh ev ∧ ev.length ≤ 2187) (x := ()) F.i (GE.imp (P := (rW (rL rT) fun ev => ∃ cs, MF.IsAll wd rows sh cs ∧ ev = usort ltL ((cs.getD 0 []).flatMap (·.2))).r ()) (g_call3 (ρ := rG) (x := (wd, rows)) (cal_al g L.l L.ab L.al) hr (by decide) (gv 3 rg) (gv 4 (rt B5)) (g_repS (k := 63) (n := sh.length) (ge_is g_str (by decide)) (GE.n (g_lenS g.bi.len (gv 4 (rt B5)) (by omega))) (by omega)) ⟨gr, hp, rfl⟩) fun v B' _ ⟨ev, ⟨cs, hc, e⟩, r⟩ => ⟨ev, ⟨by rw [e]; exact MF.all_ev gr hp hc, by
      rw [e]
      exact MF.all_few gr hp hc (asc_nd stoL (asc_usort stoL _)) fun y hy => (mem_usort stoL).mp hy⟩, r⟩) (g_reprG (gr := (wd, rows)) hr hgd g.bi.repr (gv 3 rg) hwd3 hrows (show rows.length ≤ 50 by omega)) (fun vev vwas B6 H6 f6 rev rwas => ?_) rfl scLaw.nd
    obtain ⟨ev, ⟨hev, hevl⟩, rev⟩ := rev
    generalize hwas : (PyData.shown (.tuple [.int wd, .tuple ((rows.map Wd.t).map toD)])).cps.toList = was at rwas
    have rwas : ∀ B', rT.r was vwas B' := fun _ => rwas
    have F := F.trans f6
    have rg := rG.ex f6.b rg
    have rf6 := rF.ex ((f4.b.trans f5.b).trans f6.b) rf
    -- some
    refine wp_setLcM 7 (own := [("_law_turn", 9)]) (jt := 9) (ρ := rN) (τ := rW rT (Mk sh.length)) (xs := List.range 3) F.i (fun _ => true) (fun _ => ()) (gi_range (n := 3) g.bi.range (GE.n (ge_nat (n := 3) g_int rfl)) (by omega)) (by rw [List.length_range]; omega) (fun y vy B7 hy x7 ry s0 H0 C cl fp => ⟨ts_nil, fun _ => g_call3 (τ := rG) (y := (wd, rows)) (cal_sm g L.l L.ca L.sm) hr (by decide) (gv 1 (rF.ex x7 rf6)) (gv 3 (rG.ex x7 rg)) (gv 4 (rt B7)) ⟨gr, hp⟩⟩) (fun lso wso B7 H7 m7 pr7 => ?_) rfl scLaw.nd (by apply blkOk_by; change blkC nmLaw (defScope (topS 61)) _ _ = true; decide +kernel) (fun _ _ _ _ _ => pg_name (i := 9) scLaw.nd rfl (.inl rfl)) (by rfl)
    obtain ⟨ms, hml, hmk, pr7⟩ := lw_split pr7
    rw [filt, List.length_map, List.length_range] at hml
    have ew := rT_list pr7
    subst ew
    have mm := One.from F m7
    have rg := rG.ex m7.F.b rg
    have rf7 := rF.ex m7.F.b rf6
    have hL3 : (labs rows).length ≤ 3 := gr.few
    -- some.append(..)
    refine wp_app (P := (rW rT (Mk sh.length)).r ()) mm.F.i (gvv 7) (g_joinE (Px := fun xs => xs.length = sh.length ∧ ∀ x ∈ xs, ∃ c, x = [c] ∧ (c ∈ abc ∨ c = 63)) (Mk sh.length) (ge_wmono (ge_lW (us := (sg sh).map fun _ => ()) (Pp := fun x => ∃ c, x = [c] ∧ (c ∈ abc ∨ c = 63)) (ge_is (g_lc (ρ := rT) (τ := rW rT fun x => ∃ c, x = [c] ∧ (c ∈ abc ∨ c = 63)) (own := [("_law_sign", 10)]) (j := 10) (xs := sg sh) (fun _ => true) (fun _ => ()) rfl scLaw.nd (by apply blkOk_by; change blkC nmLaw (defScope (topS 61)) _ _ = true; decide +kernel) (fun _ _ _ _ _ => pg_name (i := 10) scLaw.nd rfl (.inl rfl)) (gi_str (gv 4 (rt B7))) (by rw [len_sg]; omega) fun y vy B8 hy x8 ry s0 H0 C cl fp => ⟨ts_nil, fun _ => ge_wmono (g_call2 (cal_pick (ρ := rT) g L.l.a.dr L.l.a.pick) hr (by decide) (gv 1 (rF.ex x8 rf7)) (g_catL (g_call1 (ρ := rG) (x := (wd, rows)) (cal_let g L.l.a.let') hr (by decide) (gv 3 (rG.ex x8 rg)) ⟨hrl, fun l hl' => (Gr.len4 gr l hl').2⟩) (g_lstL (ρ := rT) (xs := [[63], [63], [63]]) (gaL_cons (ge_is g_str (by decide)) (gaL_cons (ge_is g_str (by decide)) (gaL_cons (ge_is g_str (by decide)) gaL_nil))) (by decide)) (by rw [len_sg]; show (labs rows).length + 3 ≤ _; omega)) ⟨by rw [List.length_append]; show 0 < _ + 3; omega, by rw [List.length_append, len_sg]; show (labs rows).length + 3 ≤ _; omega⟩) fun x hx' => ?hpick⟩) (by rw [filt]))) fun xs hxs => ⟨by rw [hxs.1, List.length_map, len_sg], hxs.2⟩) fun xs hxs => ?hjoin) mm.h (by rw [List.length_map, hml]; decide) (fun w8 B8 H8 f8 r8 h8 => ?_)
    case hpick =>
      rcases List.mem_append.mp hx' with h | h
      · obtain ⟨c, hc, rfl⟩ := List.mem_map.mp h
        exact ⟨c, rfl, .inl (gr.labs_abc hc)⟩
      · refine ⟨63, ?_, .inr rfl⟩
        simpa using h
    case hjoin =>
      obtain ⟨us, e1, e2⟩ := sg_of hxs.2
      subst e1
      have h1 := hxs.1
      rw [len_sg] at h1
      refine ⟨by rw [sum_sg]; omega, ?_⟩
      rw [flat_sg]
      exact ⟨h1, e2⟩
    obtain ⟨m4, hm4, r8⟩ := r8
    have r8 : w8 = tx m4 := r8
    subst r8
    have m8 := (mm.step f8).put (o' := .lst (ms.map tx ++ [tx m4])) nf_lst
    have F8 := m8.fin
    have rso : (rL rT).r (ms ++ [m4]) (.ref lso) (upd B8 lso (.lst (ms.map tx ++ [tx m4]))) := lT.mpr ⟨lso, rfl, by rw [List.map_append]; exact upd_same⟩
    have x8 : Ex B7 (upd B8 lso (.lst (ms.map tx ++ [tx m4]))) := f8.b.trans m8.up
    generalize hB9 : upd B8 lso (.lst (ms.map tx ++ [tx m4])) = B9 at rso F8 x8
    have rg9 := rG.ex x8 rg
    have rev9 := (rL rT).ex (m7.F.b.trans x8) rev
    have hq63 : Mk sh.length (List.replicate sh.length 63) := ⟨List.length_replicate, fun c hc => .inr (List.eq_of_mem_replicate hc)⟩
    have hall : ∀ x ∈ (ms ++ [m4]) ++ [List.replicate sh.length 63], Mk sh.length x := fun x hx' => by
      rcases List.mem_append.mp hx' with h | h
      · rcases List.mem_append.mp h with h | h
        · exact hmk x h
        · rw [List.mem_singleton] at h
          rw [h]
          exact hm4
      · rw [List.mem_singleton] at h
        rw [h]
        exact hq63
    refine wp_for (ρ := rT) (xs := (ms ++ [m4]) ++ [List.replicate sh.length 63]) (fun pre2 σ' Bj Hj => ∃ (c8 : Option V), σ' = [some (.ref a), some vf, some vlap, some vg, some vt, some vev, some vwas, some (.ref lso), c8, none, none] ∧ KB.Fr H H Bj Hj) F8.i (gi_list (g_catL (gv 7 rso) (g_lst1 (ρ := rT) (g_repS (k := 63) (n := sh.length) (ge_is g_str (by decide)) (GE.n (g_lenS g.bi.len (gv 4 (rt B9)) (by omega))) (by omega))) (by rw [List.length_append, hml]; show 3 + 1 + 1 ≤ _; decide))) (pg_name (i := 8) scLaw.nd rfl (.inl rfl)) (fun B10 H10 f10 => ⟨_, rfl, F8.trans f10⟩) (fun pre2 m post2 vm σ2 Bj2 H10 Bb2 H11 hx2 x10 x11 ⟨c8, e, F2⟩ f11 rm => ?_) (fun σ2 B10 H10 x10 x11 ⟨c8, e, F2⟩ => ?_) rfl (hgm := gm_name)
    · subst e
      have hmm : Mk sh.length m := hall m (by rw [hx2]; exact List.mem_append_right _ (List.mem_cons_self ..))
      have F2 := F2.trans f11
      have xx := x10.trans f11.b
      refine wp_if (k := false) F2.i (t_not (t_val (g_callG4 (ρ := rG) (x := (wd, rows)) (cal_ev D L.fc L.ap L.ev) hr hgd (by decide) (gv 3 (rG.ex xx rg9)) (gv 4 (rt Bb2)) (gv 8 rm) (gv 5 ((rL rT).ex xx rev9)) ⟨⟨gr, hp, hmm⟩, hev, hevl⟩ (fun _ _ h => h)))) (fun z => by cases z) (fun _ B12 H12 f12 => ?_)
      refine wp_nil (wp_if (k := false) f12.i (GT.is (t_cmp op_ne (g_reprG (gr := (wd, rows)) hr hgd g.bi.repr (gv 3 (rG.ex (xx.trans f12.b) rg9)) hwd3 hrows (show rows.length ≤ 50 by omega)) (gv 6 (rwas B12)) rb_neT) (by rw [← hwas]; simp)) (fun z => by cases z) (fun _ B13 H13 f13 => ?_))
      exact wp_nil (wp_nil ⟨B13, f12.b.trans f13.b, f13.i, _, rfl, (F2.trans f12).trans f13⟩)
    · subst e
      exact wp_nil ⟨B10, (((((f4.b.trans f5.b).trans f6.b).trans m7.F.b).trans x8).trans x10), F2.i, _, _, _, _, _, _, _, rfl, F2⟩
  · subst e
    exact wp_ret F.i (P := rB.r true) g_bl fun v5 B5 H5 f5 r5 => by
      rw [show v5 = .bl true from r5]
      exact q H5
end
end KD
end
section
set_option Elab.async false
set_option linter.all false
set_option maxRecDepth 100000
set_option maxHeartbeats 4000000
/-! LE14: the end, for a law that is called where no repr is under way. -/
namespace KD
open PySem PySem.Spec PyProof.Rows L2
section
variable {P : Program} {w : World} {K : PySem.W.Frag} {mg mb : Str → Option Value} {k : Nat} {fa a : Addr} {fd : FuncData} {x : Str} {sp : Sp} {s : Shared} {vs : List Value} {ns : List Int} {H : Hp}
/-- the law's call, from a heap of which at most the script is told -/
theorem coreG (kin : K.In s.heap) (gm : s.heap.Ns mainGlobals mg) (gb : s.heap.Ns builtinsNs mb) (boot : ∀ x : Str, x ≠ "__name__" → mb x = bootBuiltins x) (nl : s.heap.NoLimit) (gens : s.gens = #[])
    (ha : s.heap.get? a = some { cls := .type "list", data := .seq vs.toArray }) (room : Room k callerA) (F : ∀ base : Heap, K.In base → base.Ns mainGlobals mg → FnG P w K mg base k fa fd [x] sp)
    (bind : ∀ (s : Shared) (u : Value), BindsTo s fd ⟨[u], []⟩ [(x, u)]) (only : Only H) (hok : HOk P w H s.heap) (one : ∀ b, H b ≠ none → b = a) (out : H a ≠ none → K.lookup a = none) (h : sp [.ref a] H (fun v _ => v = .bl true) fun _ _ _ => False) :
    codeAny (model P w) callerA (.call (.ref fa) ⟨[.ref a], []⟩) (fun r s' => r = .ok (.ret (.bool true)) ∧ OldK s.heap s'.heap ∧ s'.os = s.os ∧ AllBare s'.gens) s := by
  have told : ∀ b, H b = none ∨ b = a := fun b => by
    cases q : H b with
    | none => exact .inl rfl
    | some u => exact .inr (one b fun z => by rw [q] at z; cases z)
  have names : ∀ {b : Addr} {m : Str → Option Value}, s.heap.Ns b m → (hidT s.heap H).Ns b m := fun {b m} ⟨o, es, ep, e, d, rest⟩ => by
    refine ⟨o, es, ep, hidT_get e ((told b).resolve_right fun z => ?_), d, rest⟩
    rw [z, ha] at e
    cases e
    exact nomatch (show Data.seq vs.toArray _ = Data.dict es ep from d)
  have kin' : K.In (hidT s.heap H) := fun b o e => hidT_get (kin b o e) (by
    rcases told b with z | z
    · exact z
    · cases q : H b with
      | none => rfl
      | some u =>
        subst z
        have := out fun z => by rw [q] at z; cases z
        rw [this] at e
        cases e)
  have env : Env0 P w K mg (hidT s.heap H) callerA [] s H := by
    refine ⟨rfl, ⟨kin', names gm, ⟨mb, names gb, boot⟩, ?_⟩, fun b o e => of_hidT e, Nat.le_of_eq (hidT_size _ _), trivial, fun b hb => (nomatch hb), hok, .of_eq gens⟩
    obtain ⟨m, h1, h2⟩ := nl
    exact ⟨m, names h1, h2⟩
  have go := (F _ kin' (names gm)).go callerA [] s H ⟨[.ref a], []⟩ [.ref a] [.ref a] _ _ room rfl env (bind s (.ref a)) (.cons rfl .nil) h
  refine codeAny_mono go fun r s' z => ?_
  match r, z with
  | .error e, z => exact False.elim z
  | .ok .next, z => exact False.elim z
  | .ok .brk, z => exact False.elim z
  | .ok .cont, z => exact False.elim z
  | .ok (.ret u), z =>
    obtain ⟨v, H', os, bare, un, hok', rel, q⟩ := z
    have q : v = .bl true := q
    subst q
    have eu : u = Value.bool true := rel
    subst eu
    refine ⟨rfl, OldK.of_keep fun b o e => ?_, os, bare⟩
    cases hb : H b with
    | none => exact un.keep b o e hb (fun z => nomatch (show b ∈ ([] : List Addr) from z)) (by simp)
    | some u =>
      rcases only b with z | ⟨ob, xs, z⟩
      · rw [hb] at z
        cases z
      · have h1 := (hok b _ z).1
        have h2 := (hok' b _ (un.frzs b ob _ z)).1
        rw [e] at h1
        rw [← Option.some.inj h1] at h2
        exact h2
/-- .. whatever object the script is -/
theorem lawG (kin : K.In s.heap) (gm : s.heap.Ns mainGlobals mg) (gb : s.heap.Ns builtinsNs mb) (boot : ∀ x : Str, x ≠ "__name__" → mb x = bootBuiltins x) (nl : s.heap.NoLimit) (gens : s.gens = #[])
    (ha : s.heap.get? a = some { cls := .type "list", data := .seq vs.toArray }) (ia : IntsAre vs ns) (few : ns.length ≤ sizeLine) (room : Room k callerA) (F : ∀ base : Heap, K.In base → base.Ns mainGlobals mg → FnG P w K mg base k fa fd [x] sp)
    (bind : ∀ (s : Shared) (u : Value), BindsTo s fd ⟨[u], []⟩ [(x, u)]) (hsp : ∀ H : Hp, SqL K H a (ns.map V.int) → sp [.ref a] H (fun v _ => v = .bl true) fun _ _ _ => False) :
    codeAny (model P w) callerA (.call (.ref fa) ⟨[.ref a], []⟩) (fun r s' => r = .ok (.ret (.bool true)) ∧ OldK s.heap s'.heap ∧ s'.os = s.os ∧ AllBare s'.gens) s := by
  have rv := vals_ints ia
  have hl := ia.length
  cases hk : K.lookup a with
  | some o =>
    have e := kin a o hk
    rw [ha] at e
    have e := Option.some.inj e
    subst e
    refine coreG (H := fun _ => none) kin gm gb boot nl gens ha room F bind (fun _ => .inl rfl) (fun b u z => nomatch (show (none : Option HO) = some u from z)) (fun b z => absurd rfl z) (fun z => absurd rfl z) (hsp _ (.inr ⟨_, vs.toArray, _, hk, rfl, rfl, rfl, ?_, ?_⟩))
    · rw [List.size_toArray, hl]
      exact few
    · simpa using rv
  | none =>
    obtain ⟨H, hH⟩ : ∃ H : Hp, H = fun b => if b = a then some (.frz { cls := .type "list", data := .seq vs.toArray } (.lst (ns.map V.int))) else none := ⟨_, rfl⟩
    have atA : H a = some (.frz { cls := .type "list", data := .seq vs.toArray } (.lst (ns.map V.int))) := by rw [hH]; exact if_pos rfl
    have off : ∀ b, b ≠ a → H b = none := fun b n => by rw [hH]; exact if_neg n
    refine coreG (H := H) kin gm gb boot nl gens ha room F bind (fun b => ?_) (fun b u z => ?_) (fun b z => ?_) (fun _ => hk) (hsp H (.inl (.inr ⟨_, atA⟩)))
    · by_cases e : b = a
      · exact .inr ⟨_, _, by rw [e]; exact atA⟩
      · exact .inl (off b e)
    · by_cases e : b = a
      · subst e
        rw [atA] at z
        have z := Option.some.inj z
        subst z
        exact ⟨ha, by rw [List.length_map]; exact few, vs, _, rv, ha⟩
      · rw [off b e] at z
        cases z
    · exact Decidable.byContradiction fun e => z (off b e)
end
theorem walkG {l : PySem.W.OpenLaw} {n k : Nat} {q : Program} {loose : List Str} {XP : (Str → Option Value) → Heap → Prop} {YP : World → Heap → Prop} {d : DefRec} {x : Str} (hn : l.most = some n) (few : n ≤ sizeLine) (nodef : d.params.defaults = []) (room : Room k callerA)
    (F : ∀ (w : World) (mg : Str → Option Value) (fa : Addr) (h : Heap), YP w h → h.Ns mainGlobals mg → mg d.name = some (.ref fa) → ∃ (K : PySem.W.Frag) (fd : FuncData) (sp : Sp), K.In h ∧ (∀ (s : Shared) (u : Value), BindsTo s fd ⟨[u], []⟩ [(x, u)]) ∧
      (∀ (H : Hp) (a : Addr) (ns : List Int), ns.length ≤ n → SqL K H a (ns.map V.int) → sp [.ref a] H (fun v _ => v = .bl true) fun _ _ _ => False) ∧ ∀ base : Heap, K.In base → base.Ns mainGlobals mg → FnG l.prog w K mg base k fa fd [x] sp) :
    PySem.W.WalkO q loose XP YP l.row.toRowW d [] (fun f vs => PySem.call f vs) := by
  refine Att.attach_call hn nodef fun w s₀ s mg mb fa o pm cd doc a vs ns G Y ho hd hcd hm hobj hints hlen hg => ?_
  obtain ⟨K, fd, sp, kin, bind, hsp, hF⟩ := F w mg fa _ Y G.T.g hm
  exact lawG kin G.T.g G.T.b G.T.builtins G.T.nolimit hg hobj hints (Nat.le_trans hlen few) room hF bind fun H hS => hsp H a ns hlen hS
end KD
end
section
set_option Elab.async false
set_option linter.all false
set_option maxRecDepth 100000
set_option maxHeartbeats 0
/-! HD1: the head: the facts that the run of the top tells. -/
namespace KD
open PySem PySem.Spec PyProof.Rows L2 KS MS KB
open SX (S)
open MF (abc)
def dd (x : Str) (i : Nat) : He.DefD := ⟨(x, none), x, x, defArgs (topS i), defBody (topS i), defScope (topS i), [], []⟩
def dWant : He.DefD := ⟨("want", none), "want", "want", defArgs (topS 17), defBody (topS 17), defScope (topS 17), [.int (-1)], []⟩
def fn1 : List He.DefD := [dd "is_integer" 4, dd "is_many" 5, dd "shape_fault" 6, dd "is_shape" 7, dd "is_marks" 8, dd "parents_by" 10, dd "children_by" 11, dWant, dd "lot_of" 19, dd "labels_in" 21, dd "orders_of" 22, dd "orders_by" 23, dd "fits" 24, dd "tops_above" 25, dd "lots_by" 26, dd "want_marks" 28, dd "tops_by" 30, dd "filled" 31, dd "ways_below" 32, dd "count_filled" 33, dd "forced" 34, dd "cost_below" 35, dd "costs_above" 36]
def fn2 : List He.DefD := [dd "least_change" 37, dd "_law_feed" 39, dd "_law_draw" 40, dd "_law_pick" 41, dd "_law_pool" 42, dd "_law_named" 43, dd "_law_row" 44, dd "_law_codes" 45, dd "_law_letters" 46, dd "_law_grid" 47, dd "_law_tree" 48, dd "_law_kids" 49, dd "_law_orders" 50, dd "_law_ways" 51, dd "_law_stands" 52, dd "_law_cans" 53, dd "_law_all" 54, dd "_law_all_below" 55, dd "_law_some_marks" 56, dd "_law_fits" 57, dd "_law_forced" 58, dd "_law_apart" 59, dd "_law_is_even" 60, dd "law" 61]
def fn : List He.DefD := fn1 ++ fn2
def fa1 : List He.Fa := [.glo "is_integer", .glo "is_many", .glo "shape_fault", .glo "is_shape", .glo "is_marks", .glo "parents_by", .glo "children_by", .glo "want", .glo "lot_of", .glo "labels_in", .glo "orders_of", .glo "orders_by", .glo "fits", .glo "tops_above", .glo "lots_by", .glo "want_marks", .glo "tops_by", .glo "filled", .glo "ways_below", .glo "count_filled", .glo "forced", .glo "cost_below", .glo "costs_above"]
def fa2 : List He.Fa := [.glo "least_change", .glo "_law_feed", .glo "_law_draw", .glo "_law_pick", .glo "_law_pool", .glo "_law_named", .glo "_law_row", .glo "_law_codes", .glo "_law_letters", .glo "_law_grid", .glo "_law_tree", .glo "_law_kids", .glo "_law_orders", .glo "_law_ways", .glo "_law_stands", .glo "_law_cans", .glo "_law_all", .glo "_law_all_below", .glo "_law_some_marks", .glo "_law_fits", .glo "_law_forced", .glo "_law_apart", .glo "_law_is_even", .glo "law"]
def fa3 : List He.Fa := [.str "LETTERS" (S abc), .str "UNTOLD" (S [63]), .glo "MANIES", .free "isinstance", .free "int", .free "bool", .free "str", .free "enumerate", .free "len", .free "all", .free "any", .free "sorted", .free "set", .free "range", .free "zip", .free "sum", .free "min", .free "repr", .free "list", .free "tuple"]
def fa : List He.Fa := fa1 ++ fa2 ++ fa3
def ex (K : PySem.W.Frag) : Bool := He.tupB K "MANIES" [.int 2, .int 3]
def names1 : List Str := ["LETTERS", "MANIES", "UNTOLD", "LookError", "TableError", "NotUsable", "is_integer", "is_many", "shape_fault", "is_shape", "is_marks", "parents_by", "children_by", "want", "lot_of", "labels_in", "orders_of", "orders_by", "fits", "tops_above", "lots_by", "want_marks", "tops_by", "filled", "ways_below", "count_filled", "forced", "cost_below", "costs_above", "least_change"]
def names2 : List Str := ["_law_feed", "_law_draw", "_law_pick", "_law_pool", "_law_named", "_law_row", "_law_codes", "_law_letters", "_law_grid", "_law_tree", "_law_kids", "_law_orders", "_law_ways", "_law_stands", "_law_cans", "_law_all", "_law_all_below", "_law_some_marks", "_law_fits", "_law_forced", "_law_apart", "_law_is_even"]
def names : List Str := names1 ++ names2
abbrev R : PySem.W.OpenRow := PySem.W.OpenLaw.row PySem.Challenge.rw_lookdepth_k18_whole_fillings_by_all
abbrev hk : PySem.W.Hook := He.hookX 4 fa fn [] [] ex
def ob (s : PySem.W.SharedT) : He.AlX := He.obsX 4 fa fn [] [] ex (HandSHeadRun.getT s)
theorem ob_eq (s : PySem.W.SharedT) : ob s = hk.obs s.abs := He.obsX_eq (HandSHeadRun.getT_eq s)
theorem run (w : World) : HandSHeadRun.RunEq R (PySem.W.view R.prog [61]) hk ob 2400 names w := by
  intro os
  kernel_rfl
end KD
end
section
set_option Elab.async false
set_option linter.all false
set_option maxRecDepth 100000
set_option maxHeartbeats 4000000
/-! HD2: the facts, as the walks ask them. -/
namespace KD
open PySem PySem.Spec PyProof.Rows L2 KS MS KB
open SX (S)
open MF (abc)
section
variable {K : PySem.W.Frag} {h : Heap} {mg : Str → Option Value}
theorem funOf {x : Str} {st : Stmt} {f : Addr} {fd : FuncData} (F : FunD K x x (defArgs st) (defBody st) (defScope st) [] [] f fd) : L2.Fun K x x st f fd := by
  obtain ⟨o1, o2, dV, k1, d1, p1, n1, cdv, c1, sl, e, lk, hc, hD, _⟩ := F.ex
  rcases hD with ⟨_, e2⟩ | ⟨ne, _⟩
  · subst e2
    exact ⟨⟨o1, o2, k1, d1, p1, n1, cdv, c1, sl, e, lk, hc⟩, F.kp⟩
  · exact absurd rfl ne
theorem dfnOf (X : K.In h) (G : h.Ns mainGlobals mg) (c : He.SaysD fa fn K) {x : Str} {i : Nat} {ps : List Str} (j : Nat) (hd : fn[j]? = some (dd x i)) (hf : fa[j]? = some (.glo x))
    (hb : ∀ (kV doc pm : Value) (an : Option Addr) (cdv ct : Value) (us : List Value), us.length = ps.length → bindArgs (PySem.W.fnOf x x (defArgs (topS i)) (defBody (topS i)) (defScope (topS i)) .none kV doc pm an cdv ct) ⟨us, []⟩ = pure (ps.zip us)) : Dfn K mg x (topS i) ps := by
  obtain ⟨fd, F⟩ := c.def_ j hd
  have F : FunD K x x (defArgs (topS i)) (defBody (topS i)) (defScope (topS i)) [] [] (He.ga K x) fd := F
  exact ⟨_, fd, funOf F, He.glo_ok X G (c.fact j hf), FunD.bindsN (ps := ps) F hb⟩
theorem freeOf (X : K.In h) (G : h.Ns mainGlobals mg) (c : He.SaysD fa fn K) {x : Str} (j : Nat) (hf : fa[j]? = some (.free x)) : mg x = none := He.free_ok X G (c.fact j hf)
section
variable (X : K.In h) (G : h.Ns mainGlobals mg) (c : He.SaysD fa fn K)
include X G c
theorem hDInt : DInt K mg := dfnOf X G c 0 rfl rfl fun _ _ _ _ _ _ us hl => match us, hl with | [_], _ => rfl
theorem hDMany : DMany K mg := dfnOf X G c 1 rfl rfl fun _ _ _ _ _ _ us hl => match us, hl with | [_], _ => rfl
theorem hDFault : DFault K mg := dfnOf X G c 2 rfl rfl fun _ _ _ _ _ _ us hl => match us, hl with | [_, _], _ => rfl
theorem hDShape : DShape K mg := dfnOf X G c 3 rfl rfl fun _ _ _ _ _ _ us hl => match us, hl with | [_, _], _ => rfl
theorem hDMarks : DMarks K mg := dfnOf X G c 4 rfl rfl fun _ _ _ _ _ _ us hl => match us, hl with | [_], _ => rfl
theorem hDPar : DPar K mg := dfnOf X G c 5 rfl rfl fun _ _ _ _ _ _ us hl => match us, hl with | [_, _], _ => rfl
theorem hDKid : DKid K mg := dfnOf X G c 6 rfl rfl fun _ _ _ _ _ _ us hl => match us, hl with | [_, _], _ => rfl
theorem hDLot : DLot K mg := dfnOf X G c 8 rfl rfl fun _ _ _ _ _ _ us hl => match us, hl with | [_], _ => rfl
theorem hDLab : DLab K mg := dfnOf X G c 9 rfl rfl fun _ _ _ _ _ _ us hl => match us, hl with | [_], _ => rfl
theorem hDOf : DOf K mg := dfnOf X G c 10 rfl rfl fun _ _ _ _ _ _ us hl => match us, hl with | [_], _ => rfl
theorem hDBy : DBy K mg := dfnOf X G c 11 rfl rfl fun _ _ _ _ _ _ us hl => match us, hl with | [_], _ => rfl
theorem hDFit : DFit K mg := dfnOf X G c 12 rfl rfl fun _ _ _ _ _ _ us hl => match us, hl with | [_, _], _ => rfl
theorem hDTops : DTops K mg := dfnOf X G c 13 rfl rfl fun _ _ _ _ _ _ us hl => match us, hl with | [_, _], _ => rfl
theorem hDLots : DLots K mg := dfnOf X G c 14 rfl rfl fun _ _ _ _ _ _ us hl => match us, hl with | [_, _, _], _ => rfl
theorem hDWM : DWM K mg := dfnOf X G c 15 rfl rfl fun _ _ _ _ _ _ us hl => match us, hl with | [_, _, _], _ => rfl
theorem hDTB : DTB K mg := dfnOf X G c 16 rfl rfl fun _ _ _ _ _ _ us hl => match us, hl with | [_, _, _], _ => rfl
theorem hDFil : DFil K mg := dfnOf X G c 17 rfl rfl fun _ _ _ _ _ _ us hl => match us, hl with | [_, _, _], _ => rfl
theorem hDWays : DWays K mg := dfnOf X G c 18 rfl rfl fun _ _ _ _ _ _ us hl => match us, hl with | [_, _, _], _ => rfl
theorem hDCnt : DCnt K mg := dfnOf X G c 19 rfl rfl fun _ _ _ _ _ _ us hl => match us, hl with | [_, _, _], _ => rfl
theorem hDFor : DFor K mg := dfnOf X G c 20 rfl rfl fun _ _ _ _ _ _ us hl => match us, hl with | [_, _, _], _ => rfl
theorem hDCB : DCB K mg := dfnOf X G c 21 rfl rfl fun _ _ _ _ _ _ us hl => match us, hl with | [_, _, _], _ => rfl
theorem hDCA : DCA K mg := dfnOf X G c 22 rfl rfl fun _ _ _ _ _ _ us hl => match us, hl with | [_, _, _], _ => rfl
theorem hDLC : DLC K mg := dfnOf X G c 23 rfl rfl fun _ _ _ _ _ _ us hl => match us, hl with | [_, _, _], _ => rfl
theorem hDFeed : DFeed K mg := dfnOf X G c 24 rfl rfl fun _ _ _ _ _ _ us hl => match us, hl with | [_], _ => rfl
theorem hDDr : DDr K mg := dfnOf X G c 25 rfl rfl fun _ _ _ _ _ _ us hl => match us, hl with | [_, _], _ => rfl
theorem hDPick : DPick K mg := dfnOf X G c 26 rfl rfl fun _ _ _ _ _ _ us hl => match us, hl with | [_, _], _ => rfl
theorem hDPool : DPool K mg := dfnOf X G c 27 rfl rfl fun _ _ _ _ _ _ us hl => match us, hl with | [_], _ => rfl
theorem hDNa : DNa K mg := dfnOf X G c 28 rfl rfl fun _ _ _ _ _ _ us hl => match us, hl with | [_, _], _ => rfl
theorem hDRo : DRo K mg := dfnOf X G c 29 rfl rfl fun _ _ _ _ _ _ us hl => match us, hl with | [_, _, _], _ => rfl
theorem hDCodes : DCodes K mg := dfnOf X G c 30 rfl rfl fun _ _ _ _ _ _ us hl => match us, hl with | [], _ => rfl
theorem hDLet : DLet K mg := dfnOf X G c 31 rfl rfl fun _ _ _ _ _ _ us hl => match us, hl with | [_], _ => rfl
theorem hDGr : DGr K mg := dfnOf X G c 32 rfl rfl fun _ _ _ _ _ _ us hl => match us, hl with | [_, _], _ => rfl
theorem hDTr : DTr K mg := dfnOf X G c 33 rfl rfl fun _ _ _ _ _ _ us hl => match us, hl with | [_, _, _], _ => rfl
theorem hDKi : DKi K mg := dfnOf X G c 34 rfl rfl fun _ _ _ _ _ _ us hl => match us, hl with | [_, _], _ => rfl
theorem hDOr : DOr K mg := dfnOf X G c 35 rfl rfl fun _ _ _ _ _ _ us hl => match us, hl with | [_], _ => rfl
theorem hDWy : DWy K mg := dfnOf X G c 36 rfl rfl fun _ _ _ _ _ _ us hl => match us, hl with | [_], _ => rfl
theorem hDSt : DSt K mg := dfnOf X G c 37 rfl rfl fun _ _ _ _ _ _ us hl => match us, hl with | [_, _, _], _ => rfl
theorem hDCa : DCa K mg := dfnOf X G c 38 rfl rfl fun _ _ _ _ _ _ us hl => match us, hl with | [_, _, _], _ => rfl
theorem hDAl : DAl K mg := dfnOf X G c 39 rfl rfl fun _ _ _ _ _ _ us hl => match us, hl with | [_, _, _], _ => rfl
theorem hDAb : DAb K mg := dfnOf X G c 40 rfl rfl fun _ _ _ _ _ _ us hl => match us, hl with | [_, _, _, _], _ => rfl
theorem hDSm : DSm K mg := dfnOf X G c 41 rfl rfl fun _ _ _ _ _ _ us hl => match us, hl with | [_, _, _], _ => rfl
theorem hDFi : DFi K mg := dfnOf X G c 42 rfl rfl fun _ _ _ _ _ _ us hl => match us, hl with | [_, _, _], _ => rfl
theorem hDFc : DFc K mg := dfnOf X G c 43 rfl rfl fun _ _ _ _ _ _ us hl => match us, hl with | [_, _], _ => rfl
theorem hDAp : DAp K mg := dfnOf X G c 44 rfl rfl fun _ _ _ _ _ _ us hl => match us, hl with | [_, _], _ => rfl
theorem hDEv : DEv K mg := dfnOf X G c 45 rfl rfl fun _ _ _ _ _ _ us hl => match us, hl with | [_, _, _, _], _ => rfl
theorem fr_isinstance : mg "isinstance" = none := freeOf X G c 50 rfl
theorem fr_int : mg "int" = none := freeOf X G c 51 rfl
theorem fr_bool : mg "bool" = none := freeOf X G c 52 rfl
theorem fr_str : mg "str" = none := freeOf X G c 53 rfl
theorem fr_enumerate : mg "enumerate" = none := freeOf X G c 54 rfl
theorem fr_len : mg "len" = none := freeOf X G c 55 rfl
theorem fr_all : mg "all" = none := freeOf X G c 56 rfl
theorem fr_any : mg "any" = none := freeOf X G c 57 rfl
theorem fr_sorted : mg "sorted" = none := freeOf X G c 58 rfl
theorem fr_set : mg "set" = none := freeOf X G c 59 rfl
theorem fr_range : mg "range" = none := freeOf X G c 60 rfl
theorem fr_zip : mg "zip" = none := freeOf X G c 61 rfl
theorem fr_sum : mg "sum" = none := freeOf X G c 62 rfl
theorem fr_min : mg "min" = none := freeOf X G c 63 rfl
theorem fr_repr : mg "repr" = none := freeOf X G c 64 rfl
theorem fr_list : mg "list" = none := freeOf X G c 65 rfl
theorem fr_tuple : mg "tuple" = none := freeOf X G c 66 rfl
theorem hWant : DWant K mg := by
  obtain ⟨fd, F⟩ := c.def_ 7 (d := dWant) rfl
  have F : FunD K "want" "want" (defArgs (topS 17)) (defBody (topS 17)) (defScope (topS 17)) [.int (-1)] [] (He.ga K "want") fd := F
  obtain ⟨ds, hv, hb⟩ := FunD.binds1 (ps := ["is_right", "word", "at"]) F 2 0 (by simp) rfl fun T kV doc pm an cdv ct us its hl hi => by
    match us, its, hl, hi with
    | [u1, u2], [i1], _, _ => exact ⟨_, rfl, rfl⟩
  exact ⟨_, fd, ds, F, He.glo_ok X G (c.fact 7 (f := .glo "want") rfl), hb, hv⟩
theorem hBI : BI mg := ⟨fr_isinstance X G c, fr_int X G c, fr_bool X G c, fr_str X G c, fr_enumerate X G c, fr_len X G c, fr_all X G c, fr_any X G c, fr_sorted X G c, fr_set X G c, fr_range X G c, fr_zip X G c, fr_sum X G c, fr_min X G c, fr_repr X G c, fr_list X G c, fr_tuple X G c⟩
theorem hGC (e : ex K = true) : GC K mg := by
  refine ⟨hBI X G c, ?_, ?_, ?_⟩
  · obtain ⟨t, ht⟩ := He.str_ok X G (c.fact 47 (f := .str "LETTERS" (S abc)) rfl)
    exact ⟨_, ht, t, rfl⟩
  · obtain ⟨t, ht⟩ := He.str_ok X G (c.fact 48 (f := .str "UNTOLD" (S [63])) rfl)
    exact ⟨_, ht, t, rfl⟩
  · exact ⟨_, He.glo_ok X G (c.fact 49 (f := .glo "MANIES") rfl), fun H => He.tupB_ok (x := "MANIES") (vs := [.int 2, .int 3]) e H⟩
theorem hPD (e : ex K = true) : PD2 K mg where
  d := ⟨hGC X G c e, hDInt X G c, hDMany X G c, hDFault X G c, hDShape X G c, hDMarks X G c, hDPar X G c, hDKid X G c, hWant X G c, hDLot X G c, hDLab X G c, hDOf X G c, hDBy X G c, hDFit X G c, hDTops X G c, hDLots X G c, hDWM X G c⟩
  tb := hDTB X G c
  fil := hDFil X G c
  ways := hDWays X G c
  cnt := hDCnt X G c
  fo := hDFor X G c
  cb := hDCB X G c
  ca := hDCA X G c
  lc := hDLC X G c
theorem hLD : LD3 K mg where
  l := ⟨⟨hDDr X G c, hDPick X G c, hDPool X G c, hDNa X G c, hDRo X G c, hDCodes X G c, hDLet X G c⟩, hDKi X G c, hDOr X G c, hDWy X G c, hDSt X G c, hDFi X G c⟩
  feed := hDFeed X G c
  gr := hDGr X G c
  tr := hDTr X G c
  ab := hDAb X G c
  al := hDAl X G c
  ca := hDCa X G c
  sm := hDSm X G c
  fc := hDFc X G c
  ap := hDAp X G c
  ev := hDEv X G c
end
theorem facts {P : Program} {w : World} {f : Addr} (X : K.In h) (G : h.Ns mainGlobals mg) (hfa : mg ("law" : Str) = some (.ref f)) (c : He.SaysX fa fn [] [] ex w h K) :
    ∃ fd : FuncData, (∀ (s : Shared) (u : Value), BindsTo s fd ⟨[u], []⟩ [("_law_script", u)]) ∧ ∀ base : Heap, FnG P w K mg base 7 f fd ["_law_script"] (spLaw K) := by
  have cd := c.t.d
  obtain ⟨fd, F⟩ := cd.def_ 46 (d := dd "law" 61) rfl
  have F : FunD K "law" "law" (defArgs (topS 61)) (defBody (topS 61)) (defScope (topS 61)) [] [] (He.ga K "law") fd := F
  have e := hfa.symm.trans (He.glo_ok X G (cd.fact 46 (f := .glo "law") rfl))
  have e : f = He.ga K "law" := Value.ref.inj (Option.some.inj e)
  subst e
  have b := FunD.bindsA (ps := ["_law_script"]) F fun _ _ _ _ _ _ us hl => match us, hl with | [_], _ => rfl
  exact ⟨fd, fun s u => b s [u] rfl, fun base => ok_law (hPD X G cd c.more) (hLD X G cd) (funOf F)⟩
end
end KD
end
set_option Elab.async false
set_option linter.all false
open PySem PySem.W PySem.Calls PyProof.Rows
set_option maxRecDepth 100000 in
set_option maxHeartbeats 0 in
theorem PySem.Challenge.cw_lookdepth_k18_whole_fillings_by_all_holds : PySem.Challenge.rw_lookdepth_k18_whole_fillings_by_all.Holds := by
  w_on; o_law
  refine HandSHeadRun.head_any (r := OpenLaw.row PySem.Challenge.rw_lookdepth_k18_whole_fillings_by_all) (q := view (OpenLaw.row PySem.Challenge.rw_lookdepth_k18_whole_fillings_by_all).prog [61]) (H := KD.hk) (ob := KD.ob) (M := 2400) (loose := KD.names) (d := HandSHeadRun.topDef (OpenLaw.row PySem.Challenge.rw_lookdepth_k18_whole_fillings_by_all).prog 61) (kwd := []) KD.ob_eq
    (by kernel_rfl) (fun s => by kernel_rfl) KD.run (by kernel_rfl) (by kernel_rfl) (by kernel_rfl) (by rfl) (by first | assumption | decide +kernel) (by decide +kernel) ⟨rfl, rfl, rfl, rfl, rfl, by decide +kernel⟩ ?hw ?hc
  case hw => w_witness2
  case hc =>
    refine KD.walkG (l := PySem.Challenge.rw_lookdepth_k18_whole_fillings_by_all) (n := 63) (k := 7) (x := "_law_script") rfl (by decide) (by kernel_rfl) ⟨rfl, by decide, by decide⟩ ?F
    intro w mg fa h Y G hmg0
    obtain ⟨K, KX, c⟩ := Y
    have hmg : mg ("law" : PySem.Str) = some (.ref fa) := by
      have e : (HandSHeadRun.topDef (OpenLaw.row PySem.Challenge.rw_lookdepth_k18_whole_fillings_by_all).prog 61).name = ("law" : PySem.Str) := by kernel_rfl
      rw [← e]
      exact hmg0
    obtain ⟨fd, hb, hF⟩ := KD.facts (P := (PySem.Challenge.rw_lookdepth_k18_whole_fillings_by_all).prog) (w := w) KX G hmg c
    exact ⟨K, fd, KD.spLaw K, KX, hb, fun H a ns hl hS => ⟨a, ns, rfl, hS, hl, fun _ => rfl⟩, fun base _ _ => hF base⟩
