import PyProof.Rows.All
import Wide.All
import OpenK.AllK
import Wide.FinOn
import HandS.ForMost
import HandS.SortInts
import HandS.Small
import HandS.Zip
import HandS.Deep
import HandS.Style
import HandS.IsInst
import HandS.RaiseMore
import PySem.Challenge.RW_firelands_k65_whole_numbers_reported
import HandS.Gcd
set_option Elab.async false
set_option linter.all false
set_option maxRecDepth 100000
/-! Data with values: the readings of the hand layer said of plain data; cells that are owned may change, all else stands still. -/
namespace DL
open PySem PySem.Spec L2
abbrev St := L2.St

abbrev D := PyData
abbrev Frag := PySem.W.Frag

/-! ### data in a heap -/
mutual
inductive Rp (K : Frag) (G : Hp) : V → D → Prop
  | non : Rp K G .non .none
  | bl (b : Bool) : Rp K G (.bl b) (.bool b)
  | int (i : Int) : Rp K G (.int i) (.int i)
  | str (x : Str) : Rp K G (.str x) (.str x)
  | lst {a : Addr} {xs : List V} {ds : List D} : G a = some (.lst xs) → RpAll K G xs ds → Rp K G (.ref a) (.list ds)
  | tup {a : Addr} {xs : List V} {ds : List D} : SqT K G a xs → RpAll K G xs ds → Rp K G (.ref a) (.tuple ds)
  | dct {a : Addr} {xs : List (Key × V)} {ds : List (D × D)} : Rd G a (.dK xs) → RpKv K G xs ds → Rp K G (.ref a) (.dict ds)
inductive RpAll (K : Frag) (G : Hp) : List V → List D → Prop
  | nil : RpAll K G [] []
  | cons {v : V} {vs : List V} {d : D} {ds : List D} : Rp K G v d → RpAll K G vs ds → RpAll K G (v :: vs) (d :: ds)
inductive RpKv (K : Frag) (G : Hp) : List (Key × V) → List (D × D) → Prop
  | nil : RpKv K G [] []
  | consI {i : Int} {v : V} {vs : List (Key × V)} {d : D} {ds : List (D × D)} : Rp K G v d → RpKv K G vs ds → RpKv K G ((.inl i, v) :: vs) ((.int i, d) :: ds)
  | consS {x : Str} {v : V} {vs : List (Key × V)} {d : D} {ds : List (D × D)} : Rp K G v d → RpKv K G vs ds → RpKv K G ((.inr x, v) :: vs) ((.str x, d) :: ds)
end

theorem Same.rd {H H' : Hp} {a : Addr} {u : HO} (e : Same H H') (h : Rd H a u) : Rd H' a u := by
  rcases h with h | ⟨o, h⟩
  · exact .inl (e _ _ h)
  · exact .inr ⟨o, e _ _ h⟩
theorem Same.sqt {K : Frag} {H H' : Hp} {a : Addr} {xs : List V} (e : Same H H') (h : SqT K H a xs) : SqT K H' a xs := by
  rcases h with h | h
  · exact .inl (Same.rd e h)
  · exact .inr h
section
variable {K : Frag} {G G' : Hp}
mutual
theorem Rp.mono (e : Same G G') : ∀ {v : V} {d : D}, Rp K G v d → Rp K G' v d
  | _, _, .non => .non
  | _, _, .bl b => .bl b
  | _, _, .int i => .int i
  | _, _, .str x => .str x
  | _, _, .lst h r => .lst (e _ _ h) (RpAll.mono e r)
  | _, _, .tup h r => .tup (Same.sqt e h) (RpAll.mono e r)
  | _, _, .dct h r => .dct (Same.rd e h) (RpKv.mono e r)
theorem RpAll.mono (e : Same G G') : ∀ {vs : List V} {ds : List D}, RpAll K G vs ds → RpAll K G' vs ds
  | _, _, .nil => .nil
  | _, _, .cons h r => .cons (Rp.mono e h) (RpAll.mono e r)
theorem RpKv.mono (e : Same G G') : ∀ {vs : List (Key × V)} {ds : List (D × D)}, RpKv K G vs ds → RpKv K G' vs ds
  | _, _, .nil => .nil
  | _, _, .consI h r => .consI (Rp.mono e h) (RpKv.mono e r)
  | _, _, .consS h r => .consS (Rp.mono e h) (RpKv.mono e r)
end
theorem RpAll.length {vs : List V} {ds : List D} (h : RpAll K G vs ds) : vs.length = ds.length := by
  induction vs generalizing ds with
  | nil => cases h; rfl
  | cons v r ih => cases h with | cons a b => simp [ih b]
theorem RpAll.get {vs : List V} {ds : List D} (h : RpAll K G vs ds) {i : Nat} {d : D} (e : ds[i]? = some d) : ∃ v, vs[i]? = some v ∧ Rp K G v d := by
  induction vs generalizing ds i with
  | nil => cases h; simp at e
  | cons v r ih =>
    cases h with
    | cons a b =>
      cases i with
      | zero => simp at e; subst e; exact ⟨v, rfl, a⟩
      | succ i => simp at e; simpa using ih b e
theorem RpAll.getV {vs : List V} {ds : List D} (h : RpAll K G vs ds) {i : Nat} {v : V} (e : vs[i]? = some v) : ∃ d, ds[i]? = some d ∧ Rp K G v d := by
  induction vs generalizing ds i with
  | nil => cases h; simp at e
  | cons v r ih =>
    cases h with
    | cons a b =>
      cases i with
      | zero => simp at e; subst e; exact ⟨_, rfl, a⟩
      | succ i => simp at e; simpa using ih b e
theorem RpAll.append {vs ws : List V} {ds es : List D} (h : RpAll K G vs ds) (h2 : RpAll K G ws es) : RpAll K G (vs ++ ws) (ds ++ es) := by
  induction vs generalizing ds with
  | nil => cases h; exact h2
  | cons v r ih => cases h with | cons a b => exact .cons a (ih b)
theorem RpAll.take {vs : List V} {ds : List D} (h : RpAll K G vs ds) (n : Nat) : RpAll K G (vs.take n) (ds.take n) := by
  induction vs generalizing ds n with
  | nil => cases h; simp; exact .nil
  | cons v r ih =>
    cases h with
    | cons a b =>
      cases n with
      | zero => exact .nil
      | succ n => exact .cons a (ih b n)
theorem RpAll.drop {vs : List V} {ds : List D} (h : RpAll K G vs ds) (n : Nat) : RpAll K G (vs.drop n) (ds.drop n) := by
  induction vs generalizing ds n with
  | nil => cases h; simp; exact .nil
  | cons v r ih =>
    cases h with
    | cons a b =>
      cases n with
      | zero => exact .cons a b
      | succ n => exact ih b n
theorem RpAll.set {vs : List V} {ds : List D} (h : RpAll K G vs ds) {v : V} {d : D} (r : Rp K G v d) (n : Nat) : RpAll K G (vs.set n v) (ds.set n d) := by
  induction vs generalizing ds n with
  | nil => cases h; exact .nil
  | cons v' r' ih =>
    cases h with
    | cons a b =>
      cases n with
      | zero => exact .cons r b
      | succ n => exact .cons a (ih b n)
mutual
theorem Rp.dp : ∀ {v : V} {d : D}, Rp K G v d → d.canLay0 = true → Dp K G v d
  | _, _, .non, _ => .non
  | _, _, .bl b, _ => .bl b
  | _, _, .int i, _ => .int i
  | _, _, .str x, _ => .str x
  | _, _, .lst h r, c => .lst (SqL.of h) (RpAll.dp r (by simpa [PyData.canLay0] using c))
  | _, _, .tup h r, c => .tup h (RpAll.dp r (by simpa [PyData.canLay0] using c))
  | _, _, .dct h r, c => by simp [PyData.canLay0] at c
theorem RpAll.dp : ∀ {vs : List V} {ds : List D}, RpAll K G vs ds → PyData.canLayAll0 ds = true → DpAll K G vs ds
  | _, _, .nil, _ => .nil
  | _, _, .cons h r, c => by
    simp [PyData.canLayAll0] at c
    exact .cons (Rp.dp h c.1) (RpAll.dp r c.2)
end
/-- a datum without objects -/
def imm : D → Bool
  | .list _ | .tuple _ | .dict _ => false
  | _ => true
theorem Rp.imm {v : V} {d : D} (h : Rp K G v d) (c : imm d = true) : Rp K G' v d := by
  cases h <;> first | (simp [DL.imm] at c; done) | constructor
end

/-! ### owned cells -/
inductive Cell where
  | lst (ds : List D)
  | dK (ds : List (D × D))
  | fix (p : Addr) (c : Cell)
def CellOk (K : Frag) (G : Hp) (o : HO) : Cell → Prop
  | .lst ds => ∃ vs, o = .lst vs ∧ RpAll K G vs ds
  | .dK ds => ∃ vs, o = .dK vs ∧ RpKv K G vs ds
  | .fix _ c => CellOk K G o c
/-- where it stands, if that is told -/
def Cell.tag : Cell → Addr → Prop
  | .fix q _, p => p = q
  | _, _ => True
def Cell.d : Cell → D
  | .lst ds => .list ds
  | .dK ds => .dict ds
  | .fix _ c => c.d
theorem CellOk.mono {K : Frag} {G G' : Hp} (e : Same G G') {o : HO} {c : Cell} (h : CellOk K G o c) : CellOk K G' o c := by
  induction c with
  | lst ds => obtain ⟨vs, e1, r⟩ := h; exact ⟨vs, e1, r.mono e⟩
  | dK ds => obtain ⟨vs, e1, r⟩ := h; exact ⟨vs, e1, r.mono e⟩
  | fix p c ih => exact ih h
theorem CellOk.rp {K : Frag} {G : Hp} {o : HO} {c : Cell} {p : Addr} (h : CellOk K G o c) (hp : G p = some o) : Rp K G (.ref p) c.d := by
  induction c with
  | lst ds => obtain ⟨vs, e1, r⟩ := h; subst e1; exact .lst hp r
  | dK ds => obtain ⟨vs, e1, r⟩ := h; subst e1; exact .dct (Rd.of hp) r
  | fix p c ih => exact ih h
/-- the heap without some addresses -/
noncomputable def mask (O : Addr → Prop) (H : Hp) : Hp := fun a => by classical exact if O a then none else H a
theorem mask_of {O : Addr → Prop} {H : Hp} {a : Addr} (h : ¬ O a) : mask O H a = H a := by unfold mask; simp [h]
theorem mask_in {O : Addr → Prop} {H : Hp} {a : Addr} (h : O a) : mask O H a = none := by unfold mask; simp [h]
theorem mask_some {O : Addr → Prop} {H : Hp} {a : Addr} {o : HO} (h : mask O H a = some o) : ¬ O a ∧ H a = some o := by
  by_cases k : O a
  · rw [mask_in k] at h; cases h
  · rw [mask_of k] at h; exact ⟨k, h⟩
theorem mask_same {O O' : Addr → Prop} {H H' : Hp} (k : ∀ a o, ¬ O a → H a = some o → ¬ O' a ∧ H' a = some o) : Same (mask O H) (mask O' H') := fun a o h => by
  obtain ⟨h1, h2⟩ := mask_some h
  obtain ⟨h3, h4⟩ := k a o h1 h2
  rw [mask_of h3, h4]
theorem mask_le {O : Addr → Prop} {H : Hp} : Same (mask O H) H := fun a o h => (mask_some h).2

inductive Slot where
  | un | nev | val (d : D) | own (c : Cell) | scr (ns : List Int)
def SlotOk (K : Frag) (G H : Hp) (x : Option V) : Slot → Prop
  | .un => True
  | .nev => False
  | .val d => ∃ v, x = some v ∧ Rp K G v d
  | .own c => ∃ p o, x = some (.ref p) ∧ H p = some o ∧ CellOk K G o c ∧ c.tag p
  | .scr ns => ∃ p, x = some (.ref p) ∧ SqL K G p (ns.map V.int)
abbrev Sl := List Slot
def OwnAt (σ : L2.St) (δ : Sl) (i : Nat) (a : Addr) : Prop := (∃ c, δ[i]? = some (.own c)) ∧ σ[i]? = some (some (.ref a))
/-- what may not be leant on: foreign cells, own cells -/
def ow (σ : L2.St) (δ : Sl) : Addr → Prop := fun a => ∃ i, OwnAt σ δ i a
def msk (O : Addr → Prop) (σ : L2.St) (δ : Sl) : Addr → Prop := fun a => O a ∨ ow σ δ a
structure ER (K : Frag) (O : Addr → Prop) (He H : Hp) (σ : L2.St) (δ : Sl) : Prop where
  len : σ.length = δ.length
  same : Same He H
  fresh : ∀ i a, OwnAt σ δ i a → He a = none
  inj : ∀ i j a, OwnAt σ δ i a → OwnAt σ δ j a → i = j
  disj : ∀ i a, OwnAt σ δ i a → ¬ O a
  dom : ∀ a, O a → H a ≠ none
  slot : ∀ (i : Nat) (s : Slot), δ[i]? = some s → ∃ x, σ[i]? = some x ∧ SlotOk K (mask (msk O σ δ) H) H x s
/-- all but some addresses stands still; nothing goes -/
structure Keep (O : Addr → Prop) (H H' : Hp) : Prop where
  at' : ∀ a o, ¬ O a → H a = some o → H' a = some o
  dom : ∀ a, H a ≠ none → H' a ≠ none
theorem Keep.refl {O : Addr → Prop} {H : Hp} : Keep O H H := ⟨fun _ _ _ h => h, fun _ h => h⟩
theorem Keep.trans {O : Addr → Prop} {H H1 H2 : Hp} (a : Keep O H H1) (b : Keep O H1 H2) : Keep O H H2 := ⟨fun c o n h => b.at' c o n (a.at' c o n h), fun c h => b.dom c (a.dom c h)⟩
theorem Same.ne {H H' : Hp} (e : Same H H') {a : Addr} (h : H a ≠ none) : H' a ≠ none := by
  cases q : H a with
  | none => exact absurd q h
  | some o => rw [e _ _ q]; exact fun z => nomatch z
theorem Keep.of {O : Addr → Prop} {H H' : Hp} (h : Same H H') : Keep O H H' := ⟨fun a o _ e => h a o e, fun a e => Same.ne h e⟩
theorem Keep.mask {O : Addr → Prop} {σ : L2.St} {δ : Sl} {H H' : Hp} (k : Keep (ow σ δ) H H') : Same (mask (msk O σ δ) H) (mask (msk O σ δ) H') := mask_same fun a o n h => ⟨n, k.at' a o (fun z => n (.inr z)) h⟩
theorem mask_mono {O : Addr → Prop} {H H' : Hp} (e : Same H H') : Same (mask O H) (mask O H') := mask_same fun a o n h => ⟨n, e a o h⟩
theorem Keep.none {O : Addr → Prop} {H H' : Hp} (k : Keep O H H') {a : Addr} (h : H' a = none) : H a = none := by
  cases e : H a with
  | none => rfl
  | some o => exact absurd h (k.dom a (by rw [e]; exact fun z => nomatch z))
theorem Keep.mono {O O' : Addr → Prop} {H H' : Hp} (k : Keep O H H') (l : ∀ a, O a → O' a) : Keep O' H H' := ⟨fun a o n h => k.at' a o (fun z => n (l a z)) h, k.dom⟩
section
variable {K : Frag} {O : Addr → Prop} {He H H' : Hp} {σ : L2.St} {δ δ' : Sl}
theorem SlotOk.mono {G G' : Hp} {x : Option V} {s : Slot} (e : Same G G') (k : ∀ p o, x = some (.ref p) → (∃ c, s = .own c) → H p = some o → H' p = some o) (h : SlotOk K G H x s) : SlotOk K G' H' x s := by
  cases s with
  | un => trivial
  | nev => exact h
  | val d => obtain ⟨v, e1, r⟩ := h; exact ⟨v, e1, r.mono e⟩
  | own c => obtain ⟨p, o, e1, e2, r, t⟩ := h; exact ⟨p, o, e1, k p o e1 ⟨c, rfl⟩ e2, r.mono e, t⟩
  | scr ns => obtain ⟨p, e1, r⟩ := h; exact ⟨p, e1, e.seq r⟩
/-- nothing has changed, something may have come -/
theorem ER.mono (h : ER K O He H σ δ) (e : Same H H') : ER K O He H' σ δ :=
  ⟨h.len, h.same.trans e, h.fresh, h.inj, h.disj, fun a q => Same.ne e (h.dom a q), fun i s hs => by
    obtain ⟨x, hx, r⟩ := h.slot i s hs
    exact ⟨x, hx, r.mono (mask_mono e) fun p o _ _ q => e p o q⟩⟩
/-- fewer foreign cells -/
theorem ER.sub {O' : Addr → Prop} (h : ER K O He H σ δ) (l : ∀ a, O' a → O a) : ER K O' He H σ δ := by
  have less : ∀ a, msk O' σ δ a → msk O σ δ a := fun a q => by
    rcases q with q | q
    · exact .inl (l a q)
    · exact .inr q
  exact ⟨h.len, h.same, h.fresh, h.inj, fun i a q z => h.disj i a q (l a z), fun a q => h.dom a (l a q), fun i s hs => by
    obtain ⟨x, hx, r⟩ := h.slot i s hs
    exact ⟨x, hx, r.mono (mask_same fun a o n e => ⟨fun q => n (less a q), e⟩) fun _ _ _ _ q => q⟩⟩
theorem ER.val (h : ER K O He H σ δ) {i : Nat} {d : D} (e : δ[i]? = some (.val d)) : ∃ v, σ[i]? = some (some v) ∧ Rp K (mask (msk O σ δ) H) v d := by
  obtain ⟨x, hx, v, rfl, r⟩ := h.slot i _ e
  exact ⟨v, hx, r⟩
theorem ER.cell (h : ER K O He H σ δ) {i : Nat} {c : Cell} (e : δ[i]? = some (.own c)) : ∃ p o, σ[i]? = some (some (.ref p)) ∧ H p = some o ∧ CellOk K (mask (msk O σ δ) H) o c ∧ OwnAt σ δ i p := by
  obtain ⟨x, hx, p, o, rfl, ho, r, _⟩ := h.slot i _ e
  exact ⟨p, o, hx, ho, r, ⟨c, e⟩, hx⟩
theorem ER.ctag (h : ER K O He H σ δ) {i : Nat} {c : Cell} (e : δ[i]? = some (.own c)) {p : Addr} (hp : σ[i]? = some (some (.ref p))) : c.tag p := by
  obtain ⟨x, hx, q, o, rfl, ho, r, t⟩ := h.slot i _ e
  rw [hp] at hx
  cases hx
  exact t
theorem own_set_val {i j : Nat} {a : Addr} {x : Option V} {s : Slot} (hs : ∀ c, s ≠ .own c) (h : OwnAt (σ.set i x) (δ.set i s) j a) : j ≠ i ∧ OwnAt σ δ j a := by
  obtain ⟨⟨c, h1⟩, h2⟩ := h
  by_cases e : j = i
  · subst e
    by_cases l : j < δ.length
    · rw [List.getElem?_set_self l] at h1; cases h1; exact absurd rfl (hs c)
    · rw [List.getElem?_eq_none (by simpa using l)] at h1; cases h1
  · rw [List.getElem?_set_ne (Ne.symm e)] at h1 h2
    exact ⟨e, ⟨c, h1⟩, h2⟩
theorem own_set_own {i j : Nat} {a p : Addr} {c : Cell} (h : OwnAt (σ.set i (some (.ref p))) (δ.set i (.own c)) j a) : (j = i ∧ a = p) ∨ (j ≠ i ∧ OwnAt σ δ j a) := by
  obtain ⟨⟨c, h1⟩, h2⟩ := h
  by_cases e : j = i
  · subst e
    refine .inl ⟨rfl, ?_⟩
    by_cases l : j < σ.length
    · rw [List.getElem?_set_self l] at h2; cases h2; rfl
    · rw [List.getElem?_eq_none (by simpa using l)] at h2; cases h2
  · rw [List.getElem?_set_ne (Ne.symm e)] at h1 h2
    exact .inr ⟨e, ⟨c, h1⟩, h2⟩
/-- a name is given a value -/
theorem ER.setv (h : ER K O He H σ δ) {i : Nat} {v : V} {s : Slot} (hs : s = .un ∨ ∃ d, s = .val d ∧ Rp K (mask (msk O σ δ) H) v d) : ER K O He H (σ.set i (some v)) (δ.set i s) := by
  have hn : ∀ c, s ≠ .own c := by
    intro c
    rcases hs with rfl | ⟨d, rfl, _⟩ <;> exact fun q => nomatch q
  have less : ∀ a, msk O (σ.set i (some v)) (δ.set i s) a → msk O σ δ a := fun a q => by
    rcases q with q | ⟨j, q⟩
    · exact .inl q
    · exact .inr ⟨j, (own_set_val hn q).2⟩
  have sm : Same (mask (msk O σ δ) H) (mask (msk O (σ.set i (some v)) (δ.set i s)) H) := mask_same fun a o n e => ⟨fun q => n (less a q), e⟩
  refine ⟨by simp [h.len], h.same, fun j a q => h.fresh j a (own_set_val hn q).2, fun j k a q q' => h.inj j k a (own_set_val hn q).2 (own_set_val hn q').2, fun j a q => h.disj j a (own_set_val hn q).2, h.dom, fun j t ht => ?_⟩
  by_cases e : j = i
  · subst e
    by_cases l : j < δ.length
    · rw [List.getElem?_set_self l] at ht
      cases ht
      refine ⟨some v, List.getElem?_set_self (by rw [h.len]; exact l), ?_⟩
      rcases hs with rfl | ⟨d, rfl, r⟩
      · trivial
      · exact ⟨v, rfl, r.mono sm⟩
    · rw [List.getElem?_eq_none (by simpa using l)] at ht; cases ht
  · rw [List.getElem?_set_ne (Ne.symm e)] at ht ⊢
    obtain ⟨x, hx, r⟩ := h.slot j t ht
    exact ⟨x, hx, r.mono sm fun _ _ _ _ q => q⟩
/-- a name is given a new cell, till now foreign -/
theorem ER.seto {i : Nat} {p : Addr} {o : HO} {c : Cell} (h : ER K (fun a => O a ∨ a = p) He H σ δ) (np : ¬ O p) (hpe : He p = none) (ho : H p = some o)
    (hc : CellOk K (mask (msk (fun a => O a ∨ a = p) σ δ) H) o c) (hct : c.tag p) : ER K O He H (σ.set i (some (.ref p))) (δ.set i (.own c)) := by
  have npj : ∀ j, ¬ OwnAt σ δ j p := fun j q => h.disj j p q (.inr rfl)
  have less : ∀ a, msk O (σ.set i (some (.ref p))) (δ.set i (.own c)) a → msk (fun a => O a ∨ a = p) σ δ a := fun a q => by
    rcases q with q | ⟨j, q⟩
    · exact .inl (.inl q)
    · rcases own_set_own q with ⟨_, e⟩ | ⟨_, q⟩
      · exact .inl (.inr e)
      · exact .inr ⟨j, q⟩
  have sm : Same (mask (msk (fun a => O a ∨ a = p) σ δ) H) (mask (msk O (σ.set i (some (.ref p))) (δ.set i (.own c))) H) := mask_same fun a o n e => ⟨fun q => n (less a q), e⟩
  refine ⟨by simp [h.len], h.same, fun j a q => ?_, fun j l a q q' => ?_, fun j a q => ?_, fun a q => h.dom a (.inl q), fun j t ht => ?_⟩
  · rcases own_set_own q with ⟨_, e⟩ | ⟨_, q⟩
    · rw [e]; exact hpe
    · exact h.fresh j a q
  · rcases own_set_own q with ⟨e1, e⟩ | ⟨_, q⟩
    · rcases own_set_own q' with ⟨e2, _⟩ | ⟨_, q'⟩
      · rw [e1, e2]
      · rw [e] at q'; exact absurd q' (npj l)
    · rcases own_set_own q' with ⟨e2, e⟩ | ⟨_, q'⟩
      · rw [e] at q; exact absurd q (npj j)
      · exact h.inj j l a q q'
  · rcases own_set_own q with ⟨_, e⟩ | ⟨_, q⟩
    · rw [e]; exact np
    · exact fun z => h.disj j a q (.inl z)
  · by_cases e : j = i
    · subst e
      by_cases l : j < δ.length
      · rw [List.getElem?_set_self l] at ht
        cases ht
        exact ⟨some (.ref p), List.getElem?_set_self (by rw [h.len]; exact l), p, o, rfl, ho, hc.mono sm, hct⟩
      · rw [List.getElem?_eq_none (by simpa using l)] at ht; cases ht
    · rw [List.getElem?_set_ne (Ne.symm e)] at ht ⊢
      obtain ⟨x, hx, r⟩ := h.slot j t ht
      exact ⟨x, hx, r.mono sm fun _ _ _ _ q => q⟩
/-- a cell is changed, all else stands (or has come) -/
theorem ER.putc (h : ER K O He H σ δ) {i : Nat} {p : Addr} {o : HO} {c : Cell} (hp : OwnAt σ δ i p) (k : ∀ a u, a ≠ p → H a = some u → H' a = some u) (ho : H' p = some o) (hc : CellOk K (mask (msk O σ δ) H') o c) (hct : c.tag p) : ER K O He H' σ (δ.set i (.own c)) := by
  obtain ⟨⟨c0, h1⟩, h2⟩ := id hp
  have li : i < δ.length := (List.getElem?_eq_some_iff.mp h1).1
  have hk : ∀ j a, OwnAt σ (δ.set i (.own c)) j a ↔ OwnAt σ δ j a := fun j a => by
    unfold OwnAt
    by_cases e : j = i
    · subst e
      rw [List.getElem?_set_self li]
      exact ⟨fun q => ⟨⟨c0, h1⟩, q.2⟩, fun q => ⟨⟨c, rfl⟩, q.2⟩⟩
    · rw [List.getElem?_set_ne (Ne.symm e)]
  have hm : ∀ a, msk O σ (δ.set i (.own c)) a ↔ msk O σ δ a := fun a => by
    unfold msk ow
    simp only [hk]
  have sm : Same (mask (msk O σ δ) H) (mask (msk O σ (δ.set i (.own c))) H') := mask_same fun a u n e => ⟨fun q => n ((hm a).mp q), by
    refine k a u ?_ e
    rintro rfl
    exact n (.inr ⟨i, hp⟩)⟩
  have sm2 : Same (mask (msk O σ δ) H') (mask (msk O σ (δ.set i (.own c))) H') := mask_same fun a u n e => ⟨fun q => n ((hm a).mp q), e⟩
  refine ⟨by simp [h.len], fun a u e => ?_, fun j a q => h.fresh j a ((hk j a).mp q), fun j l a q q' => h.inj j l a ((hk j a).mp q) ((hk l a).mp q'), fun j a q => h.disj j a ((hk j a).mp q), fun a q z => ?_, fun j t ht => ?_⟩
  · refine k a u ?_ (h.same a u e)
    rintro rfl
    rw [h.fresh i a hp] at e
    cases e
  · have q2 := h.dom a q
    cases q3 : H a with
    | none => exact q2 q3
    | some u =>
      rw [k a u (fun e => h.disj i p hp (e ▸ q)) q3] at z
      cases z
  · by_cases e : j = i
    · subst e
      rw [List.getElem?_set_self li] at ht
      cases ht
      exact ⟨_, h2, p, o, rfl, ho, hc.mono sm2, hct⟩
    · rw [List.getElem?_set_ne (Ne.symm e)] at ht
      obtain ⟨x, hx, r⟩ := h.slot j t ht
      refine ⟨x, hx, r.mono sm fun q u e1 e2 e3 => ?_⟩
      obtain ⟨c2, rfl⟩ := e2
      refine k q u ?_ e3
      rintro rfl
      exact e (h.inj j i q ⟨⟨c2, ht⟩, by rw [hx, e1]⟩ hp)
theorem ER.mdom (h : ER K O He H σ δ) {a : Addr} (q : msk O σ δ a) : H a ≠ none := by
  rcases q with q | ⟨i, ⟨c, h1⟩, h2⟩
  · exact h.dom a q
  · obtain ⟨p, o, e1, e2, _⟩ := h.cell h1
    rw [h2] at e1
    cases e1
    rw [e2]
    exact fun z => nomatch z
theorem same_new {H : Hp} {p : Addr} {o : HO} (h : H p = none) : Same H (upd H p o) := fun b x e => by
  rw [upd_ne (ne_of_none e h)]
  exact e
/-- a new cell has come, foreign as yet -/
theorem msk_new {l : Addr} {o : HO} (hl : H l = none) : Same (mask (msk O σ δ) H) (mask (msk (fun a => O a ∨ a = l) σ δ) (upd H l o)) := mask_same fun a u n e => by
  have ne : a ≠ l := ne_of_none e hl
  refine ⟨fun z => ?_, by rw [upd_ne ne]; exact e⟩
  rcases z with (z | z) | z
  · exact n (.inl z)
  · exact ne z
  · exact n (.inr z)
theorem ER.new (h : ER K O He H σ δ) {l : Addr} {o : HO} (hl : H l = none) : ER K (fun a => O a ∨ a = l) He (upd H l o) σ δ := by
  have sm := same_new (o := o) hl
  refine ⟨h.len, h.same.trans sm, h.fresh, h.inj, fun i a q z => ?_, fun a z => ?_, fun i s hs => ?_⟩
  · rcases z with z | z
    · exact h.disj i a q z
    · exact h.mdom (.inr ⟨i, q⟩) (z ▸ hl)
  · rcases z with z | z
    · exact Same.ne sm (h.dom a z)
    · rw [z, upd_same]; exact fun z => nomatch z
  · obtain ⟨x, hx, r⟩ := h.slot i s hs
    exact ⟨x, hx, r.mono (msk_new hl) fun p u _ _ q => sm p u q⟩
theorem ER.newp (h : ER K O He H σ δ) {l : Addr} (hl : H l = none) : ¬ O l := fun z => h.dom l z hl
/-- from one place of the code to another: what stands still, what may be newly one's own -/
structure Fr (H : Hp) (σ : L2.St) (δ : Sl) (H' : Hp) (σ' : L2.St) (δ' : Sl) : Prop where
  keep : Keep (ow σ δ) H H'
  own : ∀ a, ow σ' δ' a → ow σ δ a ∨ H a = none
theorem Fr.trans {H1 H2 : Hp} {σ1 σ2 : L2.St} {δ1 δ2 : Sl} (a : Fr H σ δ H1 σ1 δ1) (b : Fr H1 σ1 δ1 H2 σ2 δ2) : Fr H σ δ H2 σ2 δ2 := by
  refine ⟨⟨fun c o n h => b.keep.at' c o (fun z => ?_) (a.keep.at' c o n h), fun c h => b.keep.dom c (a.keep.dom c h)⟩, fun c h => ?_⟩
  · rcases a.own c z with q | q
    · exact n q
    · rw [q] at h; cases h
  · rcases b.own c h with q | q
    · exact a.own c q
    · exact .inr (a.keep.none q)
theorem Fr.of (k : Keep (ow σ δ) H H') (e : ∀ a, ow σ δ' a → ow σ δ a) : Fr H σ δ H' σ δ' := ⟨k, fun a h => .inl (e a h)⟩
/-- what was frozen stays so -/
theorem Fr.same {H1 : Hp} {σ1 : L2.St} {δ1 : Sl} (a : Fr H σ δ H1 σ1 δ1) : Same (mask (msk O σ δ) H) (mask (msk O σ1 δ1) H1) := mask_same fun c o n h => by
  refine ⟨fun z => ?_, a.keep.at' c o (fun z => n (.inr z)) h⟩
  rcases z with z | z
  · exact n (.inl z)
  · rcases a.own c z with q | q
    · exact n (.inr q)
    · rw [q] at h; cases h
/-- weaker slots -/
inductive SLe : Slot → Slot → Prop
  | un (s : Slot) : SLe s .un
  | rfl (s : Slot) : SLe s s
  | frz (c : Cell) : SLe (.own c) (.val c.d)
  | nev (s : Slot) : SLe .nev s
inductive Le : Sl → Sl → Prop
  | nil : Le [] []
  | cons {s t : Slot} {a b : Sl} : SLe s t → Le a b → Le (s :: a) (t :: b)
theorem Le.refl : ∀ δ : Sl, Le δ δ
  | [] => .nil
  | s :: r => .cons (.rfl s) (Le.refl r)
theorem Le.length {δ δ' : Sl} (l : Le δ δ') : δ.length = δ'.length := by
  induction l with
  | nil => rfl
  | cons _ _ ih => simp [ih]
theorem Le.get {δ δ' : Sl} (l : Le δ δ') : ∀ {i : Nat} {t : Slot}, δ'[i]? = some t → ∃ s, δ[i]? = some s ∧ SLe s t := by
  induction l with
  | nil => intro i t h; simp at h
  | cons a b ih =>
    intro i t h
    cases i with
    | zero => simp at h; subst h; exact ⟨_, by simp, a⟩
    | succ i => simp at h; simpa using ih h
theorem Le.own {δ δ' : Sl} (l : Le δ δ') (nn : ∀ i : Nat, δ[i]? ≠ some .nev) {i : Nat} {a : Addr} (h : OwnAt σ δ' i a) : OwnAt σ δ i a := by
  obtain ⟨⟨c, h1⟩, h2⟩ := h
  obtain ⟨s, h3, h4⟩ := l.get h1
  cases h4 with
  | rfl => exact ⟨⟨c, h3⟩, h2⟩
  | nev => exact absurd h3 (nn i)
theorem ER.le (h : ER K O He H σ δ) (l : Le δ δ') : ER K O He H σ δ' := by
  have nn : ∀ i : Nat, δ[i]? ≠ some .nev := fun i e => by
    obtain ⟨x, _, r⟩ := h.slot i _ e
    exact r
  have less : ∀ a, msk O σ δ' a → msk O σ δ a := fun a q => by
    rcases q with q | ⟨j, q⟩
    · exact .inl q
    · exact .inr ⟨j, l.own nn q⟩
  have sm : Same (mask (msk O σ δ) H) (mask (msk O σ δ') H) := mask_same fun a o n e => ⟨fun q => n (less a q), e⟩
  refine ⟨by rw [h.len, l.length], h.same, fun i a q => h.fresh i a (l.own nn q), fun i j a q q' => h.inj i j a (l.own nn q) (l.own nn q'), fun i a q => h.disj i a (l.own nn q), h.dom, fun i t ht => ?_⟩
  obtain ⟨s, h3, h4⟩ := l.get ht
  obtain ⟨x, hx, r⟩ := h.slot i s h3
  refine ⟨x, hx, ?_⟩
  cases h4 with
  | un => trivial
  | rfl => exact r.mono sm fun _ _ _ _ q => q
  | nev => exact r.elim
  | frz c =>
    obtain ⟨p, o, e1, e2, r, _⟩ := r
    refine ⟨.ref p, e1, (r.mono sm).rp ?_⟩
    subst e1
    have np : ¬ msk O σ δ' p := fun q => by
      rcases q with q | ⟨j, q⟩
      · exact h.disj i p ⟨⟨c, h3⟩, hx⟩ q
      · have q2 := h.inj i j p ⟨⟨c, h3⟩, hx⟩ (l.own nn q)
        subst q2
        obtain ⟨⟨c2, q3⟩, _⟩ := q
        rw [ht] at q3
        cases q3
    rw [mask_of np]
    exact e2
end
end DL

namespace DL
open PySem PySem.Spec L2

/-! ### programs over plain data: a state, or nothing -/
section
variable {S α β γ : Type}
def pu (a : α) : S → Option (α × S) := fun s => some (a, s)
def bd (m : S → Option (α × S)) (f : α → S → Option (β × S)) : S → Option (β × S) := fun s => (m s).bind fun p => f p.1 p.2
def lf (o : Option α) : S → Option (α × S) := fun s => o.map fun a => (a, s)
/-- a condition -/
def gd (c : Prop) [Decidable c] (m : S → Option (α × S)) : S → Option (α × S) := fun s => if c then m s else none
theorem bd_some {m : S → Option (α × S)} {f : α → S → Option (β × S)} {s : S} {p : β × S} (h : bd m f s = some p) : ∃ a t, m s = some (a, t) ∧ f a t = some p := by
  unfold bd at h
  cases e : m s with
  | none => rw [e] at h; cases h
  | some q => rw [e] at h; exact ⟨q.1, q.2, rfl, h⟩
theorem bd_of {m : S → Option (α × S)} {f : α → S → Option (β × S)} {s t : S} {a : α} (h : m s = some (a, t)) : bd m f s = f a t := by
  unfold bd
  rw [h]
  rfl
theorem lf_some {o : Option α} {s : S} {a : α} {s' : S} (h : lf o s = some (a, s')) : o = some a ∧ s' = s := by
  unfold lf at h
  cases o with
  | none => cases h
  | some b => cases h; exact ⟨rfl, rfl⟩
theorem pu_some {a b : α} {s s' : S} (h : pu a s = some (b, s')) : b = a ∧ s' = s := by cases h; exact ⟨rfl, rfl⟩
theorem gd_some {c : Prop} [Decidable c] {m : S → Option (α × S)} {s : S} {p : α × S} (h : gd c m s = some p) : c ∧ m s = some p := by
  unfold gd at h
  split at h
  · exact ⟨‹_›, h⟩
  · cases h
theorem bd_pu (a : α) (f : α → S → Option (β × S)) : bd (pu a) f = f a := rfl
theorem bd_bd (m : S → Option (α × S)) (f : α → S → Option (β × S)) (g : β → S → Option (γ × S)) : bd (bd m f) g = bd m fun a => bd (f a) g := by
  funext s
  unfold bd
  cases m s <;> rfl
theorem lf_pu (a : α) : (lf (some a) : S → Option (α × S)) = pu a := rfl
end

/-! ### how plain things stand as data -/
abbrev rI : Int → D := PyData.int
abbrev rB : Bool → D := PyData.bool
abbrev rS : Str → D := PyData.str
abbrev rN : Unit → D := fun _ => PyData.none
abbrev rL {α : Type} (r : α → D) : List α → D := fun xs => .list (xs.map r)
abbrev rT {α : Type} (r : α → D) : List α → D := fun xs => .tuple (xs.map r)
abbrev r2 {α β : Type} (r : α → D) (t : β → D) : α × β → D := fun p => .tuple [r p.1, t p.2]
abbrev r3 {α β γ : Type} (r : α → D) (t : β → D) (u : γ → D) : α × β × γ → D := fun p => .tuple [r p.1, t p.2.1, u p.2.2]
abbrev r4 {α β γ δ : Type} (r : α → D) (t : β → D) (u : γ → D) (w : δ → D) : α × β × γ × δ → D := fun p => .tuple [r p.1, t p.2.1, u p.2.2.1, w p.2.2.2]
def rO {α : Type} (r : α → D) : Option α → D
  | none => .none
  | some a => r a
abbrev cL {α : Type} (r : α → D) : List α → Cell := fun xs => .lst (xs.map r)

/-! ### wishes -/
structure wpE (X : Cx) (e : Expr) (σ : L2.St) (H : Hp) (Q : VK) : Prop where
  run : ∀ pins s, Inv X pins σ H s → wpAny (model X.prog X.w) X.A (eval e X.env) (EP X pins σ Q) X.xe s
theorem peW (X : Cx) (e : Expr) : PE X e (wpE X e) := ⟨fun pins s _ _ _ I h => h.run pins s I⟩
theorem PEwp {X : Cx} {e : Expr} {t : TE} (h : PE X e t) {σ : L2.St} {H : Hp} {Q : VK} (q : t σ H Q) : wpE X e σ H Q := ⟨fun pins s I => h.run pins s σ H Q I q⟩
structure wpT (X : Cx) (e : Expr) (σ : L2.St) (H : Hp) (Q : Bool → Hp → Prop) : Prop where
  run : ∀ pins s, Inv X pins σ H s → wpAny (model X.prog X.w) X.A (isTrue e X.env (eval e X.env)) (TP X pins σ Q) X.xe s
theorem ptW (X : Cx) (e : Expr) : PT X e (wpT X e) := ⟨fun pins s _ _ _ I h => h.run pins s I⟩
theorem PTwp {X : Cx} {e : Expr} {t : TT} (h : PT X e t) {σ : L2.St} {H : Hp} {Q : Bool → Hp → Prop} (q : t σ H Q) : wpT X e σ H Q := ⟨fun pins s I => h.run pins s σ H Q I q⟩
structure wpW (X : Cx) (e : Expr) (σ : L2.St) (H : Hp) (Q : Bool → Hp → Prop) : Prop where
  run : ∀ wh pins s, Inv X pins σ H s → wpAny (model X.prog X.w) X.A (isTrue e X.env wh) (TP X pins σ Q) X.xe s
theorem pwW (X : Cx) (e : Expr) : PW X e (wpW X e) := ⟨fun wh pins s _ _ _ I h => h.run wh pins s I⟩
theorem PWwp {X : Cx} {e : Expr} {t : TT} (h : PW X e t) {σ : L2.St} {H : Hp} {Q : Bool → Hp → Prop} (q : t σ H Q) : wpW X e σ H Q := ⟨fun wh pins s I => h.run wh pins s σ H Q I q⟩
structure wpA (X : Cx) (es : List Expr) (σ : L2.St) (H : Hp) (Q : List V → Hp → Prop) : Prop where
  run : ∀ pos pins s, Inv X pins σ H s → wpAny (model X.prog X.w) X.A (spliced (backTo pos (starEach es X.env))) (AP X pins σ Q) X.xe s
theorem paW (X : Cx) (es : List Expr) : PA X es (wpA X es) := ⟨fun pos pins s _ _ _ I h => h.run pos pins s I⟩
theorem PAwp {X : Cx} {es : List Expr} {t : TA} (h : PA X es t) {σ : L2.St} {H : Hp} {Q : List V → Hp → Prop} (q : t σ H Q) : wpA X es σ H Q := ⟨fun pos pins s I => h.run pos pins s σ H Q I q⟩
structure wpS (X : Cx) (ss : List Stmt) (Dn : Ends) (σ : L2.St) (H : Hp) : Prop where
  run : ∀ pins s, Inv X pins σ H s → wpAny (model X.prog X.w) X.A (execs ss X.env) (SP X pins Dn) X.xe s
theorem pssW (X : Cx) (ss : List Stmt) : PSs X ss (wpS X ss) := ⟨fun pins s _ _ _ I h => h.run pins s I⟩
theorem PSSwp {X : Cx} {ss : List Stmt} {t : TS} (h : PSs X ss t) {σ : L2.St} {H : Hp} {Dn : Ends} (q : t Dn σ H) : wpS X ss Dn σ H := ⟨fun pins s I => h.run pins s σ H Dn I q⟩

/-! ### the judgements -/
def Slot.isOwn : Slot → Bool
  | .own _ => true
  | _ => false
/-- which names own a cell doesn't hang on the state -/
def KC {S : Type} (δ : S → Sl) : Prop := ∀ s t, (δ s).map Slot.isOwn = (δ t).map Slot.isOwn
theorem isOwn_at {δ : Sl} {i : Nat} : (∃ c, δ[i]? = some (.own c)) ↔ (δ.map Slot.isOwn)[i]? = some true := by
  rw [List.getElem?_map]
  cases e : δ[i]? with
  | none => exact ⟨fun ⟨_, h⟩ => (nomatch h), fun h => (nomatch h)⟩
  | some s =>
    cases s with
    | own c => exact ⟨fun _ => rfl, fun _ => ⟨c, rfl⟩⟩
    | un => exact ⟨fun ⟨_, h⟩ => (nomatch h), fun h => (nomatch h)⟩
    | nev => exact ⟨fun ⟨_, h⟩ => (nomatch h), fun h => (nomatch h)⟩
    | val d => exact ⟨fun ⟨_, h⟩ => (nomatch h), fun h => (nomatch h)⟩
    | scr d => exact ⟨fun ⟨_, h⟩ => (nomatch h), fun h => (nomatch h)⟩
theorem KC.at {S : Type} {δ : S → Sl} (k : KC δ) {σ : L2.St} {s t : S} {i : Nat} {a : Addr} (h : OwnAt σ (δ s) i a) : OwnAt σ (δ t) i a :=
  ⟨isOwn_at.mpr (by rw [k t s]; exact isOwn_at.mp h.1), h.2⟩
theorem KC.ow {S : Type} {δ : S → Sl} (k : KC δ) {σ : L2.St} (s t : S) : ow σ (δ s) = ow σ (δ t) := by
  funext a
  exact propext ⟨fun ⟨i, h⟩ => ⟨i, k.at h⟩, fun ⟨i, h⟩ => ⟨i, k.at h⟩⟩
theorem KC.msk {S : Type} {δ : S → Sl} (k : KC δ) {O : Addr → Prop} {σ : L2.St} (s t : S) : msk O σ (δ s) = msk O σ (δ t) := by
  funext a
  apply propext
  constructor
  · rintro (h | ⟨i, h⟩)
    · exact .inl h
    · exact .inr ⟨i, k.at h⟩
  · rintro (h | ⟨i, h⟩)
    · exact .inl h
    · exact .inr ⟨i, k.at h⟩

section
variable {S α β γ : Type}
/-- e hands back r a and the state goes on, where m says so -/
def Dx (X : Cx) (e : Expr) (δ : S → Sl) (r : α → D) (m : S → Option (α × S)) : Prop :=
  KC δ → ∀ (O : Addr → Prop) (He H : Hp) (σ : L2.St) (s s' : S) (a : α) (Q : VK), m s = some (a, s') → ER X.K O He H σ (δ s) →
    (∀ v H', Keep (ow σ (δ s)) H H' → ER X.K O He H' σ (δ s') → Rp X.K (mask (msk O σ (δ s)) H') v (r a) → Q v H') → wpE X e σ H Q
/-- e hands back a new cell -/
def Fx (X : Cx) (e : Expr) (δ : S → Sl) (c : α → Cell) (m : S → Option (α × S)) : Prop :=
  KC δ → ∀ (O : Addr → Prop) (He H : Hp) (σ : L2.St) (s s' : S) (a : α) (Q : VK), m s = some (a, s') → ER X.K O He H σ (δ s) →
    (∀ p o H', H p = none → ¬ O p → Keep (ow σ (δ s)) H H' → ER X.K (fun a => O a ∨ a = p) He H' σ (δ s') → H' p = some o → CellOk X.K (mask (msk (fun a => O a ∨ a = p) σ (δ s)) H') o (c a) → Q (.ref p) H') → wpE X e σ H Q
def LsOk (K : Frag) (O : Addr → Prop) (H : Hp) (v : V) (ds : List D) : Prop := ∃ p vs, v = .ref p ∧ H p = some (.lst vs) ∧ RpAll K (mask O H) vs ds
/-- e hands back a list that is only looked at -/
def Bx (X : Cx) (e : Expr) (δ : S → Sl) (r : α → D) (m : S → Option (List α × S)) : Prop :=
  KC δ → ∀ (O : Addr → Prop) (He H : Hp) (σ : L2.St) (s s' : S) (xs : List α) (Q : VK), m s = some (xs, s') → ER X.K O He H σ (δ s) →
    (∀ v H', Keep (ow σ (δ s)) H H' → ER X.K O He H' σ (δ s') → (∀ s2 H2, Keep (ow σ (δ s)) H' H2 → ER X.K O He H2 σ (δ s2) → LsOk X.K (msk O σ (δ s)) H2 v (xs.map r)) → Q v H') → wpE X e σ H Q
/-- a test -/
def Tx (X : Cx) (e : Expr) (δ : S → Sl) (m : S → Option (Bool × S)) : Prop :=
  KC δ → ∀ (O : Addr → Prop) (He H : Hp) (σ : L2.St) (s s' : S) (b : Bool) (Q : Bool → Hp → Prop), m s = some (b, s') → ER X.K O He H σ (δ s) →
    (∀ H', Keep (ow σ (δ s)) H H' → ER X.K O He H' σ (δ s') → Q b H') → wpT X e σ H Q
def Wx (X : Cx) (e : Expr) (δ : S → Sl) (m : S → Option (Bool × S)) : Prop :=
  KC δ → ∀ (O : Addr → Prop) (He H : Hp) (σ : L2.St) (s s' : S) (b : Bool) (Q : Bool → Hp → Prop), m s = some (b, s') → ER X.K O He H σ (δ s) →
    (∀ H', Keep (ow σ (δ s)) H H' → ER X.K O He H' σ (δ s') → Q b H') → wpW X e σ H Q
/-- arguments -/
def Ax (X : Cx) (es : List Expr) (δ : S → Sl) (r : α → List D) (m : S → Option (α × S)) : Prop :=
  KC δ → ∀ (O : Addr → Prop) (He H : Hp) (σ : L2.St) (s s' : S) (a : α) (Q : List V → Hp → Prop), m s = some (a, s') → ER X.K O He H σ (δ s) →
    (∀ vs H', Keep (ow σ (δ s)) H H' → ER X.K O He H' σ (δ s') → RpAll X.K (mask (msk O σ (δ s)) H') vs (r a) → Q vs H') → wpA X es σ H Q

variable {X : Cx} {e e1 e2 e3 : Expr} {es : List Expr} {δ : S → Sl} {pos p p2 : Pos}
theorem Dx.conv {r : α → D} {m m' : S → Option (α × S)} (h : Dx X e δ r m) (q : m' = m) : Dx X e δ r m' := q ▸ h

theorem Fx.dx {r : α → D} {c : α → Cell} {m : S → Option (α × S)} (h : Fx X e δ c m) (hr : ∀ a, (c a).d = r a) : Dx X e δ r m := by
  intro kc O He H σ s s' a Q hm er q
  refine h kc O He H σ s s' a Q hm er fun p o H' hp np k er' ho hc => ?_
  refine q _ H' k (er'.sub fun a z => .inl z) ?_
  rw [← hr]
  have nm : ¬ msk O σ (δ s) p := fun z => by
    rcases z with z | ⟨i, z⟩
    · exact np z
    · exact er'.disj i p (kc.at z) (.inr rfl)
  have sm : Same (mask (msk (fun a => O a ∨ a = p) σ (δ s)) H') (mask (msk O σ (δ s)) H') := mask_same fun a o n e => ⟨fun z => n (by
    rcases z with z | z
    · exact .inl (.inl z)
    · exact .inr z), e⟩
  exact (hc.mono sm).rp (by rw [mask_of nm]; exact ho)
theorem Fx.list {r : α → D} {m : S → Option (List α × S)} (h : Fx X e δ (cL r) m) : Dx X e δ (rL r) m := h.dx fun _ => rfl
theorem Dx.list {r : α → D} {m : S → Option (List α × S)} (h : Dx X e δ (rL r) m) : Bx X e δ r m := by
  intro kc O He H σ s s' a Q hm er q
  refine h kc O He H σ s s' a Q hm er fun v H' k er' hr => q v H' k er' fun s2 H2 k2 er2 => ?_
  have hr2 := hr.mono k2.mask
  generalize e : rL r a = d at hr2
  cases hr2 with
  | lst h1 h2 =>
    cases e
    exact ⟨_, _, rfl, (mask_some h1).2, h2⟩
  | _ => cases e
theorem Fx.bx {r : α → D} {m : S → Option (List α × S)} (h : Fx X e δ (cL r) m) : Bx X e δ r m := h.list.list

/-! names and constants -/
theorem Dx.name (i : Nat) {x : Str} {d : α → D} {a : α} (hs : ∀ s, (δ s)[i]? = some (.val (d a)) := by intro _; rfl) (hN : X.N[i]? = some x := by rfl) (hv : Vis X.env.scope x := by first | exact Or.inl rfl | exact Or.inr (Or.inl rfl) | exact Or.inr (Or.inr rfl))
    (hd : (x == ("__debug__" : Str)) = false := by decide) (hcd : (x == ("__classdict__" : Str)) = false := by decide) : Dx X (.Name x pos) δ d (pu a) := by
  intro kc O He H σ s s' b Q hm er q
  obtain ⟨rfl, rfl⟩ := pu_some hm
  obtain ⟨v, hv', hr⟩ := er.val (hs s')
  exact PEwp (pe_var hN hv hd hcd) ⟨v, hv', q v H .refl er hr⟩
/-- a name whose value hangs on the state -/
theorem Dx.nameS (i : Nat) {x : Str} {d : α → D} {f : S → α} (hs : ∀ s, (δ s)[i]? = some (.val (d (f s))) := by intro _; rfl) (hN : X.N[i]? = some x := by rfl) (hv : Vis X.env.scope x := by first | exact Or.inl rfl | exact Or.inr (Or.inl rfl) | exact Or.inr (Or.inr rfl))
    (hd : (x == ("__debug__" : Str)) = false := by decide) (hcd : (x == ("__classdict__" : Str)) = false := by decide) : Dx X (.Name x pos) δ d (fun s => some (f s, s)) := by
  intro kc O He H σ s s' b Q hm er q
  cases hm
  obtain ⟨v, hv', hr⟩ := er.val (hs s)
  exact PEwp (pe_var hN hv hd hcd) ⟨v, hv', q v H .refl er hr⟩
/-- a list of one's own, looked at -/
theorem Bx.own (i : Nat) {x : Str} {r : α → D} {xs : List α} (hs : ∀ s, (δ s)[i]? = some (.own (cL r xs)) := by intro _; rfl) (hN : X.N[i]? = some x := by rfl) (hv : Vis X.env.scope x := by first | exact Or.inl rfl | exact Or.inr (Or.inl rfl) | exact Or.inr (Or.inr rfl))
    (hd : (x == ("__debug__" : Str)) = false := by decide) (hcd : (x == ("__classdict__" : Str)) = false := by decide) : Bx X (.Name x pos) δ r (pu xs) := by
  intro kc O He H σ s s' b Q hm er q
  obtain ⟨rfl, rfl⟩ := pu_some hm
  obtain ⟨p, o, hp, ho, hc, at'⟩ := er.cell (hs s')
  refine PEwp (pe_var hN hv hd hcd) ⟨.ref p, hp, q _ H .refl er fun s2 H2 k2 er2 => ?_⟩
  obtain ⟨p2, o2, hp2, ho2, hc2, at2⟩ := er2.cell (hs s2)
  rw [hp] at hp2
  cases hp2
  obtain ⟨vs, rfl, hr⟩ := hc2
  rw [kc.msk s2 s'] at hr
  exact ⟨p, vs, rfl, ho2, hr⟩
theorem Dx.int {i : Int} {j : Nat} : Dx X (.Constant (.int i) j pos) δ rI (pu i) := by
  intro kc O He H σ s s' b Q hm er q
  obtain ⟨rfl, rfl⟩ := pu_some hm
  exact PEwp pe_int (q _ H .refl er (.int _))
theorem Dx.bool {i : Bool} {j : Nat} : Dx X (.Constant (.bool i) j pos) δ rB (pu i) := by
  intro kc O He H σ s s' b Q hm er q
  obtain ⟨rfl, rfl⟩ := pu_some hm
  exact PEwp pe_bl (q _ H .refl er (.bl _))
theorem Dx.str {i : Str} {j : Nat} : Dx X (.Constant (.str i) j pos) δ rS (pu i) := by
  intro kc O He H σ s s' b Q hm er q
  obtain ⟨rfl, rfl⟩ := pu_some hm
  exact PEwp pe_str (q _ H .refl er (.str _))
theorem Dx.none {j : Nat} : Dx X (.Constant .none j pos) δ rN (pu ()) := by
  intro kc O He H σ s s' b Q hm er q
  obtain ⟨rfl, rfl⟩ := pu_some hm
  exact PEwp pe_non (q _ H .refl er .non)
/-- as one of two kinds: something or None -/
theorem Dx.noneO {r : α → D} {j : Nat} : Dx X (.Constant .none j pos) δ (rO r) (pu Option.none) := by
  intro kc O He H σ s s' b Q hm er q
  obtain ⟨rfl, rfl⟩ := pu_some hm
  exact PEwp pe_non (q _ H .refl er .non)
theorem Dx.someO {r : α → D} {m : S → Option (α × S)} (h : Dx X e δ r m) : Dx X e δ (rO r) (bd m fun a => pu (some a)) := by
  intro kc O He H σ s s' b Q hm er q
  obtain ⟨a, t, h1, h2⟩ := bd_some hm
  obtain ⟨rfl, rfl⟩ := pu_some h2
  exact h kc O He H σ s s' a Q h1 er q
theorem Dx.unO {r : α → D} {m : S → Option (Option α × S)} (h : Dx X e δ (rO r) m) : Dx X e δ r (bd m fun a => lf a) := by
  intro kc O He H σ s s' b Q hm er q
  obtain ⟨a, t, h1, h2⟩ := bd_some hm
  obtain ⟨rfl, rfl⟩ := lf_some h2
  exact h kc O He H σ s s' (some b) Q h1 er q
theorem Dx.imp {r : α → D} {t : β → D} {f : α → β} {m : S → Option (α × S)} (h : Dx X e δ r m) (hf : ∀ a, t (f a) = r a) : Dx X e δ t (bd m fun a => pu (f a)) := by
  intro kc O He H σ s s' b Q hm er q
  obtain ⟨a, t, h1, h2⟩ := bd_some hm
  obtain ⟨rfl, rfl⟩ := pu_some h2
  exact h kc O He H σ s s' a Q h1 er (by rw [← hf]; exact q)

/-! two operands -/
def Op2 (X : Cx) (rr : R2) (ra : α → D) (rb : β → D) (rc : γ → D) (f : α → β → Option γ) : Prop :=
  ∀ (O : Addr → Prop) (x y : V) (a : α) (b : β) (c : γ) (H : Hp) (Q : VK), f a b = some c → Rp X.K (mask O H) x (ra a) → Rp X.K (mask O H) y (rb b) → (∀ v H', Same H H' → Rp X.K (mask O H') v (rc c) → Q v H') → rr x y H Q
theorem two {ra : α → D} {rb : β → D} {ma : S → Option (α × S)} {mb : α → S → Option (β × S)} (ha : Dx X e1 δ ra ma) (hb : ∀ a, Dx X e2 δ rb (mb a)) (kc : KC δ) {O : Addr → Prop} {He H : Hp} {σ : L2.St} {s s1 s2 : S} {a : α} {b : β} {R : V → V → Hp → Prop}
    (h1 : ma s = some (a, s1)) (h2 : mb a s1 = some (b, s2)) (er : ER X.K O He H σ (δ s))
    (q : ∀ x y H', Keep (ow σ (δ s)) H H' → ER X.K O He H' σ (δ s2) → Rp X.K (mask (msk O σ (δ s)) H') x (ra a) → Rp X.K (mask (msk O σ (δ s)) H') y (rb b) → R x y H') :
    wpE X e1 σ H fun x H1 => wpE X e2 σ H1 fun y H2 => R x y H2 := by
  refine ha kc O He H σ s s1 a _ h1 er fun x H1 k1 er1 r1 => ?_
  refine hb a kc O He H1 σ s1 s2 b _ h2 er1 fun y H2 k2 er2 r2 => ?_
  rw [kc.ow s1 s] at k2; rw [kc.msk s1 s] at r2
  exact q x y H2 (k1.trans k2) er2 (r1.mono k2.mask) r2
theorem Dx.bin {op : Operator} {rr : R2} {ra : α → D} {rb : β → D} {rc : γ → D} {f : α → β → Option γ} {ma : S → Option (α × S)} {mb : S → Option (β × S)} (ho : OpR X (binaryOp op) rr) (hf : Op2 X rr ra rb rc f) (ha : Dx X e1 δ ra ma) (hb : Dx X e2 δ rb mb) :
    Dx X (.BinOp e1 op e2 pos) δ rc (bd ma fun x => bd mb fun y => lf (f x y)) := by
  intro kc O He H σ s s' c Q hm er q
  obtain ⟨a, s1, h1, hm⟩ := bd_some hm
  obtain ⟨b, s2, h2, hm⟩ := bd_some hm
  obtain ⟨h3, rfl⟩ := lf_some hm
  refine PEwp (pe_op ho (peW X e1) (peW X e2)) (two ha (fun _ => hb) kc h1 h2 er fun x y H' k er' rx ry => ?_)
  exact hf _ x y a b c H' Q h3 rx ry fun v H2 sm r => q v H2 (k.trans (.of sm)) (er'.mono sm) r
theorem Dx.cmp {op : CmpOp} {rr : R2} {ra : α → D} {rb : β → D} {f : α → β → Option Bool} {ma : S → Option (α × S)} {mb : S → Option (β × S)} (ho : OpR X (compareOp op) rr) (hf : Op2 X rr ra rb rB f) (ha : Dx X e1 δ ra ma) (hb : Dx X e2 δ rb mb) (hn : behindInMarks op e2 = false) :
    Dx X (.Compare e1 [op] [e2] pos) δ rB (bd ma fun x => bd mb fun y => lf (f x y)) := by
  intro kc O He H σ s s' c Q hm er q
  obtain ⟨a, s1, h1, hm⟩ := bd_some hm
  obtain ⟨b, s2, h2, hm⟩ := bd_some hm
  obtain ⟨h3, rfl⟩ := lf_some hm
  refine PEwp (pe_cmpR ho (peW X e1) (peW X e2) hn) (two ha (fun _ => hb) kc h1 h2 er fun x y H' k er' rx ry => ?_)
  exact hf _ x y a b c H' Q h3 rx ry fun v H2 sm r => q v H2 (k.trans (.of sm)) (er'.mono sm) r
theorem Tx.cmp {op : CmpOp} {rr : R2} {ra : α → D} {rb : β → D} {f : α → β → Option Bool} {ma : S → Option (α × S)} {mb : S → Option (β × S)} (ho : OpR X (compareOp op) rr) (hf : Op2 X rr ra rb rB f) (ha : Dx X e1 δ ra ma) (hb : Dx X e2 δ rb mb) (hn : behindInMarks op e2 = false) :
    Tx X (.Compare e1 [op] [e2] pos) δ (bd ma fun x => bd mb fun y => lf (f x y)) := by
  intro kc O He H σ s s' c Q hm er q
  obtain ⟨a, s1, h1, hm⟩ := bd_some hm
  obtain ⟨b, s2, h2, hm⟩ := bd_some hm
  obtain ⟨h3, rfl⟩ := lf_some hm
  refine PTwp (pt_cmpR ho (peW X e1) (peW X e2) hn) (two ha (fun _ => hb) kc h1 h2 er fun x y H' k er' rx ry => ?_)
  refine hf _ x y a b c H' _ h3 rx ry fun v H2 sm r => ?_
  cases r
  exact ⟨c, rfl, q H2 (k.trans (.of sm)) (er'.mono sm)⟩
theorem Tx.val {m : S → Option (Bool × S)} (h : Dx X e δ rB m) (he : ∀ whole, isTrue e X.env whole = (do let v ← whole; standAt e.pos; holding [v] (truthy v)) := by intro _; rfl) : Tx X e δ m := by
  intro kc O He H σ s s' c Q hm er q
  refine PTwp (pt_val (peW X e) he) (h kc O He H σ s s' c _ hm er fun v H2 k er' r => ?_)
  cases r
  exact ⟨c, rfl, q H2 k er'⟩
theorem Wx.tx {m : S → Option (Bool × S)} (h : Wx X e δ m) : Tx X e δ m := by
  intro kc O He H σ s s' c Q hm er q
  exact PTwp (pwW X e).pt (h kc O He H σ s s' c Q hm er q)
theorem Wx.and1 {m : S → Option (Bool × S)} (h : Tx X e δ m) : Wx X (.BoolOp .And [e] pos) δ m := by
  intro kc O He H σ s s' c Q hm er q
  exact PWwp (pw_and1 (ptW X e)) (h kc O He H σ s s' c Q hm er q)
theorem Wx.or1 {m : S → Option (Bool × S)} (h : Tx X e δ m) : Wx X (.BoolOp .Or [e] pos) δ m := by
  intro kc O He H σ s s' c Q hm er q
  exact PWwp (pw_or1 (ptW X e)) (h kc O He H σ s s' c Q hm er q)
theorem Wx.and {ma mb : S → Option (Bool × S)} (ha : Tx X e1 δ ma) (hb : Wx X (.BoolOp .And (e2 :: es) pos) δ mb) : Wx X (.BoolOp .And (e1 :: e2 :: es) pos) δ (bd ma fun b => if b then mb else pu false) := by
  intro kc O He H σ s s' c Q hm er q
  obtain ⟨a, s1, h1, hm⟩ := bd_some hm
  refine PWwp (pw_and (ptW X e1) (pwW X _)) (ha kc O He H σ s s1 a _ h1 er fun H1 k1 er1 => ?_)
  cases a with
  | true =>
    refine iteT (hb kc O He H1 σ s1 s' c Q hm er1 fun H2 k2 er2 => ?_)
    rw [kc.ow s1 s] at k2
    exact q H2 (k1.trans k2) er2
  | false =>
    obtain ⟨rfl, rfl⟩ := pu_some hm
    exact iteF (q H1 k1 er1)
theorem Wx.or {ma mb : S → Option (Bool × S)} (ha : Tx X e1 δ ma) (hb : Wx X (.BoolOp .Or (e2 :: es) pos) δ mb) : Wx X (.BoolOp .Or (e1 :: e2 :: es) pos) δ (bd ma fun b => if b then pu true else mb) := by
  intro kc O He H σ s s' c Q hm er q
  obtain ⟨a, s1, h1, hm⟩ := bd_some hm
  refine PWwp (pw_or (ptW X e1) (pwW X _)) (ha kc O He H σ s s1 a _ h1 er fun H1 k1 er1 => ?_)
  cases a with
  | false =>
    refine iteF (hb kc O He H1 σ s1 s' c Q hm er1 fun H2 k2 er2 => ?_)
    rw [kc.ow s1 s] at k2
    exact q H2 (k1.trans k2) er2
  | true =>
    obtain ⟨rfl, rfl⟩ := pu_some hm
    exact iteT (q H1 k1 er1)
theorem Tx.not {m : S → Option (Bool × S)} (h : Tx X e δ m) : Tx X (.UnaryOp .Not e pos) δ (bd m fun b => pu (!b)) := by
  intro kc O He H σ s s' c Q hm er q
  obtain ⟨a, s1, h1, hm⟩ := bd_some hm
  obtain ⟨rfl, rfl⟩ := pu_some hm
  exact PTwp (pt_not (ptW X e)) (h kc O He H σ s s' a _ h1 er q)
/-! .. as values -/
theorem Dx.and1 {op : BoolOp} {r : α → D} {m : S → Option (α × S)} (h : Dx X e δ r m) : Dx X (.BoolOp op [e] pos) δ r m := by
  intro kc O He H σ s s' c Q hm er q
  exact PEwp (pe_one (peW X e)) (h kc O He H σ s s' c Q hm er q)
theorem Dx.and {ma mb : S → Option (Bool × S)} (ha : Dx X e1 δ rB ma) (hb : Dx X (.BoolOp .And (e2 :: es) pos) δ rB mb) : Dx X (.BoolOp .And (e1 :: e2 :: es) pos) δ rB (bd ma fun b => if b then mb else pu false) := by
  intro kc O He H σ s s' c Q hm er q
  obtain ⟨a, s1, h1, hm⟩ := bd_some hm
  refine PEwp (pe_and (peW X e1) (peW X _)) (ha kc O He H σ s s1 a _ h1 er fun v H1 k1 er1 r => ?_)
  cases r
  refine ⟨a, rfl, ?_⟩
  cases a with
  | true =>
    refine iteT (hb kc O He H1 σ s1 s' c Q hm er1 fun v H2 k2 er2 r2 => ?_)
    rw [kc.ow s1 s] at k2; rw [kc.msk s1 s] at r2
    exact q v H2 (k1.trans k2) er2 r2
  | false =>
    obtain ⟨rfl, rfl⟩ := pu_some hm
    exact iteF (q _ H1 k1 er1 (.bl false))
theorem Dx.or {ma mb : S → Option (Bool × S)} (ha : Dx X e1 δ rB ma) (hb : Dx X (.BoolOp .Or (e2 :: es) pos) δ rB mb) : Dx X (.BoolOp .Or (e1 :: e2 :: es) pos) δ rB (bd ma fun b => if b then pu true else mb) := by
  intro kc O He H σ s s' c Q hm er q
  obtain ⟨a, s1, h1, hm⟩ := bd_some hm
  refine PEwp (pe_or (peW X e1) (peW X _)) (ha kc O He H σ s s1 a _ h1 er fun v H1 k1 er1 r => ?_)
  cases r
  refine ⟨a, rfl, ?_⟩
  cases a with
  | false =>
    refine iteF (hb kc O He H1 σ s1 s' c Q hm er1 fun v H2 k2 er2 r2 => ?_)
    rw [kc.ow s1 s] at k2; rw [kc.msk s1 s] at r2
    exact q v H2 (k1.trans k2) er2 r2
  | true =>
    obtain ⟨rfl, rfl⟩ := pu_some hm
    exact iteT (q _ H1 k1 er1 (.bl true))
theorem Dx.not {m : S → Option (Bool × S)} (h : Dx X e δ rB m) : Dx X (.UnaryOp .Not e pos) δ rB (bd m fun b => pu (!b)) := by
  intro kc O He H σ s s' c Q hm er q
  obtain ⟨a, s1, h1, hm⟩ := bd_some hm
  obtain ⟨rfl, rfl⟩ := pu_some hm
  refine PEwp (pe_not (peW X e)) (h kc O He H σ s s' a _ h1 er fun v H1 k1 er1 r => ?_)
  cases r
  exact ⟨a, rfl, q _ H1 k1 er1 (.bl _)⟩
theorem Dx.ite {r : α → D} {mc : S → Option (Bool × S)} {ma mb : S → Option (α × S)} (hc : Tx X e1 δ mc) (ha : Dx X e2 δ r ma) (hb : Dx X e3 δ r mb) : Dx X (.IfExp e1 e2 e3 pos) δ r (bd mc fun b => if b then ma else mb) := by
  intro kc O He H σ s s' c Q hm er q
  obtain ⟨b, s1, h1, hm⟩ := bd_some hm
  refine PEwp (pe_ifExp (ptW X e1) (peW X e2) (peW X e3)) (hc kc O He H σ s s1 b _ h1 er fun H1 k1 er1 => ?_)
  cases b with
  | true =>
    refine iteT (ha kc O He H1 σ s1 s' c Q hm er1 fun v H2 k2 er2 r2 => ?_)
    rw [kc.ow s1 s] at k2; rw [kc.msk s1 s] at r2
    exact q v H2 (k1.trans k2) er2 r2
  | false =>
    refine iteF (hb kc O He H1 σ s1 s' c Q hm er1 fun v H2 k2 er2 r2 => ?_)
    rw [kc.ow s1 s] at k2; rw [kc.msk s1 s] at r2
    exact q v H2 (k1.trans k2) er2 r2

/-! ints -/
theorem op2I {rr : R2} {C : Int → Int → Prop} {g : Int → Int → V} {rc : γ → D} {f : Int → Int → Option γ} (h : ∀ x y H Q, (∃ i j, x = V.int i ∧ y = .int j ∧ C i j ∧ Q (g i j) H) → rr x y H Q)
    (hf : ∀ i j c, f i j = some c → C i j ∧ ∀ K G, Rp K G (g i j) (rc c)) : Op2 X rr rI rI rc f := by
  intro O x y a b c H Q h3 rx ry q
  cases rx
  cases ry
  obtain ⟨hc, hr⟩ := hf a b c h3
  exact h _ _ _ _ ⟨a, b, rfl, rfl, hc, q _ H (Same.refl H) (hr _ _)⟩
section
variable {ma mb : S → Option (Int × S)}
theorem Dx.add (ha : Dx X e1 δ rI ma) (hb : Dx X e2 δ rI mb) : Dx X (.BinOp e1 .Add e2 pos) δ rI (bd ma fun x => bd mb fun y => pu (x + y)) :=
  Dx.bin (f := fun x y => some (x + y)) op_add (op2I (C := fun _ _ => True) (g := fun i j => .int (i + j)) (fun x y H Q ⟨i, j, a, b, _, q⟩ => ⟨i, j, a, b, q⟩) fun i j c h => by cases h; exact ⟨trivial, fun _ _ => .int _⟩) ha hb
theorem Dx.sub (ha : Dx X e1 δ rI ma) (hb : Dx X e2 δ rI mb) : Dx X (.BinOp e1 .Sub e2 pos) δ rI (bd ma fun x => bd mb fun y => pu (x - y)) :=
  Dx.bin (f := fun x y => some (x - y)) op_sub (op2I (C := fun _ _ => True) (g := fun i j => .int (i - j)) (fun x y H Q ⟨i, j, a, b, _, q⟩ => ⟨i, j, a, b, q⟩) fun i j c h => by cases h; exact ⟨trivial, fun _ _ => .int _⟩) ha hb
/-- one factor below 2 ^ 64 -/
def mulO (x y : Int) : Option Int := if (-(2 ^ 64) < x ∧ x < 2 ^ 64) ∨ (-(2 ^ 64) < y ∧ y < 2 ^ 64) then some (x * y) else none
theorem Dx.mul (ha : Dx X e1 δ rI ma) (hb : Dx X e2 δ rI mb) : Dx X (.BinOp e1 .Mult e2 pos) δ rI (bd ma fun x => bd mb fun y => lf (mulO x y)) :=
  Dx.bin op_mul (op2I (C := CMul) (g := fun i j => .int (i * j)) (fun x y H Q h => h) fun i j c h => by
    unfold mulO at h
    split at h
    · cases h; exact ⟨‹_›, fun _ _ => .int _⟩
    · cases h) ha hb
def fdivO (x y : Int) : Option Int := if y ≠ 0 ∧ y.natAbs < 1073741824 then some (x.fdiv y) else none
theorem Dx.fdiv (ha : Dx X e1 δ rI ma) (hb : Dx X e2 δ rI mb) : Dx X (.BinOp e1 .FloorDiv e2 pos) δ rI (bd ma fun x => bd mb fun y => lf (fdivO x y)) :=
  Dx.bin op_fdivN (op2I (C := CDivN) (g := fun i j => .int (i.fdiv j)) (fun x y H Q h => h) fun i j c h => by
    unfold fdivO at h
    split at h
    · cases h; exact ⟨‹_›, fun _ _ => .int _⟩
    · cases h) ha hb
def modO (x y : Int) : Option Int := if y ≠ 0 then some (x.fmod y) else none
theorem Dx.mod (ha : Dx X e1 δ rI ma) (hb : Dx X e2 δ rI mb) : Dx X (.BinOp e1 .Mod e2 pos) δ rI (bd ma fun x => bd mb fun y => lf (modO x y)) :=
  Dx.bin op_modN (op2I (C := fun _ j => j ≠ 0) (g := fun i j => .int (i.fmod j)) (fun x y H Q h => h) fun i j c h => by
    unfold modO at h
    split at h
    · cases h; exact ⟨‹_›, fun _ _ => .int _⟩
    · cases h) ha hb
def powO (x y : Int) : Option Int := if 0 ≤ y ∧ y ≤ 1000000 ∧ x.natAbs < 2 ^ 64 then some (x ^ y.toNat) else none
theorem Dx.pow (ha : Dx X e1 δ rI ma) (hb : Dx X e2 δ rI mb) : Dx X (.BinOp e1 .Pow e2 pos) δ rI (bd ma fun x => bd mb fun y => lf (powO x y)) :=
  Dx.bin op_pow (op2I (C := CPow) (g := fun i j => .int (i ^ j.toNat)) (fun x y H Q h => h) fun i j c h => by
    unfold powO at h
    split at h
    · cases h; exact ⟨‹_›, fun _ _ => .int _⟩
    · cases h) ha hb
theorem op2C {rr : R2} {p : Int → Int → Bool} (h : ∀ x y H Q, (∃ i j, x = V.int i ∧ y = .int j ∧ Q (.bl (p i j)) H) → rr x y H Q) : Op2 X rr rI rI rB (fun i j => some (p i j)) :=
  op2I (C := fun _ _ => True) (g := fun i j => .bl (p i j)) (fun x y H Q ⟨i, j, a, b, _, q⟩ => h x y H Q ⟨i, j, a, b, q⟩) fun i j c h => by cases h; exact ⟨trivial, fun _ _ => .bl _⟩
theorem Dx.lt (ha : Dx X e1 δ rI ma) (hb : Dx X e2 δ rI mb) : Dx X (.Compare e1 [.Lt] [e2] pos) δ rB (bd ma fun x => bd mb fun y => pu (decide (x < y))) := Dx.cmp op_lt (op2C fun x y H Q h => h) ha hb (nomark _)
theorem Dx.le (ha : Dx X e1 δ rI ma) (hb : Dx X e2 δ rI mb) : Dx X (.Compare e1 [.LtE] [e2] pos) δ rB (bd ma fun x => bd mb fun y => pu (decide (x ≤ y))) := Dx.cmp op_le (op2C fun x y H Q h => h) ha hb (nomark _)
theorem Dx.gt (ha : Dx X e1 δ rI ma) (hb : Dx X e2 δ rI mb) : Dx X (.Compare e1 [.Gt] [e2] pos) δ rB (bd ma fun x => bd mb fun y => pu (decide (y < x))) := Dx.cmp op_gt (op2C fun x y H Q h => h) ha hb (nomark _)
theorem Dx.ge (ha : Dx X e1 δ rI ma) (hb : Dx X e2 δ rI mb) : Dx X (.Compare e1 [.GtE] [e2] pos) δ rB (bd ma fun x => bd mb fun y => pu (decide (y ≤ x))) := Dx.cmp op_ge (op2C fun x y H Q h => h) ha hb (nomark _)
theorem Tx.lt (ha : Dx X e1 δ rI ma) (hb : Dx X e2 δ rI mb) : Tx X (.Compare e1 [.Lt] [e2] pos) δ (bd ma fun x => bd mb fun y => pu (decide (x < y))) := Tx.cmp op_lt (op2C fun x y H Q h => h) ha hb (nomark _)
theorem Tx.le (ha : Dx X e1 δ rI ma) (hb : Dx X e2 δ rI mb) : Tx X (.Compare e1 [.LtE] [e2] pos) δ (bd ma fun x => bd mb fun y => pu (decide (x ≤ y))) := Tx.cmp op_le (op2C fun x y H Q h => h) ha hb (nomark _)
theorem Tx.gt (ha : Dx X e1 δ rI ma) (hb : Dx X e2 δ rI mb) : Tx X (.Compare e1 [.Gt] [e2] pos) δ (bd ma fun x => bd mb fun y => pu (decide (y < x))) := Tx.cmp op_gt (op2C fun x y H Q h => h) ha hb (nomark _)
theorem Tx.ge (ha : Dx X e1 δ rI ma) (hb : Dx X e2 δ rI mb) : Tx X (.Compare e1 [.GtE] [e2] pos) δ (bd ma fun x => bd mb fun y => pu (decide (y ≤ x))) := Tx.cmp op_ge (op2C fun x y H Q h => h) ha hb (nomark _)
theorem Dx.neg (ha : Dx X e1 δ rI ma) : Dx X (.UnaryOp .USub e1 pos) δ rI (bd ma fun x => pu (-x)) := by
  intro kc O He H σ s s' c Q hm er q
  obtain ⟨a, s1, h1, hm⟩ := bd_some hm
  obtain ⟨rfl, rfl⟩ := pu_some hm
  refine PEwp (pe_un un_neg (peW X e1)) (ha kc O He H σ s s' a _ h1 er fun v H1 k1 er1 r => ?_)
  cases r
  exact ⟨a, rfl, q _ H1 k1 er1 (.int _)⟩
end
/-! == and != of data -/
/-- data that may be compared: no dict, no deeper than n -/
class Dep {α : Type} (r : α → D) (n : outParam Nat) : Prop where
  lay : ∀ a, (r a).canLay0 = true
  dep : ∀ a, (r a).depth ≤ n
/-- alike only if the same -/
class Eqv {α : Type} [DecidableEq α] (r : α → D) : Prop where
  eq : ∀ a b, PyData.eqv (r a) (r b) = decide (a = b)
theorem Dep.shaped {r : α → D} {n : Nat} [Dep r n] (hn : n ≤ 64) (a : α) : SeqAt.shaped (r a) = true := by
  unfold SeqAt.shaped
  rw [Dep.lay a, decide_eq_true (Nat.le_trans (Dep.dep a) hn)]
  rfl
theorem op2Eq [DecidableEq α] {r : α → D} {n : Nat} [Dep r n] [Eqv r] (hn : n ≤ 64) : Op2 X (rEqD X.K) r r rB (fun a b => some (decide (a = b))) := by
  intro O x y a b c H Q h3 rx ry q
  cases h3
  refine ⟨r a, r b, (rx.mono mask_le).dp (Dep.lay a), (ry.mono mask_le).dp (Dep.lay b), Dep.shaped hn a, Dep.shaped hn b, ?_⟩
  rw [Eqv.eq]; exact q _ H (Same.refl H) (.bl _)
theorem op2Ne [DecidableEq α] {r : α → D} {n : Nat} [Dep r n] [Eqv r] (hn : n ≤ 64) : Op2 X (rNeD X.K) r r rB (fun a b => some (!decide (a = b))) := by
  intro O x y a b c H Q h3 rx ry q
  cases h3
  refine ⟨r a, r b, (rx.mono mask_le).dp (Dep.lay a), (ry.mono mask_le).dp (Dep.lay b), Dep.shaped hn a, Dep.shaped hn b, ?_⟩
  rw [Eqv.eq]; exact q _ H (Same.refl H) (.bl _)
section
variable [DecidableEq α] {r : α → D} {n : Nat} [Dep r n] [Eqv r] {ma mb : S → Option (α × S)} {k : Nat}
theorem Dx.eq (hr : Room k X.A) (ha : Dx X e1 δ r ma) (hb : Dx X e2 δ r mb) (hn : n ≤ 64 := by decide) : Dx X (.Compare e1 [.Eq] [e2] pos) δ rB (bd ma fun x => bd mb fun y => pu (decide (x = y))) := Dx.cmp (op_eqD hr.units) (op2Eq hn) ha hb (nomark _)
theorem Dx.ne (hr : Room k X.A) (ha : Dx X e1 δ r ma) (hb : Dx X e2 δ r mb) (hn : n ≤ 64 := by decide) : Dx X (.Compare e1 [.NotEq] [e2] pos) δ rB (bd ma fun x => bd mb fun y => pu (!decide (x = y))) := Dx.cmp (op_neD hr.units) (op2Ne hn) ha hb (nomark _)
theorem Tx.eq (hr : Room k X.A) (ha : Dx X e1 δ r ma) (hb : Dx X e2 δ r mb) (hn : n ≤ 64 := by decide) : Tx X (.Compare e1 [.Eq] [e2] pos) δ (bd ma fun x => bd mb fun y => pu (decide (x = y))) := Tx.cmp (op_eqD hr.units) (op2Eq hn) ha hb (nomark _)
theorem Tx.ne (hr : Room k X.A) (ha : Dx X e1 δ r ma) (hb : Dx X e2 δ r mb) (hn : n ≤ 64 := by decide) : Tx X (.Compare e1 [.NotEq] [e2] pos) δ (bd ma fun x => bd mb fun y => pu (!decide (x = y))) := Tx.cmp (op_neD hr.units) (op2Ne hn) ha hb (nomark _)
end
end
end DL

namespace DL
open PySem PySem.Spec L2
/-- room enough for what is made -/
abbrev big : Nat := 10000000
theorem big_lt : big < sizeLine := by decide
section
variable {S α β γ : Type} {X : Cx} {e e1 e2 e3 e4 : Expr} {es : List Expr} {δ : S → Sl} {pos p p2 p3 : Pos}

theorem RpAll.map_get {K : Frag} {G : Hp} {r : α → D} {vs : List V} {xs : List α} (h : RpAll K G vs (xs.map r)) {i : Nat} {x : α} (e : xs[i]? = some x) : ∃ v, vs[i]? = some v ∧ Rp K G v (r x) :=
  h.get (by rw [List.getElem?_map, e]; rfl)
theorem Vints {K : Frag} {G : Hp} {vs : List V} : ∀ {ns : List Int}, RpAll K G vs (ns.map rI) → vs = ns.map V.int
  | [], h => by cases h; rfl
  | n :: ns, h => by
    cases h with
    | cons a b => cases a; rw [Vints b]; rfl
theorem Vbools {K : Frag} {G : Hp} {vs : List V} : ∀ {ns : List Bool}, RpAll K G vs (ns.map rB) → vs = ns.map V.bl
  | [], h => by cases h; rfl
  | n :: ns, h => by
    cases h with
    | cons a b => cases a; rw [Vbools b]; rfl
theorem RpInts {K : Frag} {G : Hp} : ∀ {ns : List Int}, RpAll K G (ns.map V.int) (ns.map rI)
  | [] => .nil
  | _ :: _ => .cons (.int _) RpInts

/-! ### one operand -/
def Op1 (X : Cx) (rr : List V → Hp → VK → Prop) (ra : α → D) (rc : γ → D) (f : α → Option γ) : Prop :=
  ∀ (O : Addr → Prop) (x : V) (a : α) (c : γ) (H : Hp) (Q : VK), f a = some c → Rp X.K (mask O H) x (ra a) → (∀ v H', Same H H' → Rp X.K (mask O H') v (rc c) → Q v H') → rr [x] H Q
def OpB (X : Cx) (rr : List V → Hp → VK → Prop) (r : α → D) (rc : γ → D) (f : List α → Option γ) : Prop :=
  ∀ (O : Addr → Prop) (x : V) (xs : List α) (c : γ) (H : Hp) (Q : VK), f xs = some c → LsOk X.K O H x (xs.map r) → (∀ v H', Same H H' → Rp X.K (mask O H') v (rc c) → Q v H') → rr [x] H Q
theorem pa1 {X : Cx} {e : Expr} (hs : starEach [e] X.env = (false, eval e X.env) :: starEach [] X.env) : PA X [e] (tCons (wpE X e) tNil) := pa_cons (peW X e) pa_nil hs
theorem Dx.callB1 {x : Str} {id : String} {rr : List V → Hp → VK → Prop} {ra : α → D} {rc : γ → D} {f : α → Option γ} {m : S → Option (α × S)} (hc : CallR X (.builtin id) rr) (hf : Op1 X rr ra rc f) (hm : X.mg x = .none) (ha : Dx X e δ ra m)
    (hv : bootBuiltins x = some (.builtin id)) (hg : Gl X x) (hn : x ≠ "__name__") (hdb : (x == ("__debug__" : Str)) = false)
    (he : starEach [e] X.env = (false, eval e X.env) :: starEach [] X.env) (hpl : (backTo pos (starEach [] X.env)).any (·.1) = false) : Dx X (.Call (.Name x p) [e] [] pos) δ rc (bd m fun a => lf (f a)) := by
  intro kc O He H σ s s' c Q hm' er q
  obtain ⟨a, s1, h1, h2⟩ := bd_some hm'
  obtain ⟨h3, rfl⟩ := lf_some h2
  refine PEwp (pe_callB hc hg hm hv (pa1 he) hn hdb he hpl) (ha kc O He H σ s s' a _ h1 er fun v H1 k1 er1 r => ?_)
  exact hf _ v a c H1 Q h3 r fun w H2 sm r2 => q w H2 (k1.trans (.of sm)) (er1.mono sm) r2
theorem Dx.callT1 {x : Str} {T : String} {rr : List V → Hp → VK → Prop} {ra : α → D} {rc : γ → D} {f : α → Option γ} {m : S → Option (α × S)} (hc : CallR X (.type T) rr) (hf : Op1 X rr ra rc f) (hm : X.mg x = .none) (ha : Dx X e δ ra m)
    (hv : bootBuiltins x = some (.type T)) (hg : Gl X x) (hn : x ≠ "__name__") (hdb : (x == ("__debug__" : Str)) = false)
    (he : starEach [e] X.env = (false, eval e X.env) :: starEach [] X.env) (hpl : (backTo pos (starEach [] X.env)).any (·.1) = false) : Dx X (.Call (.Name x p) [e] [] pos) δ rc (bd m fun a => lf (f a)) := by
  intro kc O He H σ s s' c Q hm' er q
  obtain ⟨a, s1, h1, h2⟩ := bd_some hm'
  obtain ⟨h3, rfl⟩ := lf_some h2
  refine PEwp (pe_callTy hc hg hm hv (pa1 he) hn hdb he hpl) (ha kc O He H σ s s' a _ h1 er fun v H1 k1 er1 r => ?_)
  exact hf _ v a c H1 Q h3 r fun w H2 sm r2 => q w H2 (k1.trans (.of sm)) (er1.mono sm) r2
theorem Bx.callB {x : Str} {id : String} {rr : List V → Hp → VK → Prop} {r : α → D} {rc : γ → D} {f : List α → Option γ} {m : S → Option (List α × S)} (hc : CallR X (.builtin id) rr) (hf : OpB X rr r rc f) (hm : X.mg x = .none) (ha : Bx X e δ r m)
    (hv : bootBuiltins x = some (.builtin id)) (hg : Gl X x) (hn : x ≠ "__name__") (hdb : (x == ("__debug__" : Str)) = false)
    (he : starEach [e] X.env = (false, eval e X.env) :: starEach [] X.env) (hpl : (backTo pos (starEach [] X.env)).any (·.1) = false) : Dx X (.Call (.Name x p) [e] [] pos) δ rc (bd m fun a => lf (f a)) := by
  intro kc O He H σ s s' c Q hm' er q
  obtain ⟨a, s1, h1, h2⟩ := bd_some hm'
  obtain ⟨h3, rfl⟩ := lf_some h2
  refine PEwp (pe_callB hc hg hm hv (pa1 he) hn hdb he hpl) (ha kc O He H σ s s' a _ h1 er fun v H1 k1 er1 r => ?_)
  exact hf _ v a c H1 Q h3 (r s' H1 .refl er1) fun w H2 sm r2 => q w H2 (k1.trans (.of sm)) (er1.mono sm) r2
/-- a new cell has been laid -/
theorem fxnew {O : Addr → Prop} {He H H1 : Hp} {σ : L2.St} {s s' : S} {l : Addr} {o : HO} {c : Cell} {Q : VK} (k1 : Keep (ow σ (δ s)) H H1) (er1 : ER X.K O He H1 σ (δ s')) (hl : H1 l = .none) (hc : CellOk X.K (mask (msk O σ (δ s)) H1) o c)
    (q : ∀ p o H', H p = .none → ¬ O p → Keep (ow σ (δ s)) H H' → ER X.K (fun a => O a ∨ a = p) He H' σ (δ s') → H' p = some o → CellOk X.K (mask (msk (fun a => O a ∨ a = p) σ (δ s)) H') o c → Q (.ref p) H') : Q (.ref l) (upd H1 l o) :=
  q l o _ (k1.none hl) (er1.newp hl) (k1.trans (.of (same_new hl))) (er1.new hl) upd_same (hc.mono (msk_new hl))
/-- a call that makes a list of another -/
theorem Fx.callG {x : Str} {rr : List V → Hp → VK → Prop} {r : α → D} {c : γ → Cell} {f : List α → Option γ} {m : S → Option (List α × S)}
    (hpe : PE X (.Call (.Name x p) [e] [] pos) (tCB rr (tCons (wpE X e) tNil)))
    (hf : ∀ (O : Addr → Prop) (x : V) (xs : List α) (z : γ) (H : Hp) (Q : VK), f xs = some z → LsOk X.K O H x (xs.map r) → (∀ l o, H l = .none → CellOk X.K (mask O H) o (c z) → Q (.ref l) (upd H l o)) → rr [x] H Q)
    (ha : Bx X e δ r m) : Fx X (.Call (.Name x p) [e] [] pos) δ c (bd m fun a => lf (f a)) := by
  intro kc O He H σ s s' z Q hm' er q
  obtain ⟨a, s1, h1, h2⟩ := bd_some hm'
  obtain ⟨h3, rfl⟩ := lf_some h2
  refine PEwp hpe (ha kc O He H σ s s' a _ h1 er fun v H1 k1 er1 r => ?_)
  refine hf _ v a z H1 Q h3 (r s' H1 .refl er1) fun l o hl hc => ?_
  exact fxnew k1 er1 hl hc q

/-! ### arguments -/
/-- es behind what stands in pre: all together are out g -/
def Ak0 (X : Cx) (es : List Expr) (δ : S → Sl) (pre : List D) (out : γ → List D) (m : S → Option (γ × S)) : Prop :=
  KC δ → ∀ (O : Addr → Prop) (He H : Hp) (σ : L2.St) (s s' : S) (g : γ) (ws : List V) (Q : List V → Hp → Prop), m s = some (g, s') → ER X.K O He H σ (δ s) → RpAll X.K (mask (msk O σ (δ s)) H) ws pre →
    (∀ vs H', Keep (ow σ (δ s)) H H' → ER X.K O He H' σ (δ s') → RpAll X.K (mask (msk O σ (δ s)) H') (ws ++ vs) (out g) → vs.length = es.length → Q vs H') → wpA X es σ H Q
theorem Ak0.nil {pre : List D} {out : γ → List D} {g : γ} (hg : out g = pre := by rfl) : Ak0 X [] δ pre out (pu g) := by
  intro kc O He H σ s s' g' ws Q hm er hw q
  obtain ⟨rfl, rfl⟩ := pu_some hm
  exact PAwp pa_nil (q [] H .refl er (by rw [List.append_nil, hg]; exact hw) rfl)
theorem Ak0.cons {r : α → D} {pre : List D} {out : γ → List D} {ma : S → Option (α × S)} {mb : α → S → Option (γ × S)} (ha : Dx X e δ r ma) (hb : ∀ a, Ak0 X es δ (pre ++ [r a]) out (mb a))
    (hs : starEach (e :: es) X.env = (false, eval e X.env) :: starEach es X.env := by rfl) : Ak0 X (e :: es) δ pre out (bd ma mb) := by
  intro kc O He H σ s s' g ws Q hm er hw q
  obtain ⟨a, s1, h1, h2⟩ := bd_some hm
  refine PAwp (pa_cons (peW X e) (paW X es) hs) (ha kc O He H σ s s1 a _ h1 er fun v H1 k1 er1 r1 => ?_)
  have e1 := kc.msk (O := O) (σ := σ) s1 s
  refine hb a kc O He H1 σ s1 s' g (ws ++ [v]) _ h2 er1 ?_ fun vs H2 k2 er2 r2 hl2 => ?_
  · rw [e1]
    exact (hw.mono k1.mask).append (.cons r1 .nil)
  · rw [kc.ow s1 s] at k2
    rw [e1] at r2
    exact q (v :: vs) H2 (k1.trans k2) er2 (by rw [List.append_assoc] at r2; exact r2) (by rw [List.length_cons, List.length_cons, hl2])
/-- the arguments told so far stand in pre, the last one first -/
def Ak (X : Cx) (es : List Expr) (δ : S → Sl) (pre : List D) (out : γ → List D) (m : S → Option (γ × S)) : Prop := Ak0 X es δ pre.reverse out m
theorem Ak.nil {pre : List D} {out : γ → List D} {g : γ} (hg : out g = pre.reverse := by rfl) : Ak X [] δ pre out (pu g) := Ak0.nil hg
theorem Ak.cons {r : α → D} {pre : List D} {out : γ → List D} {ma : S → Option (α × S)} {mb : α → S → Option (γ × S)} (ha : Dx X e δ r ma) (hb : ∀ a, Ak X es δ (r a :: pre) out (mb a))
    (hs : starEach (e :: es) X.env = (false, eval e X.env) :: starEach es X.env := by rfl) : Ak X (e :: es) δ pre out (bd ma mb) :=
  Ak0.cons ha (fun a => by have h := hb a; unfold Ak at h; rw [List.reverse_cons] at h; exact h) hs
theorem Ak.go {out : γ → List D} {m : S → Option (γ × S)} (h : Ak X es δ [] out m) (kc : KC δ) {O : Addr → Prop} {He H : Hp} {σ : L2.St} {s s' : S} {g : γ} {Q : List V → Hp → Prop} (hm : m s = some (g, s')) (er : ER X.K O He H σ (δ s))
    (q : ∀ vs H', Keep (ow σ (δ s)) H H' → ER X.K O He H' σ (δ s') → RpAll X.K (mask (msk O σ (δ s)) H') vs (out g) → vs.length = es.length → Q vs H') : wpA X es σ H Q :=
  h kc O He H σ s s' g [] Q hm er .nil fun vs H' k er' r l => q vs H' k er' r l
/-- (e, ..) -/
theorem Dx.tup {k : Nat} {r : γ → D} {out : γ → List D} {m : S → Option (γ × S)} (h : Ak X es δ [] out m) (hr : ∀ g, r g = .tuple (out g) := by intro _; rfl) (hl : es.length ≤ big := by decide) : Dx X (.Tuple es k pos) δ r m := by
  intro kc O He H σ s s' g Q hm er q
  refine PEwp (pe_tup (paW X es)) (h.go kc hm er fun vs H1 k1 er1 r1 hn => ?_)
  refine ⟨by rw [hn]; exact Nat.le_trans hl (Nat.le_of_lt big_lt), fun l hl => ?_⟩
  have sm := same_new (o := .tup vs) hl
  refine q _ _ (k1.trans (.of sm)) (er1.mono sm) ?_
  rw [hr]
  have nm : ¬ msk O σ (δ s) l := fun z => by
    rw [kc.msk s s'] at z
    exact er1.mdom z hl
  exact .tup (.inl (.inl (by rw [mask_of nm]; exact upd_same))) (r1.mono (mask_mono sm))
/-- [e, ..] -/
theorem Fx.lst {r : α → D} {m : S → Option (List α × S)} (h : Ak X es δ [] (fun xs : List α => xs.map r) m) (hl : es.length ≤ big := by decide) : Fx X (.List es pos) δ (cL r) m := by
  intro kc O He H σ s s' g Q hm er q
  refine PEwp (pe_lst (paW X es)) (h.go kc hm er fun vs H1 k1 er1 r1 hn => ?_)
  exact ⟨by rw [hn]; exact Nat.le_trans hl (Nat.le_of_lt big_lt), fun l hl => fxnew (c := cL r g) k1 er1 hl ⟨vs, rfl, r1⟩ q⟩

/-! ### lists looked at -/
theorem Bx.len {r : α → D} {m : S → Option (List α × S)} (hm : X.mg "len" = .none) (ha : Bx X e δ r m) (hg : Gl X "len" := by rfl) (he : starEach [e] X.env = (false, eval e X.env) :: starEach [] X.env := by rfl) (hpl : (backTo pos (starEach [] X.env)).any (·.1) = false := by rfl) :
    Dx X (.Call (.Name "len" p) [e] [] pos) δ rI (bd m fun xs => pu (xs.length : Int)) :=
  Bx.callB (f := fun xs => some (xs.length : Int)) call_len_seq (fun O x xs c H Q h l q => by
    cases h
    obtain ⟨a, vs, rfl, ha, hr⟩ := l
    refine ⟨a, vs, rfl, .inl (SqL.of ha), ?_⟩
    have e := hr.length
    rw [List.length_map] at e
    rw [e]
    exact q _ H (Same.refl H) (.int _)) hm ha boot_len hg (by decide) (by decide) he hpl
theorem Dx.lenT {r : α → D} {m : S → Option (List α × S)} (hm : X.mg "len" = .none) (ha : Dx X e δ (rT r) m) (hg : Gl X "len" := by rfl) (he : starEach [e] X.env = (false, eval e X.env) :: starEach [] X.env := by rfl) (hpl : (backTo pos (starEach [] X.env)).any (·.1) = false := by rfl) :
    Dx X (.Call (.Name "len" p) [e] [] pos) δ rI (bd m fun xs => pu (xs.length : Int)) :=
  Dx.callB1 (f := fun xs : List α => some (xs.length : Int)) call_len_seq (fun O x xs c H Q h l q => by
    cases h
    generalize e : rT r xs = d at l
    cases l with
    | tup h1 h2 =>
      cases e
      refine ⟨_, _, rfl, .inr (h1.imp (fun h => Same.rd mask_le h) id), ?_⟩
      have e := h2.length
      rw [List.length_map] at e
      rw [e]
      exact q _ H (Same.refl H) (.int _)
    | _ => cases e) hm ha boot_len hg (by decide) (by decide) he hpl
theorem LsInts {K : Frag} {O : Addr → Prop} {H : Hp} {v : V} {ns : List Int} (h : LsOk K O H v (ns.map rI)) : ∃ a, v = .ref a ∧ H a = some (.lst (ns.map V.int)) := by
  obtain ⟨a, vs, e, ha, hr⟩ := h
  exact ⟨a, e, by rw [ha, Vints hr]⟩
theorem LsBools {K : Frag} {O : Addr → Prop} {H : Hp} {v : V} {ns : List Bool} (h : LsOk K O H v (ns.map rB)) : ∃ a, v = .ref a ∧ H a = some (.lst (ns.map V.bl)) := by
  obtain ⟨a, vs, e, ha, hr⟩ := h
  exact ⟨a, e, by rw [ha, Vbools hr]⟩
section
variable {m : S → Option (List Int × S)}
theorem Bx.sum (hc : X.calm = true) (hm : X.mg "sum" = .none) (ha : Bx X e δ rI m) (hg : Gl X "sum" := by rfl) (he : starEach [e] X.env = (false, eval e X.env) :: starEach [] X.env := by rfl) (hpl : (backTo pos (starEach [] X.env)).any (·.1) = false := by rfl) :
    Dx X (.Call (.Name "sum" p) [e] [] pos) δ rI (bd m fun xs => pu xs.sum) :=
  Bx.callB (f := fun xs : List Int => some xs.sum) (cr_sum hc) (fun O x xs c H Q h l q => by
    cases h
    obtain ⟨a, rfl, ha⟩ := LsInts l
    exact ⟨a, xs, rfl, SqL.of ha, q _ H (Same.refl H) (.int _)⟩) hm ha PyProof.Rows.boot_sum hg (by decide) (by decide) he hpl
theorem Bx.max (hc : X.calm = true) (hm : X.mg "max" = .none) (ha : Bx X e δ rI m) (hg : Gl X "max" := by rfl) (he : starEach [e] X.env = (false, eval e X.env) :: starEach [] X.env := by rfl) (hpl : (backTo pos (starEach [] X.env)).any (·.1) = false := by rfl) :
    Dx X (.Call (.Name "max" p) [e] [] pos) δ rI (bd m fun xs => lf xs.max?) :=
  Bx.callB (f := fun xs : List Int => xs.max?) (cr_max hc) (fun O x xs c H Q h l q => by
    obtain ⟨a, rfl, ha⟩ := LsInts l
    obtain ⟨h1, h2⟩ := List.max?_eq_some_iff.mp h
    refine ⟨a, xs, rfl, SqL.of ha, List.length_pos_of_mem h1, fun m h3 h4 => ?_⟩
    have e : m = c := Int.le_antisymm (h2 m h3) (h4 c h1)
    subst e
    exact q _ H (Same.refl H) (.int _)) hm ha (by decide +kernel) hg (by decide) (by decide) he hpl
theorem Bx.min (hc : X.calm = true) (hm : X.mg "min" = .none) (ha : Bx X e δ rI m) (hg : Gl X "min" := by rfl) (he : starEach [e] X.env = (false, eval e X.env) :: starEach [] X.env := by rfl) (hpl : (backTo pos (starEach [] X.env)).any (·.1) = false := by rfl) :
    Dx X (.Call (.Name "min" p) [e] [] pos) δ rI (bd m fun xs => lf xs.min?) :=
  Bx.callB (f := fun xs : List Int => xs.min?) (cr_min hc) (fun O x xs c H Q h l q => by
    obtain ⟨a, rfl, ha⟩ := LsInts l
    obtain ⟨h1, h2⟩ := List.min?_eq_some_iff.mp h
    refine ⟨a, xs, rfl, SqL.of ha, List.length_pos_of_mem h1, fun m h3 h4 => ?_⟩
    have e : m = c := Int.le_antisymm (h4 c h1) (h2 m h3)
    subst e
    exact q _ H (Same.refl H) (.int _)) hm ha (by decide +kernel) hg (by decide) (by decide) he hpl
/-- in order -/
def srt (xs : List Int) : List Int := xs.mergeSort (fun a b => decide (a ≤ b))
theorem srt_perm (xs : List Int) : (srt xs).Perm xs := List.mergeSort_perm _ _
theorem srt_pw (xs : List Int) : (srt xs).Pairwise (· ≤ ·) := by
  have h := List.pairwise_mergeSort (le := fun a b : Int => decide (a ≤ b)) (fun a b c h1 h2 => by simp at *; omega) (fun a b => by simp; omega) xs
  exact h.imp fun h => of_decide_eq_true h
theorem srt_eq {xs ys : List Int} (h : ys.Perm xs) (k : ys.Pairwise (· ≤ ·)) : ys = srt xs :=
  (h.trans (srt_perm xs).symm).eq_of_pairwise (fun a b _ _ h1 h2 => Int.le_antisymm h1 h2) k (srt_pw xs)
theorem Fx.sorted (hm : X.mg "sorted" = .none) (ha : Bx X e δ rI m) (hg : Gl X "sorted" := by rfl) (he : starEach [e] X.env = (false, eval e X.env) :: starEach [] X.env := by rfl) (hpl : (backTo pos (starEach [] X.env)).any (·.1) = false := by rfl) :
    Fx X (.Call (.Name "sorted" p) [e] [] pos) δ (cL rI) (bd m fun xs => pu (srt xs)) :=
  Fx.callG (f := fun xs : List Int => some (srt xs)) (pe_callB cr_sortedI hg hm (by decide +kernel) (pa1 he) (by decide) (by decide) he hpl) (fun O x xs c H Q h l q => by
    cases h
    obtain ⟨a, rfl, ha⟩ := LsInts l
    refine ⟨a, xs, rfl, SqL.of ha, fun ns' l h1 h2 h3 => ?_⟩
    rw [srt_eq h1 h2]
    exact q l _ h3 ⟨_, rfl, RpInts⟩) ha
end
section
variable {m : S → Option (List Bool × S)}
theorem Bx.any (hc : X.calm = true) (hm : X.mg "any" = .none) (ha : Bx X e δ rB m) (hg : Gl X "any" := by rfl) (he : starEach [e] X.env = (false, eval e X.env) :: starEach [] X.env := by rfl) (hpl : (backTo pos (starEach [] X.env)).any (·.1) = false := by rfl) :
    Dx X (.Call (.Name "any" p) [e] [] pos) δ rB (bd m fun xs => pu (xs.any id)) :=
  Bx.callB (f := fun xs : List Bool => some (xs.any id)) (cr_any hc) (fun O x xs c H Q h l q => by
    cases h
    obtain ⟨a, rfl, ha⟩ := LsBools l
    exact ⟨a, xs, rfl, SqL.of ha, q _ H (Same.refl H) (.bl _)⟩) hm ha (by decide +kernel) hg (by decide) (by decide) he hpl
theorem Bx.all (hc : X.calm = true) (hm : X.mg "all" = .none) (ha : Bx X e δ rB m) (hg : Gl X "all" := by rfl) (he : starEach [e] X.env = (false, eval e X.env) :: starEach [] X.env := by rfl) (hpl : (backTo pos (starEach [] X.env)).any (·.1) = false := by rfl) :
    Dx X (.Call (.Name "all" p) [e] [] pos) δ rB (bd m fun xs => pu (xs.all id)) :=
  Bx.callB (f := fun xs : List Bool => some (xs.all id)) (cr_all hc) (fun O x xs c H Q h l q => by
    cases h
    obtain ⟨a, rfl, ha⟩ := LsBools l
    exact ⟨a, xs, rfl, SqL.of ha, q _ H (Same.refl H) (.bl _)⟩) hm ha (by decide +kernel) hg (by decide) (by decide) he hpl
end
/-- list(xs) -/
theorem Fx.copy {r : α → D} {m : S → Option (List α × S)} (hm : X.mg "list" = .none) (ha : Bx X e δ r m) (hg : Gl X "list" := by rfl) (he : starEach [e] X.env = (false, eval e X.env) :: starEach [] X.env := by rfl) (hpl : (backTo pos (starEach [] X.env)).any (·.1) = false := by rfl) :
    Fx X (.Call (.Name "list" p) [e] [] pos) δ (cL r) (bd m fun xs => pu xs) :=
  Fx.callG (f := fun xs : List α => some xs) (pe_callTy call_list_of hg hm (by decide +kernel) (pa1 he) (by decide) (by decide) he hpl) (fun O x xs c H Q h l q => by
    cases h
    obtain ⟨a, vs, rfl, ha, hr⟩ := l
    exact ⟨a, vs, rfl, .inl (SqL.of ha), fun l h3 => q l _ h3 ⟨_, rfl, hr⟩⟩) ha
/-- xs[i] -/
theorem two' {ra : α → D} {rb : β → D} {ma : S → Option (List α × S)} {mb : S → Option (β × S)} (ha : Bx X e1 δ ra ma) (hb : Dx X e2 δ rb mb) (kc : KC δ) {O : Addr → Prop} {He H : Hp} {σ : L2.St} {s s1 s2 : S} {a : List α} {b : β} {R : V → V → Hp → Prop}
    (h1 : ma s = some (a, s1)) (h2 : mb s1 = some (b, s2)) (er : ER X.K O He H σ (δ s))
    (q : ∀ x y H', Keep (ow σ (δ s)) H H' → ER X.K O He H' σ (δ s2) → LsOk X.K (msk O σ (δ s)) H' x (a.map ra) → Rp X.K (mask (msk O σ (δ s)) H') y (rb b) → R x y H') :
    wpE X e1 σ H fun x H1 => wpE X e2 σ H1 fun y H2 => R x y H2 := by
  refine ha kc O He H σ s s1 a _ h1 er fun x H1 k1 er1 r1 => ?_
  refine hb kc O He H1 σ s1 s2 b _ h2 er1 fun y H2 k2 er2 r2 => ?_
  rw [kc.ow s1 s] at k2; rw [kc.msk s1 s] at r2
  exact q x y H2 (k1.trans k2) er2 (r1 s2 H2 k2 er2) r2
theorem Bx.ix {r : α → D} {ma : S → Option (List α × S)} {mi : S → Option (Int × S)} (ha : Bx X e1 δ r ma) (hi : Dx X e2 δ rI mi) (hp : PlainIx e2 := by exact fun _ _ => rfl) : Dx X (.Subscript e1 e2 pos) δ r (bd ma fun xs => bd mi fun i => lf (atI xs i)) := by
  intro kc O He H σ s s' c Q hm er q
  obtain ⟨a, s1, h1, hm⟩ := bd_some hm
  obtain ⟨i, s2, h2, hm⟩ := bd_some hm
  obtain ⟨h3, rfl⟩ := lf_some hm
  refine PEwp (pe_ix ix_list (peW X e1) (peW X e2) hp) (two' ha hi kc h1 h2 er fun x y H' k er' rx ry => ?_)
  cases ry
  obtain ⟨l, vs, rfl, hl, hr⟩ := rx
  unfold atI at h3
  cases hj : ixN a.length i with
  | none => rw [hj] at h3; cases h3
  | some j =>
    rw [hj] at h3
    have h4 : a[j]? = some c := h3
    obtain ⟨v, hv, rv⟩ := hr.map_get h4
    have e := hr.length
    rw [List.length_map] at e
    refine ⟨l, vs, i, v, rfl, rfl, SqL.of hl, ?_, q v H' k er' rv⟩
    unfold atI
    rw [e, hj]
    exact hv
theorem Dx.ixT {r : α → D} {ma : S → Option (List α × S)} {mi : S → Option (Int × S)} (ha : Dx X e1 δ (rT r) ma) (hi : Dx X e2 δ rI mi) (hp : PlainIx e2 := by exact fun _ _ => rfl) : Dx X (.Subscript e1 e2 pos) δ r (bd ma fun xs => bd mi fun i => lf (atI xs i)) := by
  intro kc O He H σ s s' c Q hm er q
  obtain ⟨a, s1, h1, hm⟩ := bd_some hm
  obtain ⟨i, s2, h2, hm⟩ := bd_some hm
  obtain ⟨h3, rfl⟩ := lf_some hm
  refine PEwp (pe_ix ix_tup (peW X e1) (peW X e2) hp) (two ha (fun _ => hi) kc h1 h2 er fun x y H' k er' rx ry => ?_)
  cases ry
  generalize ed : rT r a = d at rx
  cases rx with
  | tup hl hr =>
    cases ed
    unfold atI at h3
    cases hj : ixN a.length i with
    | none => rw [hj] at h3; cases h3
    | some j =>
      rw [hj] at h3
      have h4 : a[j]? = some c := h3
      obtain ⟨v, hv, rv⟩ := hr.map_get h4
      have e := hr.length
      rw [List.length_map] at e
      refine ⟨_, _, i, v, rfl, rfl, hl.imp (fun h => Same.rd mask_le h) id, ?_, q v H' k er' rv⟩
      unfold atI
      rw [e, hj]
      exact hv
  | _ => cases ed
/-- t[0], t[1], .. of a tuple of known parts -/
theorem Dx.proj {i : Int} {ra : α → D} {rb : β → D} {f : α → β} {ma : S → Option (α × S)} (ds : α → List D) (ha : Dx X e1 δ ra ma) (hi : Dx X e2 δ rI (pu i)) (hr : ∀ a, ra a = .tuple (ds a) := by intro _; rfl) (hf : ∀ a, atI (ds a) i = some (rb (f a)) := by intro _; rfl)
    (hp : PlainIx e2 := by exact fun _ _ => rfl) : Dx X (.Subscript e1 e2 pos) δ rb (bd ma fun a => pu (f a)) := by
  intro kc O He H σ s s' c Q hm er q
  obtain ⟨a, s1, h1, hm⟩ := bd_some hm
  obtain ⟨rfl, rfl⟩ := pu_some hm
  refine PEwp (pe_ix ix_tup (peW X e1) (peW X e2) hp) (two ha (fun _ => hi) kc h1 rfl er fun x y H' k er' rx ry => ?_)
  cases ry
  rw [hr] at rx
  cases rx with
  | tup hl h2 =>
    have h3 := hf a
    unfold atI at h3
    cases hj : ixN (ds a).length i with
    | none => rw [hj] at h3; cases h3
    | some j =>
      rw [hj] at h3
      obtain ⟨v, hv, rv⟩ := h2.get h3
      refine ⟨_, _, i, v, rfl, rfl, hl.imp (fun h => Same.rd mask_le h) id, ?_, q v H' k er' rv⟩
      unfold atI
      rw [h2.length, hj]
      exact hv
/-! slices -/
def cutA (xs : List α) (lo hi : Option Int) : List α := (xs.drop (HT.sIx xs.length 0 lo)).take (HT.sIx xs.length xs.length hi - HT.sIx xs.length 0 lo)
theorem cut_rp {K : Frag} {G : Hp} {r : α → D} {vs : List V} {xs : List α} (h : RpAll K G vs (xs.map r)) (lo hi : Option Int) : RpAll K G (cutV vs lo hi) ((cutA xs lo hi).map r) := by
  have e := h.length
  rw [List.length_map] at e
  unfold cutA cutV
  rw [e, List.map_take, List.map_drop]
  exact (h.drop _).take _
def wpO (X : Cx) (e : Option Expr) : TO := fun σ H Q => ∀ pins s, Inv X pins σ H s → wpAny (model X.prog X.w) X.A (evalPart e X.env) (fun u s' => ∃ o H', Inv X pins σ H' s' ∧ IsPart u o ∧ Q o H') X.xe s
theorem poW (X : Cx) (e : Option Expr) : PO X e (wpO X e) := ⟨fun pins s _ _ _ I h => h pins s I⟩
theorem POwp {X : Cx} {e : Option Expr} {t : TO} (h : PO X e t) {σ : L2.St} {H : Hp} {Q : Option Int → Hp → Prop} (q : t σ H Q) : wpO X e σ H Q := fun pins s I => h.run pins s σ H Q I q
def Ox (X : Cx) (e : Option Expr) (δ : S → Sl) (m : S → Option (Option Int × S)) : Prop :=
  KC δ → ∀ (O : Addr → Prop) (He H : Hp) (σ : L2.St) (s s' : S) (a : Option Int) (Q : Option Int → Hp → Prop), m s = some (a, s') → ER X.K O He H σ (δ s) →
    (∀ H', Keep (ow σ (δ s)) H H' → ER X.K O He H' σ (δ s') → Q a H') → wpO X e σ H Q
theorem Ox.none : Ox X .none δ (pu .none) := by
  intro kc O He H σ s s' a Q hm er q
  obtain ⟨rfl, rfl⟩ := pu_some hm
  exact POwp po_none (q H .refl er)
theorem Ox.some {m : S → Option (Int × S)} (h : Dx X e δ rI m) : Ox X (.some e) δ (bd m fun i => pu (.some i)) := by
  intro kc O He H σ s s' a Q hm er q
  obtain ⟨i, s1, h1, hm⟩ := bd_some hm
  obtain ⟨rfl, rfl⟩ := pu_some hm
  refine POwp (po_some (peW X e)) (h kc O He H σ s s' i _ h1 er fun v H1 k1 er1 r => ?_)
  cases r
  exact ⟨i, rfl, q H1 k1 er1⟩
theorem Fx.slice {lo hi : Option Expr} {r : α → D} {m : S → Option (List α × S)} {ml mh : S → Option (Option Int × S)} (ha : Bx X e δ r m) (hl : Ox X lo δ ml) (hh : Ox X hi δ mh) :
    Fx X (.Subscript e (.Slice lo hi .none p2) pos) δ (cL r) (bd m fun xs => bd ml fun i => bd mh fun j => pu (cutA xs i j)) := by
  intro kc O He H σ s s' z Q hm er q
  obtain ⟨xs, s1, h1, hm⟩ := bd_some hm
  obtain ⟨i, s2, h2, hm⟩ := bd_some hm
  obtain ⟨j, s3, h3, hm⟩ := bd_some hm
  obtain ⟨rfl, rfl⟩ := pu_some hm
  refine PEwp (pe_slice sl_list (peW X e) (poW X lo) (poW X hi)) (ha kc O He H σ s s1 xs _ h1 er fun v H1 k1 er1 r1 => ?_)
  refine hl kc O He H1 σ s1 s2 i _ h2 er1 fun H2 k2 er2 => ?_
  refine hh kc O He H2 σ s2 s' j _ h3 er2 fun H3 k3 er3 => ?_
  rw [kc.ow s1 s] at k2
  rw [kc.ow s2 s] at k3
  obtain ⟨l, vs, rfl, hl, hr⟩ := r1 s' H3 (k2.trans k3) er3
  exact ⟨l, vs, rfl, SqL.of hl, fun p hp => fxnew (c := cL r (cutA xs i j)) ((k1.trans k2).trans k3) er3 hp ⟨_, rfl, cut_rp hr i j⟩ q⟩
/-- xs + ys -/
def catO (xs ys : List α) : Option (List α) := if xs.length + ys.length ≤ big then some (xs ++ ys) else .none
theorem Fx.cat {r : α → D} {ma mb : S → Option (List α × S)} (ha : Bx X e1 δ r ma) (hb : Bx X e2 δ r mb) : Fx X (.BinOp e1 .Add e2 pos) δ (cL r) (bd ma fun xs => bd mb fun ys => lf (catO xs ys)) := by
  intro kc O He H σ s s' z Q hm er q
  obtain ⟨xs, s1, h1, hm⟩ := bd_some hm
  obtain ⟨ys, s2, h2, hm⟩ := bd_some hm
  obtain ⟨h3, rfl⟩ := lf_some hm
  unfold catO at h3
  split at h3
  · cases h3
    refine PEwp (pe_op op_cat (peW X e1) (peW X e2)) (ha kc O He H σ s s1 xs _ h1 er fun v H1 k1 er1 r1 => ?_)
    refine hb kc O He H1 σ s1 s' ys _ h2 er1 fun w H2 k2 er2 r2 => ?_
    rw [kc.ow s1 s] at k2; rw [kc.msk s1 s] at r2
    obtain ⟨l, vs, rfl, hl, hr⟩ := r1 s' H2 k2 er2
    obtain ⟨l2, vs2, rfl, hl2, hr2⟩ := r2 s' H2 .refl er2
    have e1 := hr.length
    have e2 := hr2.length
    rw [List.length_map] at e1 e2
    have hb := big_lt
    refine ⟨l, l2, vs, vs2, rfl, rfl, hl, hl2, by omega, fun p hp => fxnew (c := cL r (xs ++ ys)) (k1.trans k2) er2 hp ⟨_, rfl, by rw [List.map_append]; exact hr.append hr2⟩ q⟩
  · cases h3
/-- xs * n -/
def repO (xs : List α) (n : Int) : Option (List α) := if xs.length * n.toNat ≤ big ∧ -(2 ^ 63) ≤ n ∧ n < 2 ^ 63 then some (List.replicate n.toNat xs).flatten else .none
theorem rep_rp {K : Frag} {G : Hp} {r : α → D} {vs : List V} {xs : List α} (h : RpAll K G vs (xs.map r)) : ∀ n, RpAll K G (List.replicate n vs).flatten (((List.replicate n xs).flatten).map r)
  | 0 => .nil
  | n + 1 => by
    rw [List.replicate_succ, List.replicate_succ, List.flatten_cons, List.flatten_cons, List.map_append]
    exact h.append (rep_rp h n)
theorem Fx.rep {r : α → D} {ma : S → Option (List α × S)} {mb : S → Option (Int × S)} (ha : Bx X e1 δ r ma) (hb : Dx X e2 δ rI mb) : Fx X (.BinOp e1 .Mult e2 pos) δ (cL r) (bd ma fun xs => bd mb fun n => lf (repO xs n)) := by
  intro kc O He H σ s s' z Q hm er q
  obtain ⟨xs, s1, h1, hm⟩ := bd_some hm
  obtain ⟨n, s2, h2, hm⟩ := bd_some hm
  obtain ⟨h3, rfl⟩ := lf_some hm
  unfold repO at h3
  split at h3
  · rename_i hc
    cases h3
    refine PEwp (pe_op op_rep (peW X e1) (peW X e2)) (two' ha hb kc h1 h2 er fun x y H' k er' rx ry => ?_)
    cases ry
    obtain ⟨l, vs, rfl, hl, hr⟩ := rx
    have e1 := hr.length
    rw [List.length_map] at e1
    have hb := big_lt
    refine ⟨l, n, vs, rfl, rfl, hl, hc.2.1, hc.2.2, by rw [e1]; omega, fun p hp => fxnew (c := cL r (List.replicate n.toNat xs).flatten) k er' hp ⟨_, rfl, rep_rp hr _⟩ q⟩
  · cases h3
/-- ints and bools -/
theorem Dx.int1 {m : S → Option (Int × S)} (hm : X.mg "int" = .none) (ha : Dx X e δ rI m) (hg : Gl X "int" := by rfl) (he : starEach [e] X.env = (false, eval e X.env) :: starEach [] X.env := by rfl) (hpl : (backTo pos (starEach [] X.env)).any (·.1) = false := by rfl) :
    Dx X (.Call (.Name "int" p) [e] [] pos) δ rI (bd m fun x => pu x) :=
  Dx.callT1 (f := fun x : Int => some x) call_int1 (fun O x a c H Q h l q => by cases h; cases l; exact .inl ⟨a, rfl, q _ H (Same.refl H) (.int _)⟩) hm ha (by decide +kernel) hg (by decide) (by decide) he hpl
theorem Dx.intB {m : S → Option (Bool × S)} (hm : X.mg "int" = .none) (ha : Dx X e δ rB m) (hg : Gl X "int" := by rfl) (he : starEach [e] X.env = (false, eval e X.env) :: starEach [] X.env := by rfl) (hpl : (backTo pos (starEach [] X.env)).any (·.1) = false := by rfl) :
    Dx X (.Call (.Name "int" p) [e] [] pos) δ rI (bd m fun x => pu (if x then (1 : Int) else 0)) :=
  Dx.callT1 (f := fun x : Bool => some (if x then (1 : Int) else 0)) call_int1 (fun O x a c H Q h l q => by cases h; cases l; exact .inr ⟨a, rfl, q _ H (Same.refl H) (.int _)⟩) hm ha (by decide +kernel) hg (by decide) (by decide) he hpl
theorem Dx.abs {m : S → Option (Int × S)} (hm : X.mg "abs" = .none) (ha : Dx X e δ rI m) (hg : Gl X "abs" := by rfl) (he : starEach [e] X.env = (false, eval e X.env) :: starEach [] X.env := by rfl) (hpl : (backTo pos (starEach [] X.env)).any (·.1) = false := by rfl) :
    Dx X (.Call (.Name "abs" p) [e] [] pos) δ rI (bd m fun x => pu (if x < 0 then -x else x)) :=
  Dx.callB1 (f := fun x : Int => some (if x < 0 then -x else x)) call_abs (fun O x a c H Q h l q => by cases h; cases l; exact ⟨a, rfl, q _ H (Same.refl H) (.int _)⟩) hm ha (by decide +kernel) hg (by decide) (by decide) he hpl
section
variable {ma mb : S → Option (Int × S)}
theorem Dx.max2 (hc : X.calm = true) (hm : X.mg "max" = .none) (ha : Dx X e1 δ rI ma) (hb : Dx X e2 δ rI mb) (hg : Gl X "max" := by rfl) (he : starEach [e1, e2] X.env = (false, eval e1 X.env) :: starEach [e2] X.env := by rfl) (he2 : starEach [e2] X.env = (false, eval e2 X.env) :: starEach [] X.env := by rfl) (hpl : (backTo pos (starEach [e2] X.env)).any (·.1) = false := by rfl) :
    Dx X (.Call (.Name "max" p) [e1, e2] [] pos) δ rI (bd ma fun x => bd mb fun y => pu (if y > x then y else x)) := by
  intro kc O He H σ s s' c Q hm' er q
  obtain ⟨a, s1, h1, hm'⟩ := bd_some hm'
  obtain ⟨b, s2, h2, hm'⟩ := bd_some hm'
  obtain ⟨rfl, rfl⟩ := pu_some hm'
  refine PEwp (pe_callB (call_max2 hc) hg hm (by decide +kernel) (pa_cons (peW X e1) (pa_cons (peW X e2) pa_nil he2) he) (by decide) (by decide) he hpl) (two ha (fun _ => hb) kc h1 h2 er fun x y H' k er' rx ry => ?_)
  cases rx; cases ry
  exact ⟨a, b, rfl, q _ H' k er' (.int _)⟩
theorem Dx.min2 (hc : X.calm = true) (hm : X.mg "min" = .none) (ha : Dx X e1 δ rI ma) (hb : Dx X e2 δ rI mb) (hg : Gl X "min" := by rfl) (he : starEach [e1, e2] X.env = (false, eval e1 X.env) :: starEach [e2] X.env := by rfl) (he2 : starEach [e2] X.env = (false, eval e2 X.env) :: starEach [] X.env := by rfl) (hpl : (backTo pos (starEach [e2] X.env)).any (·.1) = false := by rfl) :
    Dx X (.Call (.Name "min" p) [e1, e2] [] pos) δ rI (bd ma fun x => bd mb fun y => pu (if y < x then y else x)) := by
  intro kc O He H σ s s' c Q hm' er q
  obtain ⟨a, s1, h1, hm'⟩ := bd_some hm'
  obtain ⟨b, s2, h2, hm'⟩ := bd_some hm'
  obtain ⟨rfl, rfl⟩ := pu_some hm'
  refine PEwp (pe_callB (call_min2 hc) hg hm (by decide +kernel) (pa_cons (peW X e1) (pa_cons (peW X e2) pa_nil he2) he) (by decide) (by decide) he hpl) (two ha (fun _ => hb) kc h1 h2 er fun x y H' k er' rx ry => ?_)
  cases rx; cases ry
  exact ⟨a, b, rfl, q _ H' k er' (.int _)⟩
/-- a < b <= c -/
theorem Dx.chain {mc : S → Option (Int × S)} {op op' : CmpOp} {g g' : Int → Int → Bool} (ho : OpR X (compareOp op) (rI0 fun i j => .bl (g i j))) (ho' : OpR X (compareOp op') (rI0 fun i j => .bl (g' i j))) (ha : Dx X e1 δ rI ma) (hb : Dx X e2 δ rI mb) (hc : Dx X e3 δ rI mc)
    (hk : lastMarks [op, op'] [e2, e3] = false := by with_unfolding_all rfl) : Dx X (.Compare e1 [op, op'] [e2, e3] pos) δ rB (bd ma fun x => bd mb fun y => if g x y then bd mc fun z => pu (g' y z) else pu false) := by
  intro kc O He H σ s s' c Q hm er q
  obtain ⟨a, s1, h1, hm⟩ := bd_some hm
  obtain ⟨b, s2, h2, hm⟩ := bd_some hm
  refine PEwp (pe_chain ho ho' (peW X e1) (peW X e2) (peW X e3) hk) (two ha (fun _ => hb) kc h1 h2 er fun x y H' k er' rx ry => ?_)
  cases rx; cases ry
  refine ⟨a, b, rfl, rfl, g a b, rfl, ?_⟩
  cases hg : g a b with
  | true =>
    rw [hg, if_pos rfl] at hm
    obtain ⟨z, s3, h3, hm⟩ := bd_some hm
    obtain ⟨rfl, rfl⟩ := pu_some hm
    refine iteT (hc kc O He H' σ s2 s' z _ h3 er' fun v H2 k2 er2 r2 => ?_)
    rw [kc.ow s2 s] at k2
    cases r2
    exact ⟨b, z, rfl, rfl, q _ H2 (k.trans k2) er2 (.bl _)⟩
  | false =>
    rw [hg, if_neg Bool.false_ne_true] at hm
    obtain ⟨rfl, rfl⟩ := pu_some hm
    exact iteF (q _ H' k er' (.bl false))
theorem Tx.chain {mc : S → Option (Int × S)} {op op' : CmpOp} {g g' : Int → Int → Bool} (ho : OpR X (compareOp op) (rI0 fun i j => .bl (g i j))) (ho' : OpR X (compareOp op') (rI0 fun i j => .bl (g' i j))) (ha : Dx X e1 δ rI ma) (hb : Dx X e2 δ rI mb) (hc : Dx X e3 δ rI mc)
    (hk : lastMarks [op, op'] [e2, e3] = false := by with_unfolding_all rfl) : Tx X (.Compare e1 [op, op'] [e2, e3] pos) δ (bd ma fun x => bd mb fun y => if g x y then bd mc fun z => pu (g' y z) else pu false) := by
  intro kc O He H σ s s' c Q hm er q
  obtain ⟨a, s1, h1, hm⟩ := bd_some hm
  obtain ⟨b, s2, h2, hm⟩ := bd_some hm
  refine PTwp (pt_chain ho ho' (peW X e1) (peW X e2) (peW X e3) hk) (two ha (fun _ => hb) kc h1 h2 er fun x y H' k er' rx ry => ?_)
  cases rx; cases ry
  refine ⟨a, b, rfl, rfl, g a b, rfl, ?_⟩
  cases hg : g a b with
  | true =>
    rw [hg, if_pos rfl] at hm
    obtain ⟨z, s3, h3, hm⟩ := bd_some hm
    obtain ⟨rfl, rfl⟩ := pu_some hm
    refine iteT (hc kc O He H' σ s2 s' z _ h3 er' fun v H2 k2 er2 r2 => ?_)
    rw [kc.ow s2 s] at k2
    cases r2
    exact ⟨b, z, rfl, rfl, _, rfl, q H2 (k.trans k2) er2⟩
  | false =>
    rw [hg, if_neg Bool.false_ne_true] at hm
    obtain ⟨rfl, rfl⟩ := pu_some hm
    exact iteF ⟨_, rfl, q H' k er'⟩
end
/-! is None -/
class NN {α : Type} (r : α → D) : Prop where
  nn : ∀ {K : Frag} {G : Hp} {a : α}, ¬ Rp K G .non (r a)
theorem isN {K : Frag} {G : Hp} {r : α → D} [NN r] {v : V} : ∀ {o : Option α}, Rp K G v (rO r o) → decide (v = .non) = o.isNone
  | .none, h => by cases h; rfl
  | some a, h => by
    have h : Rp K G v (r a) := h
    refine decide_eq_false fun e => ?_
    subst e
    exact NN.nn h
theorem Dx.isN {r : α → D} [NN r] {m : S → Option (Option α × S)} {j : Nat} (h : Dx X e δ (rO r) m) : Dx X (.Compare e [.Is] [.Constant .none j p2] pos) δ rB (bd m fun a => pu a.isNone) := by
  intro kc O He H σ s s' c Q hm er q
  obtain ⟨a, s1, h1, hm⟩ := bd_some hm
  obtain ⟨rfl, rfl⟩ := pu_some hm
  refine PEwp (pe_cmp (pc_isN (peW X e)) (nomark _)) (h kc O He H σ s s' a _ h1 er fun v H1 k1 er1 r1 => ?_)
  rw [DL.isN r1]
  exact q _ H1 k1 er1 (.bl _)
theorem Tx.isN {r : α → D} [NN r] {m : S → Option (Option α × S)} {j : Nat} (h : Dx X e δ (rO r) m) : Tx X (.Compare e [.Is] [.Constant .none j p2] pos) δ (bd m fun a => pu a.isNone) := by
  intro kc O He H σ s s' c Q hm er q
  obtain ⟨a, s1, h1, hm⟩ := bd_some hm
  obtain ⟨rfl, rfl⟩ := pu_some hm
  refine PTwp (pt_cmp (pc_isN (peW X e)) (nomark _)) (h kc O He H σ s s' a _ h1 er fun v H1 k1 er1 r1 => ?_)
  rw [DL.isN r1]
  exact ⟨_, rfl, q H1 k1 er1⟩
theorem Dx.notN {r : α → D} [NN r] {m : S → Option (Option α × S)} {j : Nat} (h : Dx X e δ (rO r) m) : Dx X (.Compare e [.IsNot] [.Constant .none j p2] pos) δ rB (bd m fun a => pu !a.isNone) := by
  intro kc O He H σ s s' c Q hm er q
  obtain ⟨a, s1, h1, hm⟩ := bd_some hm
  obtain ⟨rfl, rfl⟩ := pu_some hm
  refine PEwp (pe_cmp (pc_notN (peW X e)) (nomark _)) (h kc O He H σ s s' a _ h1 er fun v H1 k1 er1 r1 => ?_)
  rw [DL.isN r1]
  exact q _ H1 k1 er1 (.bl _)
theorem Tx.notN {r : α → D} [NN r] {m : S → Option (Option α × S)} {j : Nat} (h : Dx X e δ (rO r) m) : Tx X (.Compare e [.IsNot] [.Constant .none j p2] pos) δ (bd m fun a => pu !a.isNone) := by
  intro kc O He H σ s s' c Q hm er q
  obtain ⟨a, s1, h1, hm⟩ := bd_some hm
  obtain ⟨rfl, rfl⟩ := pu_some hm
  refine PTwp (pt_cmp (pc_notN (peW X e)) (nomark _)) (h kc O He H σ s s' a _ h1 er fun v H1 k1 er1 r1 => ?_)
  rw [DL.isN r1]
  exact ⟨_, rfl, q H1 k1 er1⟩
end
end DL

namespace DL
open PySem PySem.Spec L2

/-! ### names forgotten, names stored -/
section
variable {K : Frag} {O : Addr → Prop} {He H H' : Hp} {σ σ' : L2.St} {δ δ' : Sl}
/-- other values at names of which nothing is known -/
theorem OwnAt.re (hs : ∀ i : Nat, (∃ s, δ[i]? = some s ∧ s ≠ .un) → σ'[i]? = σ[i]?) {i : Nat} {a : Addr} : OwnAt σ' δ i a ↔ OwnAt σ δ i a := by
  unfold OwnAt
  constructor
  · rintro ⟨⟨c, h1⟩, h2⟩
    exact ⟨⟨c, h1⟩, by rw [← hs i ⟨_, h1, fun z => nomatch z⟩]; exact h2⟩
  · rintro ⟨⟨c, h1⟩, h2⟩
    exact ⟨⟨c, h1⟩, by rw [hs i ⟨_, h1, fun z => nomatch z⟩]; exact h2⟩
theorem msk_re (hs : ∀ i : Nat, (∃ s, δ[i]? = some s ∧ s ≠ .un) → σ'[i]? = σ[i]?) : msk O σ' δ = msk O σ δ := by
  funext a
  unfold msk ow
  simp only [OwnAt.re hs]
theorem ER.re (h : ER K O He H σ δ) (hl : σ'.length = σ.length) (hs : ∀ i : Nat, (∃ s, δ[i]? = some s ∧ s ≠ .un) → σ'[i]? = σ[i]?) : ER K O He H σ' δ := by
  refine ⟨by rw [hl, h.len], h.same, fun i a q => h.fresh i a ((OwnAt.re hs).mp q), fun i j a q q' => h.inj i j a ((OwnAt.re hs).mp q) ((OwnAt.re hs).mp q'), fun i a q => h.disj i a ((OwnAt.re hs).mp q), h.dom, fun i s hi => ?_⟩
  rw [msk_re hs]
  by_cases e : s = .un
  · subst e
    have l : i < σ'.length := by
      rw [hl, h.len]
      exact (List.getElem?_eq_some_iff.mp hi).1
    exact ⟨σ'[i], List.getElem?_eq_getElem l, trivial⟩
  · rw [hs i ⟨s, hi, e⟩]
    exact h.slot i s hi
theorem wipe_re {vs : List Nat} (hu : ∀ i ∈ vs, ∀ s, δ[i]? = some s → s = .un) : ∀ i : Nat, (∃ s, δ[i]? = some s ∧ s ≠ .un) → (wipe σ vs)[i]? = σ[i]? := fun i ⟨s, h, n⟩ => wipe_out fun hm => n (hu i hm s h)
theorem wipe_at {σ : L2.St} {i : Nat} : ∀ {vs : List Nat}, i ∈ vs → i < σ.length → (wipe σ vs)[i]? = some none
  | [], h, _ => by cases h
  | v :: vs, h, l => by
    unfold wipe
    by_cases e : v = i
    · subst e
      rw [List.getElem?_set_self (by rw [wipe_length]; exact l)]
    · rw [List.getElem?_set_ne e]
      rcases List.mem_cons.mp h with q | q
      · exact absurd q.symm e
      · exact wipe_at q l
theorem wipe_ext {vs : List Nat} (hl : σ'.length = σ.length) (hs : ∀ i : Nat, i ∉ vs → σ'[i]? = (wipe σ vs)[i]?) : wipe σ' vs = wipe σ vs := by
  apply List.ext_getElem?
  intro i
  by_cases hm : i ∈ vs
  · by_cases l : i < σ.length
    · rw [wipe_at hm l, wipe_at hm (by rw [hl]; exact l)]
    · rw [List.getElem?_eq_none (by rw [wipe_length]; omega), List.getElem?_eq_none (by rw [wipe_length]; omega)]
  · rw [wipe_out hm, hs i hm]
theorem Le.of {δ δ' : Sl} : ∀ (_ : δ.length = δ'.length) (_ : ∀ (i : Nat) (s t : Slot), δ[i]? = some s → δ'[i]? = some t → SLe s t), Le δ δ' := by
  induction δ generalizing δ' with
  | nil => intro h _; cases δ' with
    | nil => exact .nil
    | cons a b => cases h
  | cons s r ih => intro h k; cases δ' with
    | nil => cases h
    | cons t u => exact .cons (k 0 s t rfl rfl) (ih (by simpa using h) fun i a b p q => k (i + 1) a b (by simpa using p) (by simpa using q))
end
structure wpG (X : Cx) (tg : Expr) (v : V) (σ : L2.St) (H : Hp) (Q : L2.St → Hp → Prop) : Prop where
  run : ∀ pins s u, Inv X pins σ H s → RelV v u → wpAny (model X.prog X.w) X.A (assign tg X.env u) (fun _ s' => ∃ σ' H', Inv X pins σ' H' s' ∧ Q σ' H') X.xe s
theorem pgW (X : Cx) (tg : Expr) : PG X tg (wpG X tg) := ⟨fun pins s _ _ _ u _ I r h => h.run pins s u I r⟩
theorem PGwp {X : Cx} {tg : Expr} {g : TG} (h : PG X tg g) {v : V} {σ : L2.St} {H : Hp} {Q : L2.St → Hp → Prop} (q : g v σ H Q) : wpG X tg v σ H Q := ⟨fun pins s u I r => h.run pins s σ H v u Q I r q⟩
/-- tg takes an r a: the names at ts change -/
structure Gx {α : Type} (X : Cx) (tg : Expr) (ts : List Nat) (r : α → D) (f : α → Sl → Sl) : Prop where
  run : ∀ (O : Addr → Prop) (He H : Hp) (σ : L2.St) (δ : Sl) (a : α) (v : V) (Q : L2.St → Hp → Prop), ER X.K O He H σ δ → Rp X.K (mask (msk O σ δ) H) v (r a) →
    (∀ σ', ER X.K O He H σ' (f a δ) → (∀ i : Nat, i ∉ ts → σ'[i]? = σ[i]?) → σ'.length = σ.length → (∀ b, msk O σ' (f a δ) b → msk O σ δ b) → Q σ' H) → wpG X tg v σ H Q
  len : ∀ a δ, (f a δ).length = δ.length
  out : ∀ a δ (i : Nat), i ∉ ts → (f a δ)[i]? = δ[i]?
section
variable {α β γ : Type} {X : Cx} {tg t1 t2 : Expr} {pos : Pos} {r : α → D} {δ : Sl}
theorem Gx.name (i : Nat) {x : Str} (hN : X.N.Nodup) (hi : X.N[i]? = some x := by rfl) (hx : Loc X.env.scope x := by first | exact Or.inl rfl | exact Or.inr rfl) (hf : X.fn x = true ∨ X.env.scope.names.lookup x = some .local := by first | exact .inl rfl | exact .inr rfl) :
    Gx X (.Name x pos) [i] r (fun a δ => δ.set i (.val (r a))) where
  run := fun O He H σ δ a v Q er hv q => PGwp (pg_name hN hi hx hf) (q _ (er.setv (.inr ⟨_, rfl, hv⟩)) (fun j hj => List.getElem?_set_ne (fun e => hj (by simp [e]))) (by simp) fun b z => by
    rcases z with z | ⟨j, z⟩
    · exact .inl z
    · exact .inr ⟨j, (own_set_val (s := .val (r a)) (fun c z => by cases z) z).2⟩)
  len := fun a δ => by simp
  out := fun a δ j hj => List.getElem?_set_ne (fun e => hj (by simp [e]))
def wpGs (X : Cx) (ts : List Expr) : TGs := fun vs σ H Q => ∀ pins s us, Inv X pins σ H s → Vals vs us → wpAny (model X.prog X.w) X.A (assignInOrder ((assignEach ts X.env).map (·.2)) us) (fun _ s' => ∃ σ' H', Inv X pins σ' H' s' ∧ Q σ' H') X.xe s
/-- two parts -/
theorem Gx.two {k : Nat} {i1 i2 : List Nat} {ra : α → D} {rb : β → D} {f1 : α → Sl → Sl} {f2 : β → Sl → Sl} (hc : X.calm = true) (h1 : Gx X t1 i1 ra f1) (h2 : Gx X t2 i2 rb f2) (hn : (assignEach [t1, t2] X.env).length = 2 := by rfl) (hst : (assignEach [t1, t2] X.env).findIdx? (·.1) = none := by rfl)
    (hs : (assignEach [t1, t2] X.env).map (·.2) = assign t1 X.env :: (assignEach [t2] X.env).map (·.2) := by rfl) (hs2 : (assignEach [t2] X.env).map (·.2) = assign t2 X.env :: (assignEach [] X.env).map (·.2) := by rfl) :
    Gx X (.Tuple [t1, t2] k pos) (i1 ++ i2) (r2 ra rb) (fun p δ => f2 p.2 (f1 p.1 δ)) where
  run := fun O He H σ δ a v Q er hv q => by
    cases hv with
    | tup h3 h4 =>
      cases h4 with
      | cons ha h4 =>
        cases h4 with
        | cons hb h4 =>
          cases h4
          refine PGwp (pg_tup hc (pgs_cons (pgW X t1) (pgs_cons (pgW X t2) pgs_nil hs2) hs) hn hst) ⟨_, _, rfl, h3.imp (fun h => Same.rd mask_le h) id, rfl, _, _, rfl, ?_⟩
          refine h1.run O He H σ δ a.1 _ _ er ha fun σ1 er1 o1 l1 m1 => ?_
          refine ⟨_, _, rfl, h2.run O He H σ1 _ a.2 _ _ er1 (hb.mono (mask_same fun b o n e => ⟨fun z => n (m1 b z), e⟩)) fun σ2 er2 o2 l2 m2 => ⟨rfl, ?_⟩⟩
          exact q σ2 er2 (fun i hi => by rw [o2 i fun z => hi (by simp [z]), o1 i fun z => hi (by simp [z])]) (by rw [l2, l1]) fun b z => m1 b (m2 b z)
  len := fun a δ => by rw [h2.len, h1.len]
  out := fun a δ i hi => by rw [h2.out _ _ i fun z => hi (by simp [z]), h1.out _ _ i fun z => hi (by simp [z])]
/-- three parts -/
theorem Gx.three {t3 : Expr} {k : Nat} {i1 i2 i3 : List Nat} {ra : α → D} {rb : β → D} {rc : γ → D} {f1 : α → Sl → Sl} {f2 : β → Sl → Sl} {f3 : γ → Sl → Sl} (hc : X.calm = true) (h1 : Gx X t1 i1 ra f1) (h2 : Gx X t2 i2 rb f2) (h3 : Gx X t3 i3 rc f3) (hn : (assignEach [t1, t2, t3] X.env).length = 3 := by rfl) (hst : (assignEach [t1, t2, t3] X.env).findIdx? (·.1) = none := by rfl)
    (hs : (assignEach [t1, t2, t3] X.env).map (·.2) = assign t1 X.env :: (assignEach [t2, t3] X.env).map (·.2) := by rfl) (hs2 : (assignEach [t2, t3] X.env).map (·.2) = assign t2 X.env :: (assignEach [t3] X.env).map (·.2) := by rfl) (hs3 : (assignEach [t3] X.env).map (·.2) = assign t3 X.env :: (assignEach [] X.env).map (·.2) := by rfl) :
    Gx X (.Tuple [t1, t2, t3] k pos) (i1 ++ i2 ++ i3) (r3 ra rb rc) (fun p δ => f3 p.2.2 (f2 p.2.1 (f1 p.1 δ))) where
  run := fun O He H σ δ a v Q er hv q => by
    cases hv with
    | tup h5 h4 =>
      cases h4 with
      | cons ha h4 =>
        cases h4 with
        | cons hb h4 =>
          cases h4 with
          | cons hd h4 =>
            cases h4
            refine PGwp (pg_tup hc (pgs_cons (pgW X t1) (pgs_cons (pgW X t2) (pgs_cons (pgW X t3) pgs_nil hs3) hs2) hs) hn hst) ⟨_, _, rfl, h5.imp (fun h => Same.rd mask_le h) id, rfl, _, _, rfl, ?_⟩
            refine h1.run O He H σ δ a.1 _ _ er ha fun σ1 er1 o1 l1 m1 => ?_
            refine ⟨_, _, rfl, h2.run O He H σ1 _ a.2.1 _ _ er1 (hb.mono (mask_same fun b o n e => ⟨fun z => n (m1 b z), e⟩)) fun σ2 er2 o2 l2 m2 => ?_⟩
            refine ⟨_, _, rfl, h3.run O He H σ2 _ a.2.2 _ _ er2 (hd.mono (mask_same fun b o n e => ⟨fun z => n (m1 b (m2 b z)), e⟩)) fun σ3 er3 o3 l3 m3 => ⟨rfl, ?_⟩⟩
            exact q σ3 er3 (fun i hi => by rw [o3 i fun z => hi (by simp [z]), o2 i fun z => hi (by simp [z]), o1 i fun z => hi (by simp [z])]) (by rw [l3, l2, l1]) fun b z => m1 b (m2 b (m3 b z))
  len := fun a δ => by rw [h3.len, h2.len, h1.len]
  out := fun a δ i hi => by rw [h3.out _ _ i fun z => hi (by simp [z]), h2.out _ _ i fun z => hi (by simp [z]), h1.out _ _ i fun z => hi (by simp [z])]
theorem Gx.le {ts : List Nat} {f : α → Sl → Sl} (h : Gx X tg ts r f) (hu : ∀ i ∈ ts, ∀ s, δ[i]? = some s → s = .un) (a : α) : Le (f a δ) δ := by
  refine Le.of (h.len a δ) fun i s t h1 h2 => ?_
  by_cases hm : i ∈ ts
  · rw [hu i hm t h2]; exact .un _
  · rw [h.out a δ i hm, h2] at h1
    cases h1
    exact .rfl _
end

/-! ### what is walked -/
structure wpI (X : Cx) (tg iter : Expr) (σ : L2.St) (H : Hp) (R : It → Hp → Prop) : Prop where
  run : ∀ pins s, Inv X pins σ H s → wpAny (model X.prog X.w) X.A (eval iter X.env) (fun v s1 => wpAny (model X.prog X.w) X.A (pyIter v) (PIE X pins σ tg R) X.xe s1) X.xe s
theorem piW (X : Cx) (tg iter : Expr) : PI X tg iter (wpI X tg iter) := ⟨fun pins s _ _ _ I h => h.run pins s I⟩
theorem PIwp {X : Cx} {tg iter : Expr} {t : TI} (h : PI X tg iter t) {σ : L2.St} {H : Hp} {R : It → Hp → Prop} (q : t σ H R) : wpI X tg iter σ H R := ⟨fun pins s I => h.run pins s σ H R I q⟩
section
variable {S α β γ : Type} {X : Cx} {tg e e1 e2 e3 iter : Expr} {δ : S → Sl} {pos p tpos : Pos} {fz : Bool} {r : α → D}
/-- where a list may be looked at: it stands still for good, or what is one's own is as it was -/
def Seen (fz : Bool) (K : Frag) (W O : Addr → Prop) (He H' : Hp) (σ : L2.St) (δ : S → Sl) (H2 : Hp) (O2 : Addr → Prop) : Prop :=
  Keep W H' H2 ∧ (∀ a, O2 a → O a ∨ H' a = none) ∧ (fz = true ∨ ∃ Of s2, ER K Of He H2 σ (δ s2) ∧ ∀ a, O2 a → msk Of σ (δ s2) a)
def ItOk (K : Frag) (P : Hp → (Addr → Prop) → Prop) (J : It) (ds : List D) : Prop :=
  ∀ (i : Nat) (H2 : Hp) (O2 : Addr → Prop), P H2 O2 → (∀ a, O2 a → H2 a ≠ none) →
    (i < ds.length → J.go i H2 ∧ ∀ x H3, J.yld i H2 x H3 → Same H2 H3 ∧ ∃ d, ds[i]? = some d ∧ Rp K (mask O2 H3) x d) ∧ (ds.length ≤ i → J.stop i H2)
def Ix (fz : Bool) (X : Cx) (tg iter : Expr) (δ : S → Sl) (r : α → D) (m : S → Option (List α × S)) : Prop :=
  KC δ → ∀ (O : Addr → Prop) (He H : Hp) (σ : L2.St) (s s' : S) (xs : List α) (R : It → Hp → Prop), m s = some (xs, s') → ER X.K O He H σ (δ s) →
    (∀ J H', Keep (ow σ (δ s)) H H' → ER X.K O He H' σ (δ s') → ItOk X.K (Seen fz X.K (ow σ (δ s)) (msk O σ (δ s)) He H' σ δ) J (xs.map r) → R J H') → wpI X tg iter σ H R
/-- a list to be walked -/
def Lx (fz : Bool) (X : Cx) (e : Expr) (δ : S → Sl) (r : α → D) (m : S → Option (List α × S)) : Prop :=
  KC δ → ∀ (O : Addr → Prop) (He H : Hp) (σ : L2.St) (s s' : S) (xs : List α) (Q : VK), m s = some (xs, s') → ER X.K O He H σ (δ s) →
    (∀ v H', Keep (ow σ (δ s)) H H' → ER X.K O He H' σ (δ s') → (∀ H2 O2, Seen fz X.K (ow σ (δ s)) (msk O σ (δ s)) He H' σ δ H2 O2 → LsOk X.K O2 H2 v (xs.map r)) → Q v H') → wpE X e σ H Q
theorem Dx.lx {m : S → Option (List α × S)} (h : Dx X e δ (rL r) m) : Lx fz X e δ r m := by
  intro kc O He H σ s s' xs Q hm er q
  refine h kc O He H σ s s' xs Q hm er fun v H' k er' hr => q v H' k er' fun H2 O2 sn => ?_
  generalize ed : rL r xs = d at hr
  cases hr with
  | lst h1 h2 =>
    cases ed
    obtain ⟨n1, h1⟩ := mask_some h1
    refine ⟨_, _, rfl, sn.1.at' _ _ (fun z => n1 (.inr z)) h1, h2.mono (mask_same fun b o n e => ⟨fun z => ?_, sn.1.at' _ _ (fun z => n (.inr z)) e⟩)⟩
    rcases sn.2.1 b z with z | z
    · exact n z
    · rw [z] at e; cases e
  | _ => cases ed
theorem Lx.own (i : Nat) {x : Str} {xs : List α} (hs : ∀ s, (δ s)[i]? = some (.own (cL r xs)) := by intro _; rfl) (hN : X.N[i]? = some x := by rfl) (hv : Vis X.env.scope x := by first | exact Or.inl rfl | exact Or.inr (Or.inl rfl) | exact Or.inr (Or.inr rfl))
    (hd : (x == ("__debug__" : Str)) = false := by decide) (hcd : (x == ("__classdict__" : Str)) = false := by decide) : Lx false X (.Name x pos) δ r (pu xs) := by
  intro kc O He H σ s s' b Q hm er q
  obtain ⟨rfl, rfl⟩ := pu_some hm
  obtain ⟨p, o, hp, ho, hc, at'⟩ := er.cell (hs s')
  refine PEwp (pe_var hN hv hd hcd) ⟨.ref p, hp, q _ H .refl er fun H2 O2 sn => ?_⟩
  rcases sn.2.2 with z | ⟨Of, s2, er2, hO⟩
  · cases z
  · obtain ⟨p2, o2, hp2, ho2, hc2, at2⟩ := er2.cell (hs s2)
    rw [hp] at hp2
    cases hp2
    obtain ⟨vs, rfl, hr⟩ := hc2
    exact ⟨p, vs, rfl, ho2, hr.mono (mask_same fun b o n e => ⟨fun z => n (hO b z), e⟩)⟩
theorem Ix.list {m : S → Option (List α × S)} (h : Lx fz X e δ r m) : Ix fz X tg e δ r m := by
  intro kc O He H σ s s' xs R hm er q
  refine PIwp (pi_list (peW X e)) (h kc O He H σ s s' xs _ hm er fun v H' k er' hl => ?_)
  have kO : ∀ {a}, msk O σ (δ s) a → H' a ≠ none := fun {a} z => by
    rw [kc.msk s s'] at z
    exact er'.mdom z
  obtain ⟨l, vs, rfl, hv, hr⟩ := hl H' (msk O σ (δ s)) ⟨.refl, fun _ z => .inl z, .inr ⟨O, s', er', fun a z => by rw [kc.msk s s'] at z; exact z⟩⟩
  refine ⟨l, rfl, ⟨vs, SqL.of hv⟩, q _ H' k er' fun i H2 O2 sn hd => ?_⟩
  obtain ⟨l2, vs2, e2, hv2, hr2⟩ := hl H2 O2 sn
  cases e2
  have hlen := hr2.length
  refine ⟨fun hi => ?_, fun hi => ⟨vs2, SqL.of hv2, by omega⟩⟩
  obtain ⟨v, hv3, hrv⟩ := hr2.get (List.getElem?_eq_getElem hi)
  refine ⟨⟨vs2, v, SqL.of hv2, hv3⟩, fun x H3 y => ?_⟩
  obtain ⟨rfl, y⟩ := y
  have e3 := y vs2 (SqL.of hv2)
  rw [hv3] at e3
  cases e3
  exact ⟨Same.refl _, _, List.getElem?_eq_getElem hi, hrv⟩
theorem Ix.tup {m : S → Option (List α × S)} (h : Dx X e δ (rT r) m) : Ix fz X tg e δ r m := by
  intro kc O He H σ s s' xs R hm er q
  refine PIwp (pi_tup (peW X e)) (h kc O He H σ s s' xs _ hm er fun v H' k er' hr => ?_)
  generalize ed : rT r xs = d at hr
  cases hr with
  | tup h1 h2 =>
    cases ed
    refine ⟨_, rfl, ⟨_, h1.imp (fun h => Same.rd mask_le h) id⟩, q _ H' k er' fun i H2 O2 sn hd => ?_⟩
    have sm : Same (mask (msk O σ (δ s)) H') (mask O2 H2) := mask_same fun b o n e => by
      refine ⟨fun z => ?_, sn.1.at' _ _ (fun z => n (.inr z)) e⟩
      rcases sn.2.1 b z with z | z
      · exact n z
      · rw [z] at e; cases e
    have h3 := h2.mono sm
    have h4 := Same.sqt (Same.trans sm mask_le) h1
    have hlen := h3.length
    refine ⟨fun hi => ?_, fun hi => ⟨_, h4, by omega⟩⟩
    obtain ⟨v, hv3, hrv⟩ := h3.get (List.getElem?_eq_getElem hi)
    refine ⟨⟨_, v, h4, hv3⟩, fun x H3 y => ?_⟩
    obtain ⟨rfl, y⟩ := y
    have e3 := y _ h4
    rw [hv3] at e3
    cases e3
    exact ⟨Same.refl _, _, List.getElem?_eq_getElem hi, hrv⟩
  | _ => cases ed
/-! ranges -/
def rng (lo hi : Int) : List Int := (List.range (hi - lo).toNat).map fun i : Nat => lo + (i : Int)
theorem itr_ok {K : Frag} {P : Hp → (Addr → Prop) → Prop} (lo : Int) (n : Nat) : ItOk K P (Itr lo n) (((List.range n).map fun i : Nat => lo + (i : Int)).map rI) := by
  intro i H2 O2 _ _
  have hl : (((List.range n).map fun i : Nat => lo + (i : Int)).map rI).length = n := by simp
  rw [hl]
  refine ⟨fun hi => ⟨hi, fun x H3 y => ?_⟩, fun hi => hi⟩
  obtain ⟨rfl, rfl⟩ := y
  exact ⟨Same.refl _, _, by rw [List.getElem?_map, List.getElem?_map, List.getElem?_range hi]; rfl, .int _⟩
def rngO (lo hi : Int) : Option (List Int) := if -(2 ^ 62) ≤ lo ∧ lo < 2 ^ 62 ∧ -(2 ^ 62) ≤ hi ∧ hi < 2 ^ 62 then some (rng lo hi) else none
theorem Ix.range1 {m : S → Option (Int × S)} (hm : X.mg "range" = .none) (h : Dx X e δ rI m) (hg : Gl X "range" := by rfl) (hs : starEach [e] X.env = [(false, eval e X.env)] := by rfl) : Ix fz X tg (.Call (.Name "range" p) [e] [] pos) δ rI (bd m fun n => lf (rngO 0 n)) := by
  intro kc O He H σ s s' xs R hm' er q
  obtain ⟨n, s1, h1, h2⟩ := bd_some hm'
  obtain ⟨h3, rfl⟩ := lf_some h2
  unfold rngO at h3
  split at h3
  · rename_i c
    cases h3
    refine PIwp (pi_range1 hg hm (pa1 hs) hs) (h kc O He H σ s s' n _ h1 er fun v H' k er' hr => ?_)
    cases hr
    refine ⟨n, rfl, c.2.2.1, c.2.2.2, q _ H' k er' ?_⟩
    unfold rng
    rw [Int.sub_zero]
    exact itr_ok 0 n.toNat
  · cases h3
theorem Ix.range2 {ma mb : S → Option (Int × S)} (hm : X.mg "range" = .none) (ha : Dx X e1 δ rI ma) (hb : Dx X e2 δ rI mb) (hg : Gl X "range" := by rfl) (hs : starEach [e1, e2] X.env = [(false, eval e1 X.env), (false, eval e2 X.env)] := by rfl) (hs2 : starEach [e2] X.env = [(false, eval e2 X.env)] := by rfl) :
    Ix fz X tg (.Call (.Name "range" p) [e1, e2] [] pos) δ rI (bd ma fun a => bd mb fun b => lf (rngO a b)) := by
  intro kc O He H σ s s' xs R hm' er q
  obtain ⟨a, s1, h1, h2⟩ := bd_some hm'
  obtain ⟨b, s2, h4, h2⟩ := bd_some h2
  obtain ⟨h3, rfl⟩ := lf_some h2
  unfold rngO at h3
  split at h3
  · rename_i c
    cases h3
    refine PIwp (pi_range2 hg hm (pa_cons (peW X e1) (pa_cons (peW X e2) pa_nil hs2) (hs.trans (by rw [hs2]))) hs hs2) (two ha (fun _ => hb) kc h1 h4 er fun x y H' k er' rx ry => ?_)
    cases rx; cases ry
    exact ⟨a, b, rfl, c, q _ H' k er' (itr_ok a _)⟩
  · cases h3
/-- range(a, b, -1) -/
def rngD (a b : Int) : List Int := (List.range (a - b).toNat).map fun i : Nat => a - (i : Int)
def rngDO (lo hi c : Int) : Option (List Int) := if (-(2 ^ 62) ≤ lo ∧ lo < 2 ^ 62 ∧ -(2 ^ 62) ≤ hi ∧ hi < 2 ^ 62) ∧ c = -1 then some (rngD lo hi) else none
theorem Ix.range3 {ma mb mc : S → Option (Int × S)} (hm : X.mg "range" = .none) (ha : Dx X e1 δ rI ma) (hb : Dx X e2 δ rI mb) (hc : Dx X e3 δ rI mc) (hg : Gl X "range" := by rfl) (hs : starEach [e1, e2, e3] X.env = (false, eval e1 X.env) :: starEach [e2, e3] X.env := by rfl) (hs2 : starEach [e2, e3] X.env = (false, eval e2 X.env) :: starEach [e3] X.env := by rfl) (hs3 : starEach [e3] X.env = (false, eval e3 X.env) :: starEach [] X.env := by rfl) (hpl : (backTo pos (starEach [e2, e3] X.env)).any (·.1) = false := by rfl) :
    Ix fz X tg (.Call (.Name "range" p) [e1, e2, e3] [] pos) δ rI (bd ma fun a => bd mb fun b => bd mc fun c => lf (rngDO a b c)) := by
  intro kc O He H σ s s' xs R hm' er q
  obtain ⟨a, s1, h1, h2⟩ := bd_some hm'
  obtain ⟨b, s2, h4, h2⟩ := bd_some h2
  obtain ⟨c, s3, h5, h2⟩ := bd_some h2
  obtain ⟨h3, rfl⟩ := lf_some h2
  unfold rngDO at h3
  split at h3
  · rename_i cc
    obtain ⟨⟨c1, c2, c3, c4⟩, rfl⟩ := cc
    cases h3
    refine PIwp (pi_range3 hg hm (pa_cons (peW X e1) (pa_cons (peW X e2) (pa_cons (peW X e3) pa_nil hs3) hs2) hs) hs hpl) (two ha (fun _ => hb) kc h1 h4 er fun x y H' k er' rx ry => ?_)
    refine hc kc O He H' σ s2 s' (-1) _ h5 er' fun z H2 k2 er2 rz => ?_
    rw [kc.ow s2 s] at k2
    cases rx; cases ry; cases rz
    refine ⟨a, b, -1, _, rfl, RgC.neg c1 c2 c3 c4, q _ H2 (k.trans k2) er2 ?_⟩
    intro i H3 O3 _ _
    have hl : ((rngD a b).map rI).length = (a - b).toNat := by simp [rngD]
    rw [hl]
    refine ⟨fun hi => ⟨hi, fun x H4 y => ?_⟩, fun hi => hi⟩
    obtain ⟨rfl, rfl⟩ := y
    refine ⟨Same.refl _, .int (a - i), ?_, ?_⟩
    · unfold rngD
      rw [List.getElem?_map, List.getElem?_map, List.getElem?_range hi]; rfl
    · have e : a + (i : Int) * -1 = a - i := by omega
      rw [e]; exact .int _
  · cases h3
/-! enumerate, zip -/
theorem enum_len {xs : List α} : (xs.zipIdx.map fun q : α × Nat => ((q.2 : Int), q.1)).length = xs.length := by simp
def enumL (xs : List α) : List (Int × α) := xs.zipIdx.map fun q : α × Nat => ((q.2 : Int), q.1)
theorem enumL_get {xs : List α} {i : Nat} {x : α} (h : xs[i]? = some x) : (enumL xs)[i]? = some ((i : Int), x) := by
  unfold enumL
  rw [List.getElem?_map, List.getElem?_zipIdx, h]
  simp
theorem enumL_length (xs : List α) : (enumL xs).length = xs.length := by simp [enumL]
theorem tup_new {K : Frag} {O2 : Addr → Prop} {H2 : Hp} {T : Addr} {xs : List V} {ds : List D} (hT : H2 T = none) (hd : ∀ a, O2 a → H2 a ≠ none) (h : RpAll K (mask O2 H2) xs ds) : Rp K (mask O2 (upd H2 T (.tup xs))) (.ref T) (.tuple ds) := by
  have nT : ¬ O2 T := fun z => hd T z hT
  exact .tup (.inl (.inl (by rw [mask_of nT]; exact upd_same))) (h.mono (mask_mono (same_new hT)))
theorem Ix.enum {elts : List Expr} {kk : Nat} {m : S → Option (List α × S)} (hm : X.mg "enumerate" = .none) (h : Lx fz X e δ r m) (hg : Gl X "enumerate" := by rfl) (hs : starEach [e] X.env = [(false, eval e X.env)] := by rfl) :
    Ix fz X (.Tuple elts kk tpos) (.Call (.Name "enumerate" p) [e] [] pos) δ (r2 rI r) (bd m fun xs => pu (enumL xs)) := by
  intro kc O He H σ s s' xs R hm' er q
  obtain ⟨ys, s1, h1, h2⟩ := bd_some hm'
  obtain ⟨rfl, rfl⟩ := pu_some h2
  refine PIwp (pi_enum hg hm (pa1 hs) hs) (h kc O He H σ s s' ys _ h1 er fun v H' k er' hl => ?_)
  obtain ⟨l, vs, rfl, hv, hr⟩ := hl H' (msk O σ (δ s)) ⟨.refl, fun _ z => .inl z, .inr ⟨O, s', er', fun a z => by rw [kc.msk s s'] at z; exact z⟩⟩
  refine ⟨l, vs, rfl, SqL.of hv, q _ H' k er' fun i H2 O2 sn hd => ?_⟩
  obtain ⟨l2, vs2, e2, hv2, hr2⟩ := hl H2 O2 sn
  cases e2
  have hlen := hr2.length
  rw [List.length_map] at hlen
  have hlen2 : ((enumL ys).map (r2 rI r)).length = ys.length := by rw [List.length_map, enumL_length]
  rw [hlen2]
  refine ⟨fun hi => ?_, fun hi => ⟨vs2, SqL.of hv2, by omega⟩⟩
  obtain ⟨v, hv3, hrv⟩ := hr2.map_get (List.getElem?_eq_getElem hi)
  refine ⟨⟨vs2, v, SqL.of hv2, hv3⟩, fun x H3 y => ?_⟩
  obtain ⟨T, x', rfl, hT, rfl, y⟩ := y
  have e3 := y vs2 (SqL.of hv2)
  rw [hv3] at e3
  cases e3
  exact ⟨same_new hT, _, by rw [List.getElem?_map, enumL_get (List.getElem?_eq_getElem hi)]; rfl, tup_new hT hd (.cons (.int _) (.cons hrv .nil))⟩
theorem Ix.zip {rb : β → D} {elts : List Expr} {kk : Nat} {ma : S → Option (List α × S)} {mb : S → Option (List β × S)} (hm : X.mg "zip" = .none) (ha : Lx fz X e1 δ r ma) (hb : Lx fz X e2 δ rb mb) (hg : Gl X "zip" := by rfl) (hs : starEach [e1, e2] X.env = (false, eval e1 X.env) :: starEach [e2] X.env := by rfl) (hs2 : starEach [e2] X.env = (false, eval e2 X.env) :: starEach [] X.env := by rfl) (hpl : (backTo pos (starEach [e2] X.env)).any (·.1) = false := by rfl) :
    Ix fz X (.Tuple elts kk tpos) (.Call (.Name "zip" p) [e1, e2] [] pos) δ (r2 r rb) (bd ma fun xs => bd mb fun ys => pu (xs.zip ys)) := by
  intro kc O He H σ s s' zs R hm' er q
  obtain ⟨xs, s1, h1, h2⟩ := bd_some hm'
  obtain ⟨ys, s2, h3, h2⟩ := bd_some h2
  obtain ⟨rfl, rfl⟩ := pu_some h2
  refine PIwp (pi_zip hg hm (pa_cons (peW X e1) (pa_cons (peW X e2) pa_nil hs2) hs) hs hpl) (ha kc O He H σ s s1 xs _ h1 er fun v H1 k er1 hl => ?_)
  refine hb kc O He H1 σ s1 s' ys _ h3 er1 fun w H2 k2 er2 hl2 => ?_
  rw [kc.ow s1 s] at k2; rw [kc.ow s1 s, kc.msk s1 s] at hl2
  have toA : ∀ {H3 O3}, Seen fz X.K (ow σ (δ s)) (msk O σ (δ s)) He H2 σ δ H3 O3 → Seen fz X.K (ow σ (δ s)) (msk O σ (δ s)) He H1 σ δ H3 O3 := fun {H3 O3} sn => ⟨k2.trans sn.1, fun a z => by
    rcases sn.2.1 a z with z | z
    · exact .inl z
    · exact .inr (k2.none z), sn.2.2⟩
  have now : Seen fz X.K (ow σ (δ s)) (msk O σ (δ s)) He H2 σ δ H2 (msk O σ (δ s)) := ⟨.refl, fun _ z => .inl z, .inr ⟨O, s', er2, fun a z => by rw [kc.msk s s'] at z; exact z⟩⟩
  obtain ⟨l, vs, rfl, hv, hr⟩ := hl H2 _ (toA now)
  obtain ⟨l', vs', rfl, hv', hr'⟩ := hl2 H2 _ now
  refine ⟨l, l', vs, vs', rfl, SqL.of hv, SqL.of hv', q _ H2 (k.trans k2) er2 fun i H3 O3 sn hd => ?_⟩
  obtain ⟨l2, vs2, e2, hv2, hr2⟩ := hl H3 O3 (toA sn)
  cases e2
  obtain ⟨l3, vs3, e3, hv3, hr3⟩ := hl2 H3 O3 sn
  cases e3
  have n2 := hr2.length
  have n3 := hr3.length
  rw [List.length_map] at n2 n3
  have hn : ((xs.zip ys).map (r2 r rb)).length = min xs.length ys.length := by rw [List.length_map, List.length_zip]
  rw [hn]
  refine ⟨fun hi => ?_, fun hi => ⟨vs2, vs3, SqL.of hv2, SqL.of hv3, by omega⟩⟩
  have i1 : i < xs.length := by omega
  have i2 : i < ys.length := by omega
  obtain ⟨v, hva, hrv⟩ := hr2.map_get (List.getElem?_eq_getElem i1)
  obtain ⟨w, hwa, hrw⟩ := hr3.map_get (List.getElem?_eq_getElem i2)
  refine ⟨⟨vs2, vs3, v, w, SqL.of hv2, SqL.of hv3, hva, hwa⟩, fun x H4 y => ?_⟩
  obtain ⟨T, x', y', rfl, hT, rfl, y1, y2⟩ := y
  have e3 := y1 vs2 (SqL.of hv2)
  rw [hva] at e3
  cases e3
  have e4 := y2 vs3 (SqL.of hv3)
  rw [hwa] at e4
  cases e4
  refine ⟨same_new hT, _, ?_, tup_new hT hd (.cons hrv (.cons hrw .nil))⟩
  have ez : (xs.zip ys)[i]? = some (xs[i], ys[i]) := List.getElem?_zip_eq_some.mpr ⟨List.getElem?_eq_getElem i1, List.getElem?_eq_getElem i2⟩
  rw [List.getElem?_map, ez]
  rfl
end
end DL

namespace DL
open PySem PySem.Spec L2

/-! ### comprehensions -/
section
variable {S α β γ : Type}
def mapS : List α → (α → S → Option (β × S)) → S → Option (List β × S)
  | [], _ => pu []
  | x :: xs, f => bd (f x) fun y => bd (mapS xs f) fun ys => pu (y :: ys)
def fltS : List α → (α → S → Option (Bool × S)) → (α → S → Option (β × S)) → S → Option (List β × S)
  | [], _, _ => pu []
  | x :: xs, p, f => bd (p x) fun b => if b then bd (f x) fun y => bd (fltS xs p f) fun ys => pu (y :: ys) else fltS xs p f
theorem flt_true (f : α → S → Option (β × S)) : ∀ xs : List α, fltS xs (fun _ => pu true) f = mapS xs f
  | [] => rfl
  | x :: xs => by
    show bd (f x) (fun y => bd (fltS xs (fun _ => pu true) f) fun ys => pu (y :: ys)) = bd (f x) fun y => bd (mapS xs f) fun ys => pu (y :: ys)
    rw [flt_true f xs]
/-- a list not too long -/
def lcM (xs : List α) (m : S → Option (β × S)) : S → Option (β × S) := gd (xs.length ≤ big) m
theorem KC.un {δ : S → Sl} (kc : KC δ) {f : Sl → Sl} : KC δ := kc

variable {X : Cx} {tg iter elt cond : Expr} {δ : S → Sl} {r : α → D} {rc : β → D} {ts vs : List Nat} {f : α → Sl → Sl} {pos p2 : Pos} {scope : Scope}
theorem comp_core {FX : Type} {F : FX → Cx} (hK : ∀ y, (F y).K = X.K) {wi : TI} {m : S → Option (List α × S)} {mp : α → S → Option (Bool × S)} {me : α → S → Option (β × S)} {tt : TT}
    (hi : ∀ (O : Addr → Prop) (He H : Hp) (σ : L2.St) (s s' : S) (xs : List α) (R : It → Hp → Prop), m s = some (xs, s') → ER X.K O He H σ (δ s) →
      (∀ J H', Keep (ow σ (δ s)) H H' → ER X.K O He H' σ (δ s') → ItOk X.K (Seen false X.K (ow σ (δ s)) (msk O σ (δ s)) He H' σ δ) J (xs.map r) → R J H') → wi σ H R)
    (hu : ∀ i ∈ vs, ∀ s t, (δ s)[i]? = some t → t = .un) (hts : ∀ i ∈ ts, i ∈ vs) (hg : ∀ y, Gx (F y) tg ts r f) (kc : KC δ) (kc2 : ∀ x, KC fun s => f x (δ s))
    (ht : ∀ (x : α) (O : Addr → Prop) (He H : Hp) (σ : L2.St) (s s' : S) (b : Bool) (Q : Bool → Hp → Prop), mp x s = some (b, s') → ER X.K O He H σ (f x (δ s)) →
      (∀ H', Keep (ow σ (f x (δ s))) H H' → ER X.K O He H' σ (f x (δ s')) → Q b H') → tt σ H Q)
    (he : ∀ y x, Dx (F y) elt (fun s => f x (δ s)) rc (me x)) {O : Addr → Prop} {He H : Hp} {σ : L2.St} {s s' : S} {zs : List β} {Q : VK}
    (hm : bd m (fun xs => lcM xs (fltS xs mp me)) s = some (zs, s')) (er : ER X.K O He H σ (δ s))
    (q : ∀ p o H', H p = none → ¬ O p → Keep (ow σ (δ s)) H H' → ER X.K (fun a => O a ∨ a = p) He H' σ (δ s') → H' p = some o → CellOk X.K (mask (msk (fun a => O a ∨ a = p) σ (δ s)) H') o (cL rc zs) → Q (.ref p) H') :
    tLc wi (fun v σ H Q => ∀ y, wpG (F y) tg v σ H Q) tt (fun σ H Q => ∀ y, wpE (F y) elt σ H Q) vs σ H Q := by
  obtain ⟨xs, s1, h1, h2⟩ := bd_some hm
  obtain ⟨hb, h2⟩ := gd_some h2
  refine hi O He H σ s s1 xs _ h1 er fun J H1 k1 er1 it => ?_
  intro Dl hD
  have hDm := er1.newp hD
  have hDH : H Dl = none := k1.none hD
  have wr : ∀ s, ∀ i : Nat, (∃ t, (δ s)[i]? = some t ∧ t ≠ .un) → (wipe σ vs)[i]? = σ[i]? := fun s => wipe_re fun i hm t h => hu i hm s t h
  have nm : ∀ s, ¬ msk O σ (δ s) Dl := fun t z => by
    rw [kc.msk t s1] at z
    exact er1.mdom z hD
  refine ⟨fun i n H2 => n = xs.length - i ∧ i ≤ xs.length ∧ ∃ (si : S) (acc tl : List β) (va : List V), fltS (xs.drop i) mp me si = some (tl, s') ∧ zs = acc ++ tl ∧ acc.length ≤ i ∧ ER X.K (fun a => O a ∨ a = Dl) He H2 (wipe σ vs) (δ si) ∧ Keep (ow σ (δ s)) H1 H2 ∧
      H2 Dl = some (.lst va) ∧ RpAll X.K (mask (msk (fun a => O a ∨ a = Dl) σ (δ s)) H2) va (acc.map rc), ⟨xs.length, by simp, Nat.zero_le _, s1, [], zs, [], h2, rfl, Nat.le_refl _, ?_, .of (same_new hD), upd_same, .nil⟩, ?_⟩
  · exact (er1.new hD).re (wipe_length _ _) (wr s1)
  rintro i n H2 ⟨rfl, hin, si, acc, tl, va, hrun, hz, hacc, er2, k2, hDl, hva⟩
  have erF : ER X.K (fun a => O a ∨ a = Dl) He H2 σ (δ si) := er2.re (wipe_length _ _).symm fun j h => (wr si j h).symm
  have sn : Seen false X.K (ow σ (δ s)) (msk O σ (δ s)) He H1 σ δ H2 (msk (fun a => O a ∨ a = Dl) σ (δ si)) := by
    refine ⟨k2, fun a z => ?_, .inr ⟨_, si, erF, fun a z => z⟩⟩
    rcases z with (z | z) | z
    · exact .inl (.inl z)
    · exact .inr (z ▸ hD)
    · rw [kc.msk s si]; exact .inl (.inr z)
  have ito := it i H2 _ sn fun a z => erF.mdom z
  rw [List.length_map] at ito
  by_cases hlt : i < xs.length
  · refine .inr ⟨(ito.1 hlt).1, ?_⟩
    have hd : xs.drop i = xs[i] :: xs.drop (i + 1) := (List.getElem_cons_drop (h := hlt)).symm
    rw [hd] at hrun
    obtain ⟨b, s2, hp, hrun⟩ := bd_some hrun
    refine ⟨fun H3 => ∃ (si : S) (acc tl : List β) (va : List V), fltS (xs.drop (i + 1)) mp me si = some (tl, s') ∧ zs = acc ++ tl ∧ acc.length ≤ i + 1 ∧ ER X.K (fun a => O a ∨ a = Dl) He H3 (wipe σ vs) (δ si) ∧ Keep (ow σ (δ s)) H1 H3 ∧
      H3 Dl = some (.lst va) ∧ RpAll X.K (mask (msk (fun a => O a ∨ a = Dl) σ (δ s)) H3) va (acc.map rc), fun H3 h3 => ⟨xs.length - (i + 1), by omega, rfl, hlt, h3⟩, fun v H3 y => ?_⟩
    obtain ⟨sm, d, hd1, hrp⟩ := (ito.1 hlt).2 v H3 y
    rw [List.getElem?_map, List.getElem?_eq_getElem hlt] at hd1
    cases hd1
    have er3 := er2.mono sm
    have em : msk (fun a => O a ∨ a = Dl) (wipe σ vs) (δ si) = msk (fun a => O a ∨ a = Dl) σ (δ si) := msk_re (wr si)
    intro yy
    refine (hg yy).run _ He H3 _ _ xs[i] v _ (by rw [hK]; exact er3) (by rw [hK, em]; exact hrp) fun σ2 er4 o4 l4 m4 => ?_
    rw [hK] at er4
    refine ⟨wipe_ext (by rw [l4, wipe_length]) fun j hj => o4 j fun z => hj (hts j z), ?_⟩
    -- from the block's names back to the def's
    have back : ∀ {H5 : Hp} {s5 : S}, ER X.K (fun a => O a ∨ a = Dl) He H5 σ2 (f xs[i] (δ s5)) → ER X.K (fun a => O a ∨ a = Dl) He H5 (wipe σ vs) (δ s5) := fun {H5 s5} e5 => by
      refine (e5.le ((hg yy).le (fun j hj t ht => hu j (hts j hj) s5 t ht) xs[i])).re (by rw [wipe_length, ← l4.trans (wipe_length _ _)]) fun j ⟨t, h5, n5⟩ => ?_
      have nj : j ∉ vs := fun z => n5 (hu j z s5 t h5)
      rw [o4 j fun z => nj (hts j z)]
    -- the block's own cells are the def's
    have sub : ∀ {s5 : S} {a : Addr}, ow σ2 (f xs[i] (δ s5)) a → ow σ (δ s) a := fun {s5 a} z => by
      have z2 : ow σ2 (f xs[i] (δ si)) a := by rw [KC.ow (δ := fun s => f xs[i] (δ s)) (kc2 xs[i]) si s5]; exact z
      have z3 := m4 a (.inr z2)
      rw [em] at z3
      rcases z3 with z3 | z3
      · obtain ⟨j, z2⟩ := z2
        exact absurd z3 (er4.disj j a z2)
      · rw [kc.ow s si]; exact z3
    have subm : ∀ {s5 : S} {a : Addr}, msk (fun a => O a ∨ a = Dl) σ2 (f xs[i] (δ s5)) a → msk (fun a => O a ∨ a = Dl) σ (δ s) a := fun {s5 a} z => by
      rcases z with z | z
      · exact .inl z
      · exact .inr (sub z)
    have sup : ∀ {s5 : S} {a : Addr}, msk (fun a => O a ∨ a = Dl) σ (δ s) a → msk (fun a => O a ∨ a = Dl) σ2 (f xs[i] (δ s5)) a := fun {s5 a} z => by
      rcases z with z | ⟨j, z⟩
      · exact .inl z
      · obtain ⟨⟨c, z1⟩, z2⟩ := kc.at (t := s5) z
        have nj : j ∉ vs := fun q => nomatch (hu j q s5 _ z1)
        refine .inr ⟨j, ⟨c, ?_⟩, ?_⟩
        · rw [(hg yy).out _ _ j fun q => nj (hts j q)]; exact z1
        · rw [o4 j fun q => nj (hts j q), wipe_out nj]; exact z2
    have kk : ∀ {H4 H5 : Hp} {s5 : S}, Keep (ow σ2 (f xs[i] (δ s5))) H4 H5 → Keep (ow σ (δ s)) H4 H5 := fun {H4 H5 s5} k => k.mono fun a z => sub z
    have k3 : Keep (ow σ (δ s)) H1 H3 := k2.trans (.of sm)
    have dl3 : H3 Dl = some (.lst va) := sm _ _ hDl
    have rp3 : RpAll X.K (mask (msk (fun a => O a ∨ a = Dl) σ (δ s)) H3) va (acc.map rc) := hva.mono (mask_mono sm)
    have nD : ¬ ow σ (δ s) Dl := fun z => nm s (.inr z)
    refine ht xs[i] _ He H3 σ2 si s2 b _ hp er4 fun H4 k4 er5 => ?_
    have k34 := kk k4
    cases b with
    | false =>
      rw [if_neg Bool.false_ne_true] at hrun
      refine iteF ⟨s2, acc, tl, va, hrun, hz, by omega, back er5, k3.trans k34, k34.at' _ _ nD dl3, ?_⟩
      exact rp3.mono k34.mask
    | true =>
      rw [if_pos rfl] at hrun
      obtain ⟨z, s3, he1, hrun⟩ := bd_some hrun
      obtain ⟨tl2, s4, hr2, hrun⟩ := bd_some hrun
      obtain ⟨rfl, rfl⟩ := pu_some hrun
      refine iteT fun yy2 => ?_
      refine he yy2 xs[i] (kc2 xs[i]) _ He H4 σ2 s2 s3 z _ he1 (by rw [hK]; exact er5) fun w H5 k5 er6 hw => ?_
      rw [hK] at er6 hw
      have k45 := kk k5
      have k35 := k34.trans k45
      have dl5 : H5 Dl = some (.lst va) := k35.at' _ _ nD dl3
      have rp5 := rp3.mono k35.mask
      have hlen := rp5.length
      rw [List.length_map] at hlen
      have hbig := big_lt
      refine ⟨va, dl5, by omega, s3, acc ++ [z], tl2, va ++ [w], hr2, by rw [hz, List.append_assoc]; rfl, by rw [List.length_append]; simp; omega, ?_, ?_, upd_same, ?_⟩
      · -- the new list grows
        have b5 := back er6
        refine ⟨b5.len, fun a o e => ?_, b5.fresh, b5.inj, b5.disj, fun a z => ?_, fun j t hj => ?_⟩
        · rw [upd_ne]
          · exact b5.same a o e
          · rintro rfl
            rw [er.same.free hDH] at e
            cases e
        · by_cases ea : a = Dl
          · rw [ea, upd_same]; exact fun z => nomatch z
          · rw [upd_ne ea]; exact b5.dom a z
        · obtain ⟨x, hx, rr⟩ := b5.slot j t hj
          refine ⟨x, hx, rr.mono (mask_same fun a o n e => ⟨n, ?_⟩) fun p o e1 ⟨c, e2⟩ e3 => ?_⟩
          · rw [upd_ne]
            · exact e
            · rintro rfl
              exact n (.inl (.inr rfl))
          · rw [upd_ne]
            · exact e3
            · rintro rfl
              subst e2
              exact b5.disj j p ⟨⟨c, hj⟩, by rw [hx, e1]⟩ (.inr rfl)
      · have kt := k3.trans k35
        refine ⟨fun a o n e => ?_, fun a n => ?_⟩
        · rw [upd_ne (ne_of_none e hD)]
          exact kt.at' a o n e
        · have n := kt.dom a n
          by_cases ea : a = Dl
          · rw [ea, upd_same]; exact fun z => nomatch z
          · rw [upd_ne ea]; exact n
      · rw [List.map_append]
        have smu : Same (mask (msk (fun a => O a ∨ a = Dl) σ (δ s)) H5) (mask (msk (fun a => O a ∨ a = Dl) σ (δ s)) (upd H5 Dl (.lst (va ++ [w])))) := mask_same fun a o n e => by
          refine ⟨n, ?_⟩
          rw [upd_ne]
          · exact e
          · rintro rfl
            exact n (.inl (.inr rfl))
        refine (rp5.mono smu).append (.cons ((hw.mono ?_).mono smu) .nil)
        exact mask_same fun a o n e => ⟨fun z => n (sup z), e⟩
  · have hi2 : i = xs.length := by omega
    subst hi2
    rw [List.drop_length] at hrun
    obtain ⟨rfl, rfl⟩ := pu_some hrun
    rw [List.append_nil] at hz
    subst hz
    refine .inl ⟨ito.2 (Nat.le_refl _), ?_⟩
    exact q Dl _ H2 hDH hDm (k1.trans k2) erF hDl ⟨va, rfl, hva⟩

/-! the forms -/
abbrev BkT := Shared × Hp × Addr × List (Str × Addr) × List Addr
abbrev Bk (X : Cx) (scope : Scope) (y : BkT) : Cx := X.blk y.1 y.2.1 scope (compEnvC scope y.2.2.2.1 y.2.2.1 X.env) y.2.2.2.2
def isUn : Option Slot → Bool
  | some .un => true
  | none => true
  | _ => false
def unAt (δ : Sl) (vs : List Nat) : Bool := vs.all fun i => isUn δ[i]?
theorem unAt_of {δ : Sl} {vs : List Nat} (h : unAt δ vs = true) : ∀ i ∈ vs, ∀ t, δ[i]? = some t → t = .un := fun i hi t ht => by
  have e := List.all_eq_true.mp h i hi
  rw [ht] at e
  cases t <;> first | rfl | cases e
/-- what a comprehension wants: the wish of pe_lc -/
abbrev tC0 (X : Cx) (tg iter elt : Expr) (scope : Scope) (vs : List Nat) : TE :=
  tLc (wpI X tg iter) (fun v σ H Q => ∀ y, wpG (Bk X scope y) tg v σ H Q) tYes (fun σ H Q => ∀ y, wpE (Bk X scope y) elt σ H Q) vs
abbrev tC1 (X : Cx) (tg iter elt cond : Expr) (scope : Scope) (vs : List Nat) : TE :=
  tLc (wpI X tg iter) (fun v σ H Q => ∀ y, wpG (Bk X scope y) tg v σ H Q) (fun σ H Q => ∀ y, wpT (Bk X scope y) cond σ H Q) (fun σ H Q => ∀ y, wpE (Bk X scope y) elt σ H Q) vs
/-- a wish that makes a new cell -/
def FxW (X : Cx) (W : TE) (δ : S → Sl) (c : γ → Cell) (m : S → Option (γ × S)) : Prop :=
  KC δ → ∀ (O : Addr → Prop) (He H : Hp) (σ : L2.St) (s s' : S) (a : γ) (Q : VK), m s = some (a, s') → ER X.K O He H σ (δ s) →
    (∀ p o H', H p = none → ¬ O p → Keep (ow σ (δ s)) H H' → ER X.K (fun a => O a ∨ a = p) He H' σ (δ s') → H' p = some o → CellOk X.K (mask (msk (fun a => O a ∨ a = p) σ (δ s)) H') o (c a) → Q (.ref p) H') → W σ H Q
theorem FxW.fx {e : Expr} {W : TE} {c : γ → Cell} {m : S → Option (γ × S)} (h : FxW X W δ c m) (hp : PE X e W) : Fx X e δ c m := by
  intro kc O He H σ s s' a Q hm er q
  exact PEwp hp (h kc O He H σ s s' a Q hm er q)
theorem Fx.w {e : Expr} {c : γ → Cell} {m : S → Option (γ × S)} (h : Fx X e δ c m) : FxW X (wpE X e) δ c m := h
theorem comp0 {m : S → Option (List α × S)} {me : α → S → Option (β × S)} (own : List (Str × Nat)) (hi : Ix false X tg iter δ r m) (hg : ∀ y, Gx (Bk X scope y) tg ts r f) (he : ∀ y x, Dx (Bk X scope y) elt (fun s => f x (δ s)) rc (me x))
    (hu : ∀ s, unAt (δ s) (own.map (·.2)) = true := by intro _; rfl) (hts : ∀ i ∈ ts, i ∈ own.map (·.2) := by decide) (kc2 : ∀ x, KC fun s => f x (δ s) := by intro _ _ _; rfl) :
    FxW X (tC0 X tg iter elt scope (own.map (·.2))) δ (cL rc) (bd m fun xs => lcM xs (mapS xs me)) := by
  intro kc O He H σ s s' zs Q hm er q
  refine comp_core (F := Bk X scope) (mp := fun _ => pu true) (m := m) (me := me) (fun _ => rfl) (hi kc) (fun i hi s t ht => unAt_of (hu s) i hi t ht) hts hg kc kc2 (fun x O He H σ s s' b Q hb er q => ?_) he ?_ er q
  · obtain ⟨rfl, rfl⟩ := pu_some hb
    exact q H .refl er
  · simp only [flt_true]
    exact hm
theorem comp1 {m : S → Option (List α × S)} {mp : α → S → Option (Bool × S)} {me : α → S → Option (β × S)} (own : List (Str × Nat)) (hi : Ix false X tg iter δ r m) (hg : ∀ y, Gx (Bk X scope y) tg ts r f) (ht : ∀ y x, Tx (Bk X scope y) cond (fun s => f x (δ s)) (mp x))
    (he : ∀ y x, Dx (Bk X scope y) elt (fun s => f x (δ s)) rc (me x)) (hu : ∀ s, unAt (δ s) (own.map (·.2)) = true := by intro _; rfl) (hts : ∀ i ∈ ts, i ∈ own.map (·.2) := by decide) (kc2 : ∀ x, KC fun s => f x (δ s) := by intro _ _ _; rfl) :
    FxW X (tC1 X tg iter elt cond scope (own.map (·.2))) δ (cL rc) (bd m fun xs => lcM xs (fltS xs mp me)) := by
  intro kc O He H σ s s' zs Q hm er q
  refine comp_core (F := Bk X scope) (mp := mp) (m := m) (me := me) (fun _ => rfl) (hi kc) (fun i hi s t ht => unAt_of (hu s) i hi t ht) hts hg kc kc2 (fun x O He H σ s s' b Q hb er q y => ?_) he hm er q
  exact ht y x (kc2 x) O He H σ s s' b Q hb er q
section
variable (hc : X.calm = true) (hN : X.N.Nodup) {own : List (Str × Nat)}
theorem pe_c0 (hc : X.calm = true) (hN : X.N.Nodup) (ok : BlkOk X.N X.env.scope scope own) (hs : ∀ x, foldedSetIterable iter X.env x = pure x := by intro _; rfl) : PE X (.ListComp elt [⟨tg, iter, [], 0⟩] scope pos) (tC0 X tg iter elt scope (own.map (·.2))) :=
  pe_lc hc hN (piW X tg iter) ok (fun s H C cl fp => ⟨fun pins s' σ H' v u Q I r h => (h (s, H, C, cl, fp)).run pins s' u I r⟩) (fun _ _ _ _ _ => pts_nil) (fun s H C cl fp => ⟨fun pins s' σ H' Q I h => (h (s, H, C, cl, fp)).run pins s' I⟩) hs
theorem pe_c1 (hc : X.calm = true) (hN : X.N.Nodup) (ok : BlkOk X.N X.env.scope scope own) (hs : ∀ x, foldedSetIterable iter X.env x = pure x := by intro _; rfl) : PE X (.ListComp elt [⟨tg, iter, [cond], 0⟩] scope pos) (tC1 X tg iter elt cond scope (own.map (·.2))) :=
  pe_lc hc hN (piW X tg iter) ok (fun s H C cl fp => ⟨fun pins s' σ H' v u Q I r h => (h (s, H, C, cl, fp)).run pins s' u I r⟩) (fun s H C cl fp => pts_one ⟨fun pins s' σ H' Q I h => (h (s, H, C, cl, fp)).run pins s' I⟩) (fun s H C cl fp => ⟨fun pins s' σ H' Q I h => (h (s, H, C, cl, fp)).run pins s' I⟩) hs
theorem ps_c0 {i : Nat} {y : Str} {py spos : Pos} (hc : X.calm = true) (hN : X.N.Nodup) (ok : BlkOk X.N X.env.scope scope own) (hy : X.N[i]? = some y := by rfl) (hyl : X.env.scope.names.lookup y = some .local := by rfl)
    (hsw : swapsWith (.ListComp elt [⟨tg, iter, [], 0⟩] scope pos) (some (.Name y py)) spos.line X.env = pure true := by exact sw_true rfl rfl rfl (by decide +kernel)) (hs : ∀ x, foldedSetIterable iter X.env x = pure x := by intro _; rfl) :
    PS X (.Assign [.Name y py] (.ListComp elt [⟨tg, iter, [], 0⟩] scope pos) spos) (tAsg (tC0 X tg iter elt scope (own.map (·.2))) (gName i)) :=
  ps_setLc hc hN hy hyl hsw (piW X tg iter) ok (fun s H C cl fp => ⟨fun pins s' σ H' v u Q I r h => (h (s, H, C, cl, fp)).run pins s' u I r⟩) (fun _ _ _ _ _ => pts_nil) (fun s H C cl fp => ⟨fun pins s' σ H' Q I h => (h (s, H, C, cl, fp)).run pins s' I⟩) hs
theorem ps_c1 {i : Nat} {y : Str} {py spos : Pos} (hc : X.calm = true) (hN : X.N.Nodup) (ok : BlkOk X.N X.env.scope scope own) (hy : X.N[i]? = some y := by rfl) (hyl : X.env.scope.names.lookup y = some .local := by rfl)
    (hsw : swapsWith (.ListComp elt [⟨tg, iter, [cond], 0⟩] scope pos) (some (.Name y py)) spos.line X.env = pure true := by exact sw_true rfl rfl rfl (by decide +kernel)) (hs : ∀ x, foldedSetIterable iter X.env x = pure x := by intro _; rfl) :
    PS X (.Assign [.Name y py] (.ListComp elt [⟨tg, iter, [cond], 0⟩] scope pos) spos) (tAsg (tC1 X tg iter elt cond scope (own.map (·.2))) (gName i)) :=
  ps_setLc hc hN hy hyl hsw (piW X tg iter) ok (fun s H C cl fp => ⟨fun pins s' σ H' v u Q I r h => (h (s, H, C, cl, fp)).run pins s' u I r⟩) (fun s H C cl fp => pts_one ⟨fun pins s' σ H' Q I h => (h (s, H, C, cl, fp)).run pins s' I⟩) (fun s H C cl fp => ⟨fun pins s' σ H' Q I h => (h (s, H, C, cl, fp)).run pins s' I⟩) hs
end
end
end DL

namespace DL
open PySem PySem.Spec L2

/-! ### statements -/
inductive Fl (γ β ρ : Type) where
  | nx (g : γ) | bk (b : β) | ct (b : β) | rt (r : ρ)
inductive RT (ρ : Type) where
  | val (r : ρ → D) | cell (c : ρ → Cell)
def RetOk {ρ : Type} (K : Frag) (rt : RT ρ) (O : Addr → Prop) (He : Hp) (σ : L2.St) (δr : Sl) (H' : Hp) (a : ρ) (v : V) : Prop :=
  match rt with
  | .val r => ER K O He H' σ δr ∧ Rp K (mask (msk O σ δr) H') v (r a)
  | .cell c => ∃ p o, v = .ref p ∧ He p = none ∧ ¬ O p ∧ ER K (fun a => O a ∨ a = p) He H' σ δr ∧ H' p = some o ∧ CellOk K (mask (msk (fun a => O a ∨ a = p) σ δr) H') o (c a)
section
variable {S α β γ κ ρ : Type}
/-- where the code goes on -/
def FlOk (K : Frag) (O : Addr → Prop) (He H : Hp) (σ : L2.St) (δ : Sl) (on : γ → S → Sl) (ob : β → S → Sl) (δr : S → Sl) (rt : RT ρ) (s' : S) (Dn : Ends) : Fl γ β ρ → Prop
  | .nx g => ∀ σ' H', Fr H σ δ H' σ' (on g s') → ER K O He H' σ' (on g s') → Dn.nx σ' H'
  | .bk b => ∀ σ' H', Fr H σ δ H' σ' (ob b s') → ER K O He H' σ' (ob b s') → Dn.bk σ' H'
  | .ct b => ∀ σ' H', Fr H σ δ H' σ' (ob b s') → ER K O He H' σ' (ob b s') → Dn.ct σ' H'
  | .rt r => ∀ v σ' H', Keep (ow σ δ) H H' → RetOk K rt O He σ' (δr s') H' r v → Dn.rt v H'
def Ds (X : Cx) (ss : List Stmt) (δ : S → Sl) (on : γ → S → Sl) (ob : β → S → Sl) (δr : S → Sl) (rt : RT ρ) (m : S → Option (Fl γ β ρ × S)) : Prop :=
  KC δ → ∀ (O : Addr → Prop) (He H : Hp) (σ : L2.St) (s s' : S) (fl : Fl γ β ρ) (Dn : Ends), m s = some (fl, s') → ER X.K O He H σ (δ s) → FlOk X.K O He H σ (δ s) on ob δr rt s' Dn fl → wpS X ss Dn σ H
/-- a place of the code that is never come to -/
def never : Sl := [.nev]
theorem ER.never {K : Frag} {O : Addr → Prop} {He H : Hp} {σ : L2.St} (h : ER K O He H σ never) : False := by
  obtain ⟨x, _, z⟩ := h.slot 0 .nev rfl
  exact z
theorem FlOk.then' {K : Frag} {O : Addr → Prop} {He H H1 : Hp} {σ σ1 : L2.St} {δ δ1 : Sl} {on : γ → S → Sl} {ob : β → S → Sl} {δr : S → Sl} {rt : RT ρ} {s' : S} {Dn : Ends} {fl : Fl γ β ρ} (q : FlOk K O He H σ δ on ob δr rt s' Dn fl) (f : Fr H σ δ H1 σ1 δ1) : FlOk K O He H1 σ1 δ1 on ob δr rt s' Dn fl := by
  cases fl with
  | nx g => exact fun σ' H' f' e => q σ' H' (f.trans f') e
  | bk g => exact fun σ' H' f' e => q σ' H' (f.trans f') e
  | ct g => exact fun σ' H' f' e => q σ' H' (f.trans f') e
  | rt r => exact fun v σ' H' k e => q v σ' H' ⟨fun a o n h => k.at' a o (fun z => by
      rcases f.own a z with z | z
      · exact n z
      · rw [z] at h; cases h) (f.keep.at' a o n h), fun a h => k.dom a (f.keep.dom a h)⟩ e
variable {X : Cx} {e e1 e2 c : Expr} {ss rest body s1 s2 : List Stmt} {st : Stmt} {δ δ' : S → Sl} {on : γ → S → Sl} {ob : β → S → Sl} {δr : S → Sl} {rt : RT ρ} {pos px p2 p3 : Pos} {x y : Str} {r : α → D} {i : Nat}
theorem KC.set {δ : S → Sl} (kc : KC δ) {t : S → Slot} (ht : ∀ s u, (t s).isOwn = (t u).isOwn) : KC fun s => (δ s).set i (t s) := fun s u => by
  rw [List.map_set, List.map_set, kc s u, ht s u]
theorem Ds.nil {g : γ} (l : ∀ s, Le (δ s) (on g s)) : Ds X [] δ on ob δr rt (pu (.nx g)) := by
  intro kc O He H σ s s' fl Dn hm er q
  obtain ⟨rfl, rfl⟩ := pu_some hm
  have nn : ∀ i : Nat, (δ s')[i]? ≠ some .nev := fun i e => by
    obtain ⟨x, _, r⟩ := er.slot i _ e
    exact r
  exact PSSwp pss_nil (q σ H ⟨.refl, fun a ⟨j, z⟩ => .inl ⟨j, (l s').own nn z⟩⟩ (er.le (l s')))
/-- less is known (or a cell is frozen) -/
theorem Ds.le {m : S → Option (Fl γ β ρ × S)} (l : ∀ s, Le (δ s) (δ' s)) (h : Ds X ss δ' on ob δr rt m) (kc' : KC δ' := by intro _ _; rfl) : Ds X ss δ on ob δr rt m := by
  intro kc O He H σ s s' fl Dn hm er q
  have nn : ∀ i : Nat, (δ s)[i]? ≠ some .nev := fun i e => by
    obtain ⟨x, _, r⟩ := er.slot i _ e
    exact r
  exact h kc' O He H σ s s' fl Dn hm (er.le (l s)) (q.then' ⟨.refl, fun a ⟨j, z⟩ => .inl ⟨j, (l s).own nn z⟩⟩)
theorem ow_val {σ : L2.St} {δ : Sl} {x : Option V} {t : Slot} (ht : ∀ c, t ≠ .own c) {a : Addr} (h : ow (σ.set i x) (δ.set i t) a) : ow σ δ a := by
  obtain ⟨j, h⟩ := h
  exact ⟨j, (own_set_val ht h).2⟩
/-- target = e -/
theorem Ds.asgG {tg : Expr} {ts : List Nat} {f : α → Sl → Sl} {m : S → Option (α × S)} {k : α → S → Option (Fl γ β ρ × S)} (hg : Gx X tg ts r f) (he : Dx X e δ r m) (hk : ∀ a, Ds X rest (fun s => f a (δ s)) on ob δr rt (k a)) (kc2 : ∀ a, KC fun s => f a (δ s) := by intro _ _ _; rfl)
    (hs : swapsWithSole [tg] e pos.line X.env = pure false := by rfl) (hw : swappedStores [tg] e X.env = pure none := by rfl) (h1 : (assignEach [tg] X.env).map (·.2) = [assign tg X.env] := by rfl) : Ds X (.Assign [tg] e pos :: rest) δ on ob δr rt (bd m k) := by
  intro kc O He H σ s s' fl Dn hm er q
  obtain ⟨a, s1, h1', h2⟩ := bd_some hm
  refine PSSwp (pss_cons (ps_asg (peW X e) (pgW X tg) hs hw h1) (pssW X rest)) (he kc O He H σ s s1 a _ h1' er fun v H1 k1 er1 r1 => ?_)
  rw [kc.msk s s1] at r1
  refine hg.run O He H1 σ (δ s1) a v _ er1 r1 fun σ2 er2 o2 l2 m2 => ?_
  refine hk a (kc2 a) O He H1 σ2 s1 s' fl Dn h2 er2 (q.then' ⟨k1, fun b z => ?_⟩)
  obtain ⟨j, z⟩ := z
  rcases m2 b (.inr ⟨j, z⟩) with y | y
  · exact absurd y (er2.disj j b z)
  · rw [kc.ow s s1]; exact .inl y
/-- x = e -/
theorem Ds.asg {m : S → Option (α × S)} {k : α → S → Option (Fl γ β ρ × S)} (i : Nat) (he : Dx X e δ r m) (hk : ∀ a, Ds X rest (fun s => (δ s).set i (.val (r a))) on ob δr rt (k a)) (hN : X.N.Nodup)
    (hi : X.N[i]? = some x := by rfl) (hx : Loc X.env.scope x := by first | exact Or.inl rfl | exact Or.inr rfl) (hs : swapsWith e (some (.Name x px)) pos.line X.env = pure false := by rfl)
    (hf : X.fn x = true ∨ X.env.scope.names.lookup x = some .local := by first | exact .inl rfl | exact .inr rfl) : Ds X (.Assign [.Name x px] e pos :: rest) δ on ob δr rt (bd m k) := by
  intro kc O He H σ s s' fl Dn hm er q
  obtain ⟨a, s1, h1', h2⟩ := bd_some hm
  refine PSSwp (pss_cons (ps_set hN hi hx (peW X e) hs hf) (pssW X rest)) (he kc O He H σ s s1 a _ h1' er fun v H1 k1 er1 r1 => ?_)
  rw [kc.msk s s1] at r1
  refine hk a (kc.set fun _ _ => rfl) O He H1 _ s1 s' fl Dn h2 (er1.setv (.inr ⟨_, rfl, r1⟩)) (q.then' ⟨k1, fun b z => ?_⟩)
  rw [kc.ow s s1]
  exact .inl (ow_val (fun c z => by cases z) z)
/-- x = a new cell: by its wish -/
theorem Ds.newW {W : TE} {cl : α → Cell} {m : S → Option (α × S)} {k : α → S → Option (Fl γ β ρ × S)} (i : Nat) (hp : PS X st (tAsg W (gName i))) (he : FxW X W δ cl m) (hk : ∀ a, Ds X rest (fun s => (δ s).set i (.own (cl a))) on ob δr rt (k a)) (hct : ∀ a p, (cl a).tag p := by intro _ _; trivial) : Ds X (st :: rest) δ on ob δr rt (bd m k) := by
  intro kc O He H σ s s' fl Dn hm er q
  obtain ⟨a, s1, h1', h2⟩ := bd_some hm
  refine PSSwp (pss_cons hp (pssW X rest)) (he kc O He H σ s s1 a _ h1' er fun p o H1 hp0 np k1 er1 ho hc => ?_)
  rw [kc.msk s s1] at hc
  refine hk a (kc.set fun _ _ => rfl) O He H1 _ s1 s' fl Dn h2 (er1.seto np (er.same.free hp0) ho hc (hct a p)) (q.then' ⟨k1, fun b ⟨j, z⟩ => ?_⟩)
  rcases own_set_own z with ⟨_, e⟩ | ⟨_, z⟩
  · exact .inr (e ▸ hp0)
  · rw [kc.ow s s1]; exact .inl ⟨j, z⟩
theorem Ds.new {cl : α → Cell} {m : S → Option (α × S)} {k : α → S → Option (Fl γ β ρ × S)} (i : Nat) (he : Fx X e δ cl m) (hk : ∀ a, Ds X rest (fun s => (δ s).set i (.own (cl a))) on ob δr rt (k a)) (hN : X.N.Nodup)
    (hi : X.N[i]? = some x := by rfl) (hx : Loc X.env.scope x := by first | exact Or.inl rfl | exact Or.inr rfl) (hs : swapsWith e (some (.Name x px)) pos.line X.env = pure false := by rfl)
    (hf : X.fn x = true ∨ X.env.scope.names.lookup x = some .local := by first | exact .inl rfl | exact .inr rfl) (hct : ∀ a p, (cl a).tag p := by intro _ _; trivial) : Ds X (.Assign [.Name x px] e pos :: rest) δ on ob δr rt (bd m k) :=
  Ds.newW i (ps_set hN hi hx (peW X e) hs hf) he.w hk hct
/-- x = the state's own cell, and the state is as told: box = [digits, 0] -/
theorem Ds.box {cl : α → S → Cell} {m : S → Option (α × S)} {k : α → S → Option (Fl γ β ρ × S)} (i : Nat) (s0 : S) (he : Fx X e δ (fun a => cl a s0) m) (hk : ∀ a, Ds X rest (fun s => (δ s).set i (.own (cl a s))) on ob δr rt (k a)) (hN : X.N.Nodup) (hd : ∀ s t, δ s = δ t := by intro _ _; rfl) (hct : ∀ a s p, (cl a s).tag p := by intro _ _ _; trivial)
    (hi : X.N[i]? = some x := by rfl) (hx : Loc X.env.scope x := by first | exact Or.inl rfl | exact Or.inr rfl) (hs : swapsWith e (some (.Name x px)) pos.line X.env = pure false := by rfl)
    (hf : X.fn x = true ∨ X.env.scope.names.lookup x = some .local := by first | exact .inl rfl | exact .inr rfl) : Ds X (.Assign [.Name x px] e pos :: rest) δ on ob δr rt (bd m fun a _ => k a s0) := by
  intro kc O He H σ s s' fl Dn hm er q
  obtain ⟨a, s1, h1', h2⟩ := bd_some hm
  refine PSSwp (pss_cons (ps_set hN hi hx (peW X e) hs hf) (pssW X rest)) (he kc O He H σ s s1 a _ h1' er fun p o H1 hp0 np k1 er1 ho hc => ?_)
  rw [hd s1 s0] at er1
  rw [hd s s0] at hc
  refine hk a (kc.set fun _ _ => rfl) O He H1 _ s0 s' fl Dn h2 (er1.seto np (er.same.free hp0) ho hc (hct a s0 p)) (q.then' ⟨k1, fun b ⟨j, z⟩ => ?_⟩)
  rcases own_set_own z with ⟨_, e⟩ | ⟨_, z⟩
  · exact .inr (e ▸ hp0)
  · rw [hd s s0]; exact .inl ⟨j, z⟩
/-- e alone -/
theorem Ds.exp {m : S → Option (α × S)} {k : α → S → Option (Fl γ β ρ × S)} (he : Dx X e δ r m) (hk : ∀ a, Ds X rest δ on ob δr rt (k a)) (hs : swapsWith e none pos.line X.env = pure false := by rfl) : Ds X (.Expr e pos :: rest) δ on ob δr rt (bd m k) := by
  intro kc O He H σ s s' fl Dn hm er q
  obtain ⟨a, s1, h1', h2⟩ := bd_some hm
  refine PSSwp (pss_cons (ps_expr (peW X e) hs) (pssW X rest)) (he kc O He H σ s s1 a _ h1' er fun v H1 k1 er1 r1 => ?_)
  exact hk a kc O He H1 _ s1 s' fl Dn h2 er1 (q.then' ⟨k1, fun b z => .inl (by rw [kc.ow s s1]; exact z)⟩)
theorem Ds.pass {k : S → Option (Fl γ β ρ × S)} (hk : Ds X rest δ on ob δr rt k) : Ds X (.Pass pos :: rest) δ on ob δr rt k := by
  intro kc O He H σ s s' fl Dn hm er q
  exact PSSwp (pss_cons ps_pass (pssW X rest)) (hk kc O He H σ s s' fl Dn hm er q)
theorem Ds.brk {b : β} (l : ∀ s, Le (δ s) (ob b s)) : Ds X (.Break pos :: rest) δ on ob δr rt (pu (.bk b)) := by
  intro kc O He H σ s s' fl Dn hm er q
  obtain ⟨rfl, rfl⟩ := pu_some hm
  have nn : ∀ i : Nat, (δ s')[i]? ≠ some .nev := fun i e => by
    obtain ⟨x, _, r⟩ := er.slot i _ e
    exact r
  exact PSSwp (pss_cons ps_break (pss_never (sts := rest))) (q σ H ⟨.refl, fun a ⟨j, z⟩ => .inl ⟨j, (l s').own nn z⟩⟩ (er.le (l s')))
theorem Ds.cont {b : β} (l : ∀ s, Le (δ s) (ob b s)) : Ds X (.Continue pos :: rest) δ on ob δr rt (pu (.ct b)) := by
  intro kc O He H σ s s' fl Dn hm er q
  obtain ⟨rfl, rfl⟩ := pu_some hm
  have nn : ∀ i : Nat, (δ s')[i]? ≠ some .nev := fun i e => by
    obtain ⟨x, _, r⟩ := er.slot i _ e
    exact r
  exact PSSwp (pss_cons ps_continue (pss_never (sts := rest))) (q σ H ⟨.refl, fun a ⟨j, z⟩ => .inl ⟨j, (l s').own nn z⟩⟩ (er.le (l s')))
/-! return -/
theorem msk_le {K : Frag} {O : Addr → Prop} {He H : Hp} {σ : L2.St} {δ δ' : Sl} (er : ER K O He H σ δ) (l : Le δ δ') {a : Addr} (h : msk O σ δ' a) : msk O σ δ a := by
  have nn : ∀ i : Nat, δ[i]? ≠ some .nev := fun i e => by
    obtain ⟨x, _, r⟩ := er.slot i _ e
    exact r
  rcases h with h | ⟨j, h⟩
  · exact .inl h
  · exact .inr ⟨j, l.own nn h⟩
theorem Ds.ret {rv : ρ → D} {m : S → Option (ρ × S)} (he : Dx X e δ rv m) (l : ∀ s, Le (δ s) (δr s)) : Ds X (.Return (some e) pos :: rest) δ on ob δr (.val rv) (bd m fun a => pu (.rt a)) := by
  intro kc O He H σ s s' fl Dn hm er q
  obtain ⟨a, s1, h1', h2⟩ := bd_some hm
  obtain ⟨rfl, rfl⟩ := pu_some h2
  refine PSSwp (pss_cons (ps_ret (peW X e)) (pss_never (sts := rest))) (he kc O He H σ s s' a _ h1' er fun v H1 k1 er1 r1 => ?_)
  rw [kc.msk s s'] at r1
  exact q v σ H1 k1 ⟨er1.le (l s'), r1.mono (mask_same fun b o n e => ⟨fun z => n (msk_le er1 (l s') z), e⟩)⟩
theorem Ds.retN {δ : S → Sl} (l : ∀ s, Le (δ s) (δr s)) : Ds X (.Return none pos :: rest) δ on ob δr (.val rN) (pu (.rt ())) := by
  intro kc O He H σ s s' fl Dn hm er q
  obtain ⟨rfl, rfl⟩ := pu_some hm
  exact PSSwp (pss_cons ps_retN (pss_never (sts := rest))) (q _ σ H .refl ⟨er.le (l s'), .non⟩)
/-- return a new cell -/
theorem Ds.retF {cl : ρ → Cell} {m : S → Option (ρ × S)} (he : Fx X e δ cl m) (l : ∀ s, Le (δ s) (δr s)) : Ds X (.Return (some e) pos :: rest) δ on ob δr (.cell cl) (bd m fun a => pu (.rt a)) := by
  intro kc O He H σ s s' fl Dn hm er q
  obtain ⟨a, s1, h1', h2⟩ := bd_some hm
  obtain ⟨rfl, rfl⟩ := pu_some h2
  refine PSSwp (pss_cons (ps_ret (peW X e)) (pss_never (sts := rest))) (he kc O He H σ s s' a _ h1' er fun p o H1 hp np k1 er1 ho hc => ?_)
  rw [kc.msk s s'] at hc
  exact q _ σ H1 k1 ⟨p, o, rfl, er.same.free hp, np, er1.le (l s'), ho, hc.mono (mask_same fun b o n e => ⟨fun z => n (msk_le er1 (l s') z), e⟩)⟩
/-- return a name's own cell -/
theorem Ds.retO {cl : ρ → Cell} {a : ρ} (i : Nat) (hs : ∀ s, (δ s)[i]? = some (.own (cl a)) := by intro _; rfl) (l : ∀ s, Le ((δ s).set i .un) (δr s)) (hN : X.N[i]? = some x := by rfl) (hv : Vis X.env.scope x := by first | exact Or.inl rfl | exact Or.inr (Or.inl rfl) | exact Or.inr (Or.inr rfl))
    (hd : (x == ("__debug__" : Str)) = false := by decide) (hcd : (x == ("__classdict__" : Str)) = false := by decide) : Ds X (.Return (some (.Name x px)) pos :: rest) δ on ob δr (.cell cl) (pu (.rt a)) := by
  intro kc O He H σ s s' fl Dn hm er q
  obtain ⟨rfl, rfl⟩ := pu_some hm
  obtain ⟨p, o, hp, ho, hc, at'⟩ := er.cell (hs s')
  refine PSSwp (pss_cons (ps_ret (pe_var hN hv hd hcd)) (pss_never (sts := rest))) ⟨.ref p, hp, q _ σ H .refl ?_⟩
  -- the cell is foreign now
  have e2 : ∀ j a, OwnAt σ ((δ s').set i .un) j a → j ≠ i ∧ OwnAt σ (δ s') j a := fun j a z => by
    have z2 : OwnAt (σ.set i (some (.ref p))) ((δ s').set i .un) j a := by
      have es : σ.set i (some (.ref p)) = σ := by
        apply List.ext_getElem?
        intro k
        by_cases ek : i = k
        · subst ek
          rw [List.getElem?_set_self ((List.getElem?_eq_some_iff.mp hp).1), hp]
        · rw [List.getElem?_set_ne ek]
      rw [es]; exact z
    exact own_set_val (fun c z => by cases z) z2
  have sub : ∀ a, msk (fun a => O a ∨ a = p) σ ((δ s').set i .un) a → msk O σ (δ s') a := fun a z => by
    rcases z with (z | z) | ⟨j, z⟩
    · exact .inl z
    · exact .inr ⟨i, z ▸ at'⟩
    · exact .inr ⟨j, (e2 j a z).2⟩
  have er2 : ER X.K (fun a => O a ∨ a = p) He H σ ((δ s').set i .un) := by
    refine ⟨by rw [er.len]; simp, er.same, fun j a z => er.fresh j a (e2 j a z).2, fun j k a z z' => er.inj j k a (e2 j a z).2 (e2 k a z').2, fun j a z w => ?_, fun a w => ?_, fun j t ht => ?_⟩
    · rcases w with w | w
      · exact er.disj j a (e2 j a z).2 w
      · rw [w] at z
        exact (e2 j p z).1 (er.inj j i p (e2 j p z).2 at')
    · rcases w with w | w
      · exact er.dom a w
      · rw [w, ho]; exact fun z => nomatch z
    · by_cases ej : i = j
      · subst ej
        refine ⟨some (.ref p), hp, ?_⟩
        rw [List.getElem?_set_self (List.getElem?_eq_some_iff.mp (hs s')).1] at ht
        cases ht
        trivial
      · rw [List.getElem?_set_ne ej] at ht
        obtain ⟨x, hx, rr⟩ := er.slot j t ht
        exact ⟨x, hx, rr.mono (mask_same fun b u n e => ⟨fun z => n (sub b z), e⟩) fun _ _ _ _ q => q⟩
  exact ⟨p, o, rfl, er.fresh i p at', er.disj i p at', er2.le (l s'), ho, hc.mono (mask_same fun b u n e => ⟨fun z => n (sub b (msk_le er2 (l s') z)), e⟩)⟩
/-! if -/
def seqF (m : S → Option (Fl κ β ρ × S)) (k : κ → S → Option (Fl γ β ρ × S)) : S → Option (Fl γ β ρ × S) := bd m fun f => match f with
  | .nx g => k g
  | .bk b => pu (.bk b)
  | .ct b => pu (.ct b)
  | .rt r => pu (.rt r)
theorem Ds.seq {on1 : κ → S → Sl} {m : S → Option (Fl κ β ρ × S)} {k : κ → S → Option (Fl γ β ρ × S)} {T : TS} (hp : PSs X ss T) (kc : KC δ) {O : Addr → Prop} {He H : Hp} {σ : L2.St} {s s' : S} {fl : Fl γ β ρ} {Dn : Ends} (hm : seqF m k s = some (fl, s')) (er : ER X.K O He H σ (δ s)) (kc1 : ∀ g, KC (on1 g))
    (hk : ∀ g, Ds X ss (on1 g) on ob δr rt (k g)) (q : FlOk X.K O He H σ (δ s) on ob δr rt s' Dn fl) : ∃ f s1, m s = some (f, s1) ∧ FlOk X.K O He H σ (δ s) on1 ob δr rt s1 { Dn with nx := wpS X ss Dn } f := by
  obtain ⟨f, s1, h1, h2⟩ := bd_some hm
  refine ⟨f, s1, h1, ?_⟩
  cases f with
  | nx g => exact fun σ' H' f' er' => hk g (kc1 g) O He H' σ' s1 s' fl Dn h2 er' (q.then' f')
  | bk b => obtain ⟨rfl, rfl⟩ := pu_some h2; exact q
  | ct b => obtain ⟨rfl, rfl⟩ := pu_some h2; exact q
  | rt b => obtain ⟨rfl, rfl⟩ := pu_some h2; exact q
theorem Ds.ite {on1 : κ → S → Sl} {mc : S → Option (Bool × S)} {m1 m2 : S → Option (Fl κ β ρ × S)} {k : κ → S → Option (Fl γ β ρ × S)} (hc : Tx X c δ mc) (h1 : Ds X s1 δ on1 ob δr rt m1) (h2 : Ds X s2 δ on1 ob δr rt m2) (hk : ∀ g, Ds X rest (on1 g) on ob δr rt (k g)) (kc1 : ∀ g, KC (on1 g) := by intro _ _ _; rfl) :
    Ds X (.If c s1 s2 pos :: rest) δ on ob δr rt (seqF (bd mc fun b => if b then m1 else m2) k) := by
  intro kc O He H σ s s' fl Dn hm er q
  obtain ⟨f, t, h3, h4⟩ := Ds.seq (pssW X rest) kc hm er kc1 hk q
  obtain ⟨b, t1, h5, h6⟩ := bd_some h3
  refine PSSwp (pss_cons (ps_if (ptW X c) (pssW X s1) (pssW X s2)) (pssW X rest)) (hc kc O He H σ s t1 b _ h5 er fun H1 k1 er1 => ?_)
  have f1 : Fr H σ (δ s) H1 σ (δ t1) := ⟨k1, fun a z => .inl (by rw [kc.ow s t1]; exact z)⟩
  cases b with
  | true => exact iteT (h1 kc O He H1 σ t1 t f _ h6 er1 (h4.then' f1))
  | false => exact iteF (h2 kc O He H1 σ t1 t f _ h6 er1 (h4.then' f1))
/-- if c: what leaves; rest -/
theorem Ds.ifx {mc : S → Option (Bool × S)} {m1 m2 : S → Option (Fl γ β ρ × S)} (hc : Tx X c δ mc) (h1 : Ds X s1 δ (fun (_ : γ) _ => never) ob δr rt m1) (h2 : Ds X (s2 ++ rest) δ on ob δr rt m2) (hs : s2 = [] := by rfl) :
    Ds X (.If c s1 s2 pos :: rest) δ on ob δr rt (bd mc fun b => if b then m1 else m2) := by
  subst hs
  intro kc O He H σ s s' fl Dn hm er q
  obtain ⟨b, t1, h5, h6⟩ := bd_some hm
  refine PSSwp (pss_cons (ps_if (ptW X c) (pssW X s1) pss_nil) (pssW X rest)) (hc kc O He H σ s t1 b _ h5 er fun H1 k1 er1 => ?_)
  have f1 : Fr H σ (δ s) H1 σ (δ t1) := ⟨k1, fun a z => .inl (by rw [kc.ow s t1]; exact z)⟩
  cases b with
  | false => exact iteF (h2 kc O He H1 σ t1 s' fl Dn h6 er1 (q.then' f1))
  | true =>
    refine iteT (h1 kc O He H1 σ t1 s' fl _ h6 er1 ?_)
    have q := q.then' f1
    cases fl with
    | nx g => exact fun σ' H' _ e => (ER.never e).elim
    | bk b => exact q
    | ct b => exact q
    | rt b => exact q
/-- if c: s1 else: s2, neither goes on, or nothing follows -/
theorem Ds.ife {mc : S → Option (Bool × S)} {m1 m2 : S → Option (Fl γ β ρ × S)} (hc : Tx X c δ mc) (h1 : Ds X s1 δ on ob δr rt m1) (h2 : Ds X s2 δ on ob δr rt m2) :
    Ds X [.If c s1 s2 pos] δ on ob δr rt (bd mc fun b => if b then m1 else m2) := by
  intro kc O He H σ s s' fl Dn hm er q
  obtain ⟨b, t1, h5, h6⟩ := bd_some hm
  refine PSSwp (pss_one (ps_if (ptW X c) (pssW X s1) (pssW X s2))) (hc kc O He H σ s t1 b _ h5 er fun H1 k1 er1 => ?_)
  have f1 : Fr H σ (δ s) H1 σ (δ t1) := ⟨k1, fun a z => .inl (by rw [kc.ow s t1]; exact z)⟩
  cases b with
  | true => exact iteT (h1 kc O He H1 σ t1 s' fl Dn h6 er1 (q.then' f1))
  | false => exact iteF (h2 kc O He H1 σ t1 s' fl Dn h6 er1 (q.then' f1))
/-! loops -/
/-- xs from b on; f may leave -/
def loopS : List α → κ → (κ → α → S → Option (Fl κ κ ρ × S)) → S → Option (Fl κ β ρ × S)
  | [], b, _ => pu (.nx b)
  | x :: xs, b, f => bd (f b x) fun g => match g with
    | .nx b' => loopS xs b' f
    | .ct b' => loopS xs b' f
    | .bk b' => pu (.nx b')
    | .rt r => pu (.rt r)
theorem Ds.for' {tg iter : Expr} {ts : List Nat} {f : α → Sl → Sl} {oj : κ → S → Sl} {b0 : κ} {m : S → Option (List α × S)} {mb : κ → α → S → Option (Fl κ κ ρ × S)} {k : κ → S → Option (Fl γ β ρ × S)} (hp : PassesOwn (model X.prog X.w) X.A X.env X.xe) (hcalm : X.calm = true)
    (hi : Ix true X tg iter δ r m) (hg : Gx X tg ts r f) (hl : ∀ s, Le (δ s) (oj b0 s)) (hb : ∀ b x, Ds X body (fun s => f x (oj b s)) oj oj δr rt (mb b x)) (hk : ∀ b, Ds X rest (oj b) on ob δr rt (k b))
    (kc1 : ∀ b, KC (oj b) := by intro _ _ _; rfl) (kc2 : ∀ b x, KC fun s => f x (oj b s) := by intro _ _ _ _; rfl) (hs : ∀ x, foldedSetIterable iter X.env x = pure x := by intro _; rfl) :
    Ds X (.For tg iter body [] pos :: rest) δ on ob δr rt (bd m fun xs => seqF (loopS xs b0 mb) k) := by
  intro kc O He H σ s s' fl Dn hm er q
  obtain ⟨xs, t1, h1, h2⟩ := bd_some hm
  refine PSSwp (pss_cons (ps_for hp hcalm (piW X tg iter) (pgW X tg) (pssW X body) hs) (pssW X rest)) (hi kc O He H σ s t1 xs _ h1 er fun J H1 k1 er1 it => ?_)
  have f1 : Fr H σ (δ s) H1 σ (δ t1) := ⟨k1, fun a z => .inl (by rw [kc.ow s t1]; exact z)⟩
  have nn : ∀ i : Nat, (δ t1)[i]? ≠ some .nev := fun i e => by
    obtain ⟨x, _, r⟩ := er1.slot i _ e
    exact r
  have f2 : Fr H1 σ (δ t1) H1 σ (oj b0 t1) := ⟨.refl, fun a ⟨j, z⟩ => .inl ⟨j, (hl t1).own nn z⟩⟩
  refine ⟨fun i n σ2 H2 => n = xs.length - i ∧ i ≤ xs.length ∧ ∃ (b : κ) (si : S), seqF (loopS (xs.drop i) b mb) k si = some (fl, s') ∧ ER X.K O He H2 σ2 (oj b si) ∧ Fr H1 σ (δ t1) H2 σ2 (oj b si), ⟨xs.length, by simp, Nat.zero_le _, b0, t1, h2, er1.le (hl t1), f2⟩, ?_⟩
  rintro i n σ2 H2 ⟨rfl, hin, b, si, hrun, er2, fr⟩
  have sn : Seen true X.K (ow σ (δ s)) (msk O σ (δ s)) He H1 σ δ H2 (msk O σ2 (oj b si)) := by
    refine ⟨by rw [kc.ow s t1]; exact fr.keep, fun a z => ?_, .inl rfl⟩
    rcases z with z | z
    · exact .inl (.inl z)
    · rcases fr.own a z with z | z
      · exact .inl (.inr (by rw [kc.ow s t1]; exact z))
      · exact .inr z
  have ito := it i H2 _ sn fun a z => er2.mdom z
  rw [List.length_map] at ito
  have toQ : ∀ {H3 : Hp} {σ3 : L2.St} {δ3 : Sl}, Fr H1 σ (δ t1) H3 σ3 δ3 → FlOk X.K O He H3 σ3 δ3 on ob δr rt s' Dn fl := fun {H3 σ3 δ3} f3 => q.then' (f1.trans f3)
  by_cases hlt : i < xs.length
  · refine .inr ⟨(ito.1 hlt).1, ?_⟩
    have hd : xs.drop i = xs[i] :: xs.drop (i + 1) := (List.getElem_cons_drop (h := hlt)).symm
    rw [hd] at hrun
    obtain ⟨g, s2, h3, h4⟩ := bd_some hrun
    obtain ⟨fb, s3, h5, h6⟩ := bd_some h3
    refine ⟨fun σ3 H3 => ∃ (b : κ) (si : S), seqF (loopS (xs.drop (i + 1)) b mb) k si = some (fl, s') ∧ ER X.K O He H3 σ3 (oj b si) ∧ Fr H1 σ (δ t1) H3 σ3 (oj b si), fun σ3 H3 h => ⟨xs.length - (i + 1), by omega, rfl, hlt, h⟩, fun v H3 y => ?_⟩
    obtain ⟨sm, d, hd1, hrp⟩ := (ito.1 hlt).2 v H3 y
    rw [List.getElem?_map, List.getElem?_eq_getElem hlt] at hd1
    cases hd1
    refine hg.run O He H3 σ2 (oj b si) xs[i] v _ (er2.mono sm) hrp fun σ4 er4 o4 l4 m4 => ?_
    have fr4 : Fr H1 σ (δ t1) H3 σ4 (f xs[i] (oj b si)) := fr.trans ⟨.of sm, fun a ⟨j, z⟩ => .inl (by
      rcases m4 a (.inr ⟨j, z⟩) with w | w
      · exact absurd w (er4.disj j a z)
      · exact w)⟩
    refine hb b xs[i] (kc2 b xs[i]) O He H3 σ4 si s3 fb _ h5 er4 ?_
    cases fb with
    | nx b' =>
      refine fun σ5 H5 f5 er5 => ⟨b', s3, (bd_of (m := loopS (xs.drop (i + 1)) b' mb) h6).trans h4, er5, fr4.trans f5⟩
    | ct b' =>
      refine fun σ5 H5 f5 er5 => ⟨b', s3, (bd_of (m := loopS (xs.drop (i + 1)) b' mb) h6).trans h4, er5, fr4.trans f5⟩
    | bk b' =>
      obtain ⟨rfl, rfl⟩ := pu_some h6
      exact fun σ5 H5 f5 er5 => hk b' (kc1 b') O He H5 σ5 s2 s' fl Dn h4 er5 (toQ (fr4.trans f5))
    | rt r =>
      obtain ⟨rfl, rfl⟩ := pu_some h6
      obtain ⟨rfl, rfl⟩ := pu_some h4
      exact toQ fr4
  · have hi2 : i = xs.length := by omega
    subst hi2
    rw [List.drop_length] at hrun
    obtain ⟨g, s2, h3, h4⟩ := bd_some hrun
    obtain ⟨rfl, rfl⟩ := pu_some h3
    exact .inl ⟨ito.2 (Nat.le_refl _), hk b (kc1 b) O He H2 σ2 s2 s' fl Dn h4 er2 (toQ fr)⟩
/-! while: as many turns as it needs -/
def whileN : Nat → κ → (κ → S → Option (Bool × S)) → (κ → S → Option (Fl κ κ ρ × S)) → S → Option (Fl κ β ρ × S)
  | 0, _, _, _ => fun _ => none
  | n + 1, b, mc, mb => bd (mc b) fun c => if c then bd (mb b) fun g => match g with
      | .nx b' => whileN n b' mc mb
      | .ct b' => whileN n b' mc mb
      | .bk b' => pu (.nx b')
      | .rt r => pu (.rt r)
    else pu (.nx b)
open Classical in
noncomputable def whileS (b : κ) (mc : κ → S → Option (Bool × S)) (mb : κ → S → Option (Fl κ κ ρ × S)) : S → Option (Fl κ β ρ × S) := fun s =>
  if h : ∃ n p, whileN n b mc mb s = some p then some h.choose_spec.choose else none
theorem whileS_some {b : κ} {mc : κ → S → Option (Bool × S)} {mb : κ → S → Option (Fl κ κ ρ × S)} {s : S} {p : Fl κ β ρ × S} (h : whileS b mc mb s = some p) : ∃ n, whileN n b mc mb s = some p := by
  unfold whileS at h
  split at h
  · rename_i hh
    cases h
    exact ⟨_, hh.choose_spec.choose_spec⟩
  · cases h
theorem whileN_succ {mc : κ → S → Option (Bool × S)} {mb : κ → S → Option (Fl κ κ ρ × S)} : ∀ {n : Nat} {b : κ} {s : S} {p : Fl κ β ρ × S}, whileN n b mc mb s = some p → whileN (n + 1) b mc mb s = some p
  | 0, _, _, _, h => by cases h
  | n + 1, b, s, p, h => by
    obtain ⟨c, s1, h1, h2⟩ := bd_some h
    refine (bd_of h1).trans ?_
    cases c with
    | false => exact h2
    | true =>
      rw [if_pos rfl] at h2 ⊢
      obtain ⟨g, s2, h3, h4⟩ := bd_some h2
      refine (bd_of h3).trans ?_
      cases g with
      | nx b' => exact whileN_succ (n := n) h4
      | ct b' => exact whileN_succ (n := n) h4
      | bk b' => exact h4
      | rt r => exact h4
theorem whileN_le {mc : κ → S → Option (Bool × S)} {mb : κ → S → Option (Fl κ κ ρ × S)} {n k : Nat} {b : κ} {s : S} {p : Fl κ β ρ × S} (h : whileN n b mc mb s = some p) : whileN (n + k) b mc mb s = some p := by
  induction k with
  | zero => exact h
  | succ k ih => exact whileN_succ ih
theorem whileS_of {b : κ} {mc : κ → S → Option (Bool × S)} {mb : κ → S → Option (Fl κ κ ρ × S)} {s : S} {p : Fl κ β ρ × S} (n : Nat) (h : whileN n b mc mb s = some p) : whileS b mc mb s = some p := by
  unfold whileS
  have hh : ∃ n p, (whileN n b mc mb s : Option (Fl κ β ρ × S)) = some p := ⟨n, p, h⟩
  rw [dif_pos hh]
  have h2 := hh.choose_spec.choose_spec
  have h3 := whileN_le (k := n) h2
  rw [Nat.add_comm, whileN_le (k := hh.choose) h] at h3
  exact congrArg some (Option.some.inj h3).symm
theorem Ds.while' {oj : κ → S → Sl} {b0 : κ} {mc : κ → S → Option (Bool × S)} {mb : κ → S → Option (Fl κ κ ρ × S)} {k : κ → S → Option (Fl γ β ρ × S)} (hp : PassesOwn (model X.prog X.w) X.A X.env X.xe)
    (hl : ∀ s, Le (δ s) (oj b0 s)) (hc : ∀ b, Tx X c (oj b) (mc b)) (hb : ∀ b, Ds X body (oj b) oj oj δr rt (mb b)) (hk : ∀ b, Ds X rest (oj b) on ob δr rt (k b))
    (kc1 : ∀ b, KC (oj b) := by intro _ _ _; rfl) : Ds X (.While c body [] pos :: rest) δ on ob δr rt (seqF (whileS b0 mc mb) k) := by
  intro kc O He H σ s s' fl Dn hm er q
  obtain ⟨g, t, h1, h2⟩ := bd_some hm
  obtain ⟨n0, h1⟩ := whileS_some h1
  have nn : ∀ i : Nat, (δ s)[i]? ≠ some .nev := fun i e => by
    obtain ⟨x, _, r⟩ := er.slot i _ e
    exact r
  have f2 : Fr H σ (δ s) H σ (oj b0 s) := ⟨.refl, fun a ⟨j, z⟩ => .inl ⟨j, (hl s).own nn z⟩⟩
  refine PSSwp (pss_cons (ps_while hp (ptW X c) (pssW X body)) (pssW X rest)) ⟨fun n σ2 H2 => ∃ (b : κ) (si : S), seqF (whileN n b mc mb) k si = some (fl, s') ∧ ER X.K O He H2 σ2 (oj b si) ∧ Fr H σ (δ s) H2 σ2 (oj b si), ⟨n0, b0, s, (bd_of h1).trans h2, er.le (hl s), f2⟩, ?_⟩
  rintro n σ2 H2 ⟨b, si, hrun, er2, fr⟩
  cases n with
  | zero =>
    obtain ⟨_, _, h3, _⟩ := bd_some hrun
    cases h3
  | succ n =>
    obtain ⟨g2, s2, h3, h4⟩ := bd_some hrun
    obtain ⟨cv, s3, h5, h6⟩ := bd_some h3
    refine hc b (kc1 b) O He H2 σ2 si s3 cv _ h5 er2 fun H3 k3 er3 => ?_
    have fr3 : Fr H σ (δ s) H3 σ2 (oj b s3) := fr.trans ⟨k3, fun a z => .inl (by rw [(kc1 b).ow si s3]; exact z)⟩
    cases cv with
    | false =>
      obtain ⟨rfl, rfl⟩ := pu_some h6
      exact iteF (hk b (kc1 b) O He H3 σ2 s2 s' fl Dn h4 er3 (q.then' fr3))
    | true =>
      rw [if_pos rfl] at h6
      obtain ⟨fb, s4, h7, h8⟩ := bd_some h6
      refine iteT ⟨fun σ3 H3 => ∃ (b : κ) (si : S), seqF (whileN n b mc mb) k si = some (fl, s') ∧ ER X.K O He H3 σ3 (oj b si) ∧ Fr H σ (δ s) H3 σ3 (oj b si), fun σ3 H3 h => ⟨n, Nat.lt_succ_self _, h⟩, ?_⟩
      refine hb b (kc1 b) O He H3 σ2 s3 s4 fb _ h7 er3 ?_
      cases fb with
      | nx b' =>
        refine fun σ5 H5 f5 er5 => ⟨b', s4, (bd_of (m := whileN n b' mc mb) h8).trans h4, er5, fr3.trans f5⟩
      | ct b' =>
        refine fun σ5 H5 f5 er5 => ⟨b', s4, (bd_of (m := whileN n b' mc mb) h8).trans h4, er5, fr3.trans f5⟩
      | bk b' =>
        obtain ⟨rfl, rfl⟩ := pu_some h8
        exact fun σ5 H5 f5 er5 => hk b' (kc1 b') O He H5 σ5 s2 s' fl Dn h4 er5 (q.then' (fr3.trans f5))
      | rt r =>
        obtain ⟨rfl, rfl⟩ := pu_some h8
        obtain ⟨rfl, rfl⟩ := pu_some h4
        exact q.then' fr3
end
end DL

namespace DL
open PySem PySem.Spec L2

/-! ### defs: what they promise, calls -/
def AOk (K : Frag) (G : Hp) (v : V) : Slot → Prop
  | .val d => Rp K G v d
  | .scr ns => ∃ p, v = .ref p ∧ SqL K G p (ns.map V.int)
  | _ => False
inductive AAll (K : Frag) (G : Hp) : List V → Sl → Prop
  | nil : AAll K G [] []
  | cons {v : V} {vs : List V} {t : Slot} {ts : Sl} : AOk K G v t → AAll K G vs ts → AAll K G (v :: vs) (t :: ts)
theorem AOk.mono {K : Frag} {G G' : Hp} (e : Same G G') {v : V} {t : Slot} (h : AOk K G v t) : AOk K G' v t := by
  cases t with
  | val d => exact Rp.mono e h
  | scr ns => obtain ⟨p, e1, h⟩ := h; exact ⟨p, e1, e.seq h⟩
  | _ => exact h.elim
theorem AAll.mono {K : Frag} {G G' : Hp} (e : Same G G') {vs : List V} {ts : Sl} (h : AAll K G vs ts) : AAll K G' vs ts := by
  induction h with
  | nil => exact .nil
  | cons a _ ih => exact .cons (a.mono e) ih
theorem AAll.append {K : Frag} {G : Hp} {vs ws : List V} {ts us : Sl} (h : AAll K G vs ts) (h2 : AAll K G ws us) : AAll K G (vs ++ ws) (ts ++ us) := by
  induction h with
  | nil => exact h2
  | cons a _ ih => exact .cons a ih
theorem AAll.length {K : Frag} {G : Hp} {vs : List V} {ts : Sl} (h : AAll K G vs ts) : vs.length = ts.length := by
  induction h with
  | nil => rfl
  | cons _ _ ih => simp [ih]
theorem AAll.get {K : Frag} {G : Hp} {vs : List V} {ts : Sl} (h : AAll K G vs ts) : ∀ {i : Nat} {t : Slot}, ts[i]? = some t → ∃ v, vs[i]? = some v ∧ AOk K G v t := by
  induction h with
  | nil => intro i t e; simp at e
  | cons a _ ih =>
    intro i t e
    cases i with
    | zero => simp at e; subst e; exact ⟨_, by simp, a⟩
    | succ i => simp at e; simpa using ih e
/-- what a call's end is worth -/
def RetP {ρ : Type} (K : Frag) (rt : RT ρ) (O : Addr → Prop) (H H' : Hp) (b : ρ) (v : V) : Prop := match rt with
  | .val r => Rp K (mask O H') v (r b)
  | .cell c => ∃ p o, v = .ref p ∧ H p = none ∧ H' p = some o ∧ CellOk K (mask (fun a => O a ∨ a = p) H') o (c b)
/-- a def that changes nothing -/
def spV {α ρ : Type} (K : Frag) (as : α → Sl) (F : α → Option ρ) (rt : RT ρ) : Sp := fun vs H Q _ => ∃ (O : Addr → Prop) (a : α) (b : ρ), (∀ p, O p → H p ≠ none) ∧ AAll K (mask O H) vs (as a) ∧ F a = some b ∧ ∀ v H', Same H H' → RetP K rt O H H' b v → Q v H'
/-- .. where the cell at p has become c' -/
def EndB {ρ : Type} (K : Frag) (rt : RT ρ) (O : Addr → Prop) (p : Addr) (H H' : Hp) (c' : Cell) (b : ρ) (v : V) : Prop := match rt with
  | .val r => (∃ o', H' p = some o' ∧ CellOk K (mask (fun a => O a ∨ a = p) H') o' c') ∧ Rp K (mask (fun a => O a ∨ a = p) H') v (r b)
  | .cell c => ∃ q u o', v = .ref q ∧ H q = none ∧ H' q = some u ∧ H' p = some o' ∧ CellOk K (mask (fun a => (O a ∨ a = p) ∨ a = q) H') o' c' ∧ CellOk K (mask (fun a => (O a ∨ a = p) ∨ a = q) H') u (c b)
/-- a def that is handed the state's cell ahead, and changes it -/
def spB {α ρ S : Type} (K : Frag) (bx : S → Cell) (as : α → Sl) (F : α → S → Option (ρ × S)) (rt : RT ρ) : Sp := fun vs H Q _ => ∃ (O : Addr → Prop) (p : Addr) (o : HO) (ws : List V) (a : α) (s s' : S) (b : ρ), vs = .ref p :: ws ∧ H p = some o ∧ ¬ O p ∧ (∀ p, O p → H p ≠ none) ∧
  CellOk K (mask (fun a => O a ∨ a = p) H) o (bx s) ∧ AAll K (mask (fun a => O a ∨ a = p) H) ws (as a) ∧ F a s = some (b, s') ∧
  ∀ v H', (∀ q u, q ≠ p → H q = some u → H' q = some u) → EndB K rt O p H H' (bx s') b v → Q v H'
/-- what stands under a name, ready to be called -/
def FnA (P : Program) (w : World) (K : Frag) (mg : Str → Option Value) (base : Heap) (k : Nat) (x : Str) (sp : Sp) : Prop :=
  ∃ (f : Addr) (fd : FuncData) (ps : List Str), mg x = some (.ref f) ∧ PySem.W.keepIn K (.ref f) = true ∧ Binds K fd ps [] ∧ FnOk P w K mg base CX0 k f fd ps sp
theorem FnA.mono {P : Program} {w : World} {K : Frag} {mg : Str → Option Value} {base : Heap} {j k : Nat} {x : Str} {sp : Sp} (h : FnA P w K mg base j x sp) (l : j ≤ k) : FnA P w K mg base k x sp :=
  let ⟨f, fd, ps, h1, h2, h3, h4⟩ := h; ⟨f, fd, ps, h1, h2, h3, h4.mono l⟩
theorem FnA.imp {P : Program} {w : World} {K : Frag} {mg : Str → Option Value} {base : Heap} {k : Nat} {x : Str} {sp sp' : Sp} (h : FnA P w K mg base k x sp) (l : ∀ vs H Q E, sp' vs H Q E → sp vs H Q E) : FnA P w K mg base k x sp' :=
  let ⟨f, fd, ps, h1, h2, h3, h4⟩ := h; ⟨f, fd, ps, h1, h2, h3, h4.imp l⟩
section
variable {α ρ : Type} {K : Frag} {as : α → Sl} {F F' : α → Option ρ}
theorem spV.imp {rt : RT ρ} (l : ∀ a b, F' a = some b → F a = some b) (vs : List V) (H : Hp) (Q : VK) (E : XK) (h : spV K as F' rt vs H Q E) : spV K as F rt vs H Q E := by
  obtain ⟨O, a, b, h1, h2, h3, h4⟩ := h
  exact ⟨O, a, b, h1, h2, l a b h3, h4⟩
/-- a new cell is a value, too -/
theorem spV.cell {c : ρ → Cell} {r : ρ → D} (hr : ∀ a, (c a).d = r a) (vs : List V) (H : Hp) (Q : VK) (E : XK) (h : spV K as F (.val r) vs H Q E) : spV K as F (.cell c) vs H Q E := by
  obtain ⟨O, a, b, h1, h2, h3, h4⟩ := h
  refine ⟨O, a, b, h1, h2, h3, fun v H' sm ⟨p, o, e, hp, ho, hc⟩ => h4 v H' sm ?_⟩
  subst e
  show Rp K (mask O H') (.ref p) (r b)
  rw [← hr]
  exact (hc.mono (mask_same fun a o n e => ⟨fun z => n (.inl z), e⟩)).rp (by rw [mask_of fun z => h1 p z hp]; exact ho)
end
theorem FnA.val {P : Program} {w : World} {K : Frag} {mg : Str → Option Value} {base : Heap} {k : Nat} {x : Str} {α β : Type} {as : α → Sl} {r : β → D} {F : α → Option (List β)} (h : FnA P w K mg base k x (spV K as F (.cell (cL r)))) : FnA P w K mg base k x (spV K as F (.val (rL r))) :=
  h.imp (spV.cell fun _ => rfl)

/-! the start of a body -/
theorem start_get {N : List Str} {vs : List V} {i : Nat} {v : V} (h : vs[i]? = some v) : (L2.start N vs)[i]? = some (some v) := by
  unfold L2.start
  have l := (List.getElem?_eq_some_iff.mp h).1
  rw [List.getElem?_append_left (by simpa using l), List.getElem?_map, h]
  rfl
def slots (N : List Str) (ts : Sl) : Sl := ts ++ List.replicate (N.length - ts.length) .un
theorem slots_own {N : List Str} {ts : Sl} {vs : List V} {K : Frag} {G : Hp} (h : AAll K G vs ts) {σ : L2.St} {i : Nat} {a : Addr} (z : OwnAt σ (slots N ts) i a) : False := by
  obtain ⟨⟨c, e⟩, _⟩ := z
  unfold slots at e
  by_cases l : i < ts.length
  · rw [List.getElem?_append_left l] at e
    obtain ⟨v, _, hv⟩ := h.get e
    exact hv
  · rw [List.getElem?_append_right (by omega), List.getElem?_replicate] at e
    split at e
    · cases e
    · cases e
theorem er_start {K : Frag} {O : Addr → Prop} {H : Hp} {N : List Str} {vs : List V} {ts : Sl} (hO : ∀ p, O p → H p ≠ none) (h : AAll K (mask O H) vs ts) (hl : vs.length ≤ N.length) : ER K O H H (L2.start N vs) (slots N ts) := by
  have en := h.length
  refine ⟨?_, Same.refl H, fun i a z => (slots_own h z).elim, fun i j a z => (slots_own h z).elim, fun i a z => (slots_own h z).elim, hO, fun i t ht => ?_⟩
  · unfold L2.start slots
    rw [List.length_append, List.length_append, List.length_map, List.length_replicate, List.length_replicate]
    omega
  · unfold slots at ht
    by_cases l : i < ts.length
    · rw [List.getElem?_append_left l] at ht
      obtain ⟨v, hv, hk⟩ := h.get ht
      refine ⟨some v, start_get hv, ?_⟩
      have sm : Same (mask O H) (mask (msk O (L2.start N vs) (slots N ts)) H) := mask_same fun a o n e => ⟨fun z => by
        rcases z with z | ⟨j, z⟩
        · exact n z
        · exact slots_own h z, e⟩
      have hk := hk.mono sm
      cases t with
      | val d => exact ⟨v, rfl, hk⟩
      | scr ns => obtain ⟨p, e, q⟩ := hk; exact ⟨p, by rw [e], q⟩
      | _ => exact hk.elim
    · rw [List.getElem?_append_right (by omega), List.getElem?_replicate] at ht
      split at ht
      · cases ht
        rename_i l2
        have l3 : i < (L2.start N vs).length := by
          unfold L2.start
          rw [List.length_append, List.length_map, List.length_replicate]
          omega
        exact ⟨(L2.start N vs)[i], List.getElem?_eq_getElem l3, trivial⟩
      · cases ht
section
variable {P : Program} {w : World} {K : Frag} {mg : Str → Option Value} {base : Heap} {α β ρ S : Type} {x qual : Str} {st : Stmt} {f : Addr} {fd : FuncData} {N ps : List Str} {k : Nat}
/-- none of the names is one's own, at the end -/
def noOwn (δ : Sl) : Bool := δ.all fun t => !t.isOwn
theorem noOwn_of {δ : Sl} (h : noOwn δ = true) {σ : L2.St} {i : Nat} {a : Addr} (z : OwnAt σ δ i a) : False := by
  obtain ⟨⟨c, e⟩, _⟩ := z
  have := List.all_eq_true.mp h _ (List.mem_of_getElem? e)
  cases this
/-- THE RULE for a def that changes nothing -/
theorem fnVok {as : α → Sl} {F : α → Option ρ} {rt : RT ρ} {γ : Type} {on : γ → S → Sl} {ob : β → S → Sl} {mf : α → S → Option (Fl γ β ρ × S)} {s0 : S} (Fn : Fun K x qual st f fd) (sc : FnScope N ps (defScope st))
    (body : ∀ (cdv : Value) (A : Around) (outer : List Env) (s : Shared) (H : Hp) (E : XK) (a : α), Room k (A.deeper (PyProof.Rows.envOfC qual (defScope st) s.heap.objs.size f cdv)) →
      Ds (cxOf CX0 P w K mg base N qual (defScope st) f cdv A outer s H E).nox (defBody st) (fun _ : S => slots N (as a)) on ob (fun _ => List.replicate N.length .un) rt (mf a))
    (hF : ∀ a b, F a = some b → ∃ s', mf a s0 = some (.rt b, s')) (hps : ∀ a, (as a).length = ps.length := by intro _; rfl) (hNp : ps.length ≤ N.length := by decide) : FnOk P w K mg base CX0 (k + 1) f fd ps (spV K as F rt) := by
  refine Fn.ok sc (fun vs H Q E h => ?_) (fun cdv A outer s H vs Q E hr h => ?_)
  · obtain ⟨O, a, b, h1, h2, h3, h4⟩ := h
    rw [h2.length, hps]
  · obtain ⟨O, a, b, h1, h2, h3, h4⟩ := h
    refine ⟨_, pssW _ _, ?_⟩
    have er := er_start (N := N) h1 h2 (by rw [h2.length, hps]; exact hNp)
    obtain ⟨s1, hF1⟩ := hF a b h3
    refine body cdv A outer s H E a hr (fun _ _ => rfl) O H H (L2.start N vs) s0 s1 (.rt b) _ hF1 er ?_
    intro v σ' H' kp ret
    cases rt with
    | val r =>
      obtain ⟨e1, e2⟩ := ret
      exact h4 v H' e1.same (e2.mono (mask_same fun a o n e => ⟨fun z => n (.inl z), e⟩))
    | cell c =>
      obtain ⟨p, o, e1, e2, e3, e4, e5, e6⟩ := ret
      exact h4 v H' e4.same ⟨p, o, e1, e2, e5, e6.mono (mask_same fun a o n e => ⟨fun z => n (.inl z), e⟩)⟩
theorem fnV {as : α → Sl} {F : α → Option ρ} {rt : RT ρ} {γ : Type} {on : γ → S → Sl} {ob : β → S → Sl} {mf : α → S → Option (Fl γ β ρ × S)} {s0 : S} (Fn : Fun K x qual st f fd) (sc : FnScope N ps (defScope st)) (hx : mg x = some (.ref f)) (hb : Binds K fd ps [])
    (body : ∀ (cdv : Value) (A : Around) (outer : List Env) (s : Shared) (H : Hp) (E : XK) (a : α), Room k (A.deeper (PyProof.Rows.envOfC qual (defScope st) s.heap.objs.size f cdv)) →
      Ds (cxOf CX0 P w K mg base N qual (defScope st) f cdv A outer s H E).nox (defBody st) (fun _ : S => slots N (as a)) on ob (fun _ => List.replicate N.length .un) rt (mf a))
    (hF : ∀ a b, F a = some b → ∃ s', mf a s0 = some (.rt b, s')) (hps : ∀ a, (as a).length = ps.length := by intro _; rfl) (hNp : ps.length ≤ N.length := by decide) : FnA P w K mg base (k + 1) x (spV K as F rt) :=
  ⟨f, fd, ps, hx, Fn.kp, hb, fnVok Fn sc body hF hps hNp⟩
/-- THE RULE for a def that changes the state's cell, handed in first -/
theorem fnB {bx : S → Cell} {as : α → Sl} {F : α → S → Option (ρ × S)} {rt : RT ρ} {γ : Type} {on : γ → S → Sl} {ob : β → S → Sl} {mf : α → S → Option (Fl γ β ρ × S)} (Fn : Fun K x qual st f fd) (sc : FnScope N ps (defScope st)) (hx : mg x = some (.ref f)) (hb : Binds K fd ps [])
    (body : ∀ (cdv : Value) (A : Around) (outer : List Env) (s : Shared) (H : Hp) (E : XK) (a : α) (p : Addr), Room k (A.deeper (PyProof.Rows.envOfC qual (defScope st) s.heap.objs.size f cdv)) →
      Ds (cxOf CX0 P w K mg base N qual (defScope st) f cdv A outer s H E).nox (defBody st) (fun s => Slot.own (.fix p (bx s)) :: (as a ++ List.replicate (N.length - (as a).length - 1) .un)) on ob (fun s => Slot.own (.fix p (bx s)) :: List.replicate (N.length - 1) .un) rt (mf a))
    (hF : ∀ a s b s', F a s = some (b, s') → mf a s = some (.rt b, s')) (hps : ∀ a, (as a).length + 1 = ps.length := by intro _; rfl) (hNp : ps.length ≤ N.length := by decide) : FnA P w K mg base (k + 1) x (spB K bx as F rt) := by
  refine ⟨f, fd, ps, hx, Fn.kp, hb, Fn.ok sc (fun vs H Q E h => ?_) (fun cdv A outer s H vs Q E hr h => ?_)⟩
  · obtain ⟨O, p, o, ws, a, s, s', b, rfl, h1, h2, h3, h4, h5, h6⟩ := h
    rw [List.length_cons, h5.length, hps]
  · obtain ⟨O, p, o, ws, a, t, t', b, rfl, hp, np, hO, hc, ha, hF', q⟩ := h
    refine ⟨_, pssW _ _, ?_⟩
    have hl := ha.length
    have hpa := hps a
    have kc : KC fun s : S => Slot.own (.fix p (bx s)) :: (as a ++ List.replicate (N.length - (as a).length - 1) .un) := fun _ _ => rfl
    -- the names at the start
    have gs : ∀ i, (L2.start N (V.ref p :: ws))[i + 1]? = (ws.map some ++ List.replicate (N.length - (ws.length + 1)) none)[i]? := fun i => rfl
    have noA : ∀ (i : Nat) (c : Cell), (as a ++ List.replicate (N.length - (as a).length - 1) Slot.un)[i]? ≠ some (.own c) := fun i c e => by
      by_cases l : i < (as a).length
      · rw [List.getElem?_append_left l] at e
        obtain ⟨v, _, hv⟩ := ha.get e
        exact hv
      · rw [List.getElem?_append_right (by omega), List.getElem?_replicate] at e
        split at e
        · cases e
        · cases e
    have own1 : ∀ (i : Nat) (b : Addr), OwnAt (L2.start N (V.ref p :: ws)) (Slot.own (.fix p (bx t)) :: (as a ++ List.replicate (N.length - (as a).length - 1) .un)) i b → i = 0 ∧ b = p := fun i b ⟨⟨c, e⟩, e2⟩ => by
      cases i with
      | zero => exact ⟨rfl, by cases e2; rfl⟩
      | succ i => exact (noA i c e).elim
    have mk0 : ∀ b, msk O (L2.start N (V.ref p :: ws)) (Slot.own (.fix p (bx t)) :: (as a ++ List.replicate (N.length - (as a).length - 1) .un)) b ↔ (O b ∨ b = p) := fun b => by
      constructor
      · rintro (z | ⟨i, z⟩)
        · exact .inl z
        · exact .inr (own1 i b z).2
      · rintro (z | rfl)
        · exact .inl z
        · exact .inr ⟨0, ⟨_, rfl⟩, rfl⟩
    have er : ER K O (fun b => if b = p then none else H b) H (L2.start N (V.ref p :: ws)) (Slot.own (.fix p (bx t)) :: (as a ++ List.replicate (N.length - (as a).length - 1) .un)) := by
      refine ⟨?_, fun b u e => ?_, fun i b z => ?_, fun i j b z z' => ?_, fun i b z => ?_, hO, fun i u hu => ?_⟩
      · unfold L2.start
        simp only [List.length_append, List.length_map, List.length_replicate, List.length_cons]
        omega
      · by_cases eb : b = p
        · simp [eb] at e
        · simpa [eb] using e
      · simp [(own1 i b z).2]
      · rw [(own1 i b z).1, (own1 j b z').1]
      · rw [(own1 i b z).2]; exact np
      · have sm : Same (mask (fun a => O a ∨ a = p) H) (mask (msk O (L2.start N (V.ref p :: ws)) (Slot.own (.fix p (bx t)) :: (as a ++ List.replicate (N.length - (as a).length - 1) .un))) H) := mask_same fun b o n e => ⟨fun z => n ((mk0 b).mp z), e⟩
        cases i with
        | zero =>
          cases hu
          exact ⟨some (.ref p), rfl, p, o, rfl, hp, hc.mono sm, rfl⟩
        | succ i =>
          have hu : (as a ++ List.replicate (N.length - (as a).length - 1) Slot.un)[i]? = some u := hu
          rw [gs]
          by_cases l : i < (as a).length
          · rw [List.getElem?_append_left l] at hu
            obtain ⟨v, hv, hk⟩ := ha.get hu
            refine ⟨some v, by rw [List.getElem?_append_left (by rw [List.length_map]; omega), List.getElem?_map, hv]; rfl, ?_⟩
            have hk := hk.mono sm
            cases u with
            | val d => exact ⟨v, rfl, hk⟩
            | scr ns => obtain ⟨p, e, q⟩ := hk; exact ⟨p, by rw [e], q⟩
            | _ => exact hk.elim
          · rw [List.getElem?_append_right (by omega), List.getElem?_replicate] at hu
            split at hu
            · cases hu
              rename_i l2
              have l3 : i < (ws.map some ++ List.replicate (N.length - (ws.length + 1)) (none : Option V)).length := by
                rw [List.length_append, List.length_map, List.length_replicate]
                omega
              exact ⟨_, List.getElem?_eq_getElem l3, trivial⟩
            · cases hu
    refine body cdv A outer s H E a p hr kc O _ H _ t t' (.rt b) _ (hF a t b t' hF') er ?_
    intro v σ' H' kp ret
    have kp2 : ∀ q u, q ≠ p → H q = some u → H' q = some u := fun q u n e => kp.at' q u (fun ⟨i, z⟩ => n (own1 i q z).2) e
    have own2 : ∀ {σ' : L2.St} {i : Nat} {b : Addr}, OwnAt σ' (Slot.own (.fix p (bx t')) :: List.replicate (N.length - 1) .un) i b → i = 0 := fun {σ' i b} ⟨⟨c, e⟩, _⟩ => by
      cases i with
      | zero => rfl
      | succ i =>
        have e : (List.replicate (N.length - 1) Slot.un)[i]? = some (.own c) := e
        rw [List.getElem?_replicate] at e
        split at e
        · cases e
        · cases e
    have own3 : ∀ {O2 : Addr → Prop}, ER K O2 (fun b => if b = p then none else H b) H' σ' (Slot.own (.fix p (bx t')) :: List.replicate (N.length - 1) .un) → ∃ o', H' p = some o' ∧ OwnAt σ' (Slot.own (.fix p (bx t')) :: List.replicate (N.length - 1) .un) 0 p ∧ CellOk K (mask (msk O2 σ' (Slot.own (.fix p (bx t')) :: List.replicate (N.length - 1) .un)) H') o' (bx t') := fun {O2} e => by
      obtain ⟨p', o', e1, e2, e3, e4⟩ := e.cell (i := 0) rfl
      have e5 : p' = p := e.ctag (i := 0) rfl e1
      subst e5
      exact ⟨o', e2, e4, e3⟩
    have mk2 : ∀ {O2 : Addr → Prop}, ER K O2 (fun b => if b = p then none else H b) H' σ' (Slot.own (.fix p (bx t')) :: List.replicate (N.length - 1) .un) → ∀ b, msk O2 σ' (Slot.own (.fix p (bx t')) :: List.replicate (N.length - 1) .un) b ↔ (O2 b ∨ b = p) := fun {O2} e b => by
      obtain ⟨o', _, e4, _⟩ := own3 e
      constructor
      · rintro (z | ⟨i, z⟩)
        · exact .inl z
        · have e5 := own2 z
          subst e5
          have e6 := z.2
          rw [e4.2] at e6
          cases e6
          exact .inr rfl
      · rintro (z | rfl)
        · exact .inl z
        · exact .inr ⟨0, e4⟩
    cases rt with
    | val r =>
      obtain ⟨e1, e2⟩ := ret
      obtain ⟨o', e3, e4, e5⟩ := own3 e1
      have sm : Same (mask (msk O σ' (Slot.own (.fix p (bx t')) :: List.replicate (N.length - 1) .un)) H') (mask (fun a => O a ∨ a = p) H') := mask_same fun b u n e => ⟨fun z => n ((mk2 e1 b).mpr z), e⟩
      exact q v H' kp2 ⟨⟨o', e3, e5.mono sm⟩, e2.mono sm⟩
    | cell c =>
      obtain ⟨p2, o2, rfl, e2, e3, e4, e5, e6⟩ := ret
      obtain ⟨o', e7, e8, e9⟩ := own3 e4
      have np2 : p2 ≠ p := fun e => e4.disj 0 p e8 (.inr e.symm)
      have sm : Same (mask (msk (fun a => O a ∨ a = p2) σ' (Slot.own (.fix p (bx t')) :: List.replicate (N.length - 1) .un)) H') (mask (fun a => (O a ∨ a = p) ∨ a = p2) H') := mask_same fun b u n e => ⟨fun z => n ((mk2 e4 b).mpr (by
        rcases z with (z | z) | z
        · exact .inl (.inl z)
        · exact .inr z
        · exact .inl (.inr z))), e⟩
      exact q _ H' kp2 ⟨p2, o2, o', rfl, by simpa [np2] using e2, e5, e7, e9.mono sm, e6.mono sm⟩
end
/-! calls -/
section
variable {S α β γ ρ : Type} {X : Cx} {e : Expr} {es : List Expr} {δ : S → Sl} {pos p px : Pos} {x y : Str} {k : Nat}
/-- arguments: values, the script, lists that are lent (L: their names) -/
def lent (O : Addr → Prop) (σ : L2.St) (δ : Sl) (L : List Nat) : Addr → Prop := fun a => msk O σ δ a ∧ ∀ i ∈ L, ¬ OwnAt σ δ i a
def Ck0 (X : Cx) (es : List Expr) (δ : S → Sl) (L : List Nat) (pre : Sl) (out : γ → Sl) (m : S → Option (γ × S)) : Prop :=
  KC δ → ∀ (O : Addr → Prop) (He H : Hp) (σ : L2.St) (s s' : S) (g : γ) (ws : List V) (Q : List V → Hp → Prop), m s = some (g, s') → ER X.K O He H σ (δ s) →
    (∀ H2 s2, Keep (ow σ (δ s)) H H2 → ER X.K O He H2 σ (δ s2) → AAll X.K (mask (lent O σ (δ s) L) H2) ws pre) →
    (∀ vs H', Keep (ow σ (δ s)) H H' → ER X.K O He H' σ (δ s') → AAll X.K (mask (lent O σ (δ s) L) H') (ws ++ vs) (out g) → vs.length = es.length → Q vs H') → wpA X es σ H Q
theorem KC.lent {δ : S → Sl} (kc : KC δ) {O : Addr → Prop} {σ : L2.St} {L : List Nat} (s t : S) : lent O σ (δ s) L = lent O σ (δ t) L := by
  funext a
  apply propext
  unfold DL.lent
  rw [kc.msk s t]
  exact ⟨fun h => ⟨h.1, fun i hi z => h.2 i hi (kc.at z)⟩, fun h => ⟨h.1, fun i hi z => h.2 i hi (kc.at z)⟩⟩
theorem lent_le {O : Addr → Prop} {σ : L2.St} {δ : Sl} {L : List Nat} {H : Hp} : Same (mask (msk O σ δ) H) (mask (lent O σ δ L) H) := mask_same fun a o n e => ⟨fun z => n z.1, e⟩
theorem Ck0.nil {L : List Nat} {pre : Sl} {out : γ → Sl} {g : γ} (hg : out g = pre := by rfl) : Ck0 X [] δ L pre out (pu g) := by
  intro kc O He H σ s s' g' ws Q hm er hw q
  obtain ⟨rfl, rfl⟩ := pu_some hm
  exact PAwp pa_nil (q [] H .refl er (by rw [List.append_nil, hg]; exact hw H s' .refl er) rfl)
theorem Ck0.cons {L : List Nat} {r : α → D} {pre : Sl} {out : γ → Sl} {ma : S → Option (α × S)} {mb : α → S → Option (γ × S)} (ha : Dx X e δ r ma) (hb : ∀ a, Ck0 X es δ L (pre ++ [.val (r a)]) out (mb a))
    (hs : starEach (e :: es) X.env = (false, eval e X.env) :: starEach es X.env := by rfl) : Ck0 X (e :: es) δ L pre out (bd ma mb) := by
  intro kc O He H σ s s' g ws Q hm er hw q
  obtain ⟨a, s1, h1, h2⟩ := bd_some hm
  refine PAwp (pa_cons (peW X e) (paW X es) hs) (ha kc O He H σ s s1 a _ h1 er fun v H1 k1 er1 r1 => ?_)
  refine hb a kc O He H1 σ s1 s' g (ws ++ [v]) _ h2 er1 (fun H2 s2 k2 er2 => ?_) fun vs H2 k2 er2 r2 hl2 => ?_
  · rw [kc.ow s1 s] at k2
    rw [kc.lent s1 s]
    exact (hw H2 s2 (k1.trans k2) er2).append (.cons ((r1.mono k2.mask).mono lent_le) .nil)
  · rw [kc.ow s1 s] at k2
    rw [kc.lent s1 s] at r2
    exact q (v :: vs) H2 (k1.trans k2) er2 (by rw [List.append_assoc] at r2; exact r2) (by rw [List.length_cons, List.length_cons, hl2])
/-- a list of one's own is lent -/
theorem Ck0.lend {L : List Nat} {r : α → D} {xs : List α} {pre : Sl} {out : γ → Sl} {mb : S → Option (γ × S)} (i : Nat) (hb : Ck0 X es δ L (pre ++ [.val (rL r xs)]) out mb) (hi : i ∈ L := by decide) (hs' : ∀ s, (δ s)[i]? = some (.own (cL r xs)) := by intro _; rfl) (hN : X.N[i]? = some x := by rfl)
    (hv : Vis X.env.scope x := by first | exact Or.inl rfl | exact Or.inr (Or.inl rfl) | exact Or.inr (Or.inr rfl)) (hd : (x == ("__debug__" : Str)) = false := by decide) (hcd : (x == ("__classdict__" : Str)) = false := by decide)
    (hs : starEach (.Name x px :: es) X.env = (false, eval (.Name x px) X.env) :: starEach es X.env := by rfl) : Ck0 X (.Name x px :: es) δ L pre out mb := by
  intro kc O He H σ s s' g ws Q hm er hw q
  obtain ⟨p, o, hp, ho, hc, at'⟩ := er.cell (hs' s)
  refine PAwp (pa_cons (pe_var hN hv hd hcd) (paW X es) hs) ⟨.ref p, hp, ?_⟩
  refine hb kc O He H σ s s' g (ws ++ [.ref p]) _ hm er (fun H2 s2 k2 er2 => ?_) fun vs H2 k2 er2 r2 hl2 => ?_
  · refine (hw H2 s2 k2 er2).append (.cons ?_ .nil)
    obtain ⟨p2, o2, hp2, ho2, hc2, at2⟩ := er2.cell (hs' s2)
    rw [hp] at hp2
    cases hp2
    obtain ⟨vs, rfl, hr⟩ := hc2
    rw [kc.msk s2 s] at hr
    refine Rp.lst ?_ (hr.mono lent_le)
    rw [mask_of fun z => z.2 i hi at']
    exact ho2
  · exact q (.ref p :: vs) H2 k2 er2 (by rw [List.append_assoc] at r2; exact r2) (by rw [List.length_cons, List.length_cons, hl2])
theorem Ck0.scr {L : List Nat} {ns : List Int} {pre : Sl} {out : γ → Sl} {mb : S → Option (γ × S)} (i : Nat) (hb : Ck0 X es δ L (pre ++ [.scr ns]) out mb) (hs' : ∀ s, (δ s)[i]? = some (.scr ns) := by intro _; rfl) (hN : X.N[i]? = some x := by rfl)
    (hv : Vis X.env.scope x := by first | exact Or.inl rfl | exact Or.inr (Or.inl rfl) | exact Or.inr (Or.inr rfl)) (hd : (x == ("__debug__" : Str)) = false := by decide) (hcd : (x == ("__classdict__" : Str)) = false := by decide)
    (hs : starEach (.Name x px :: es) X.env = (false, eval (.Name x px) X.env) :: starEach es X.env := by rfl) : Ck0 X (.Name x px :: es) δ L pre out mb := by
  intro kc O He H σ s s' g ws Q hm er hw q
  obtain ⟨u, hu, p, rfl, hsq⟩ := er.slot i _ (hs' s)
  refine PAwp (pa_cons (pe_var hN hv hd hcd) (paW X es) hs) ⟨.ref p, hu, ?_⟩
  refine hb kc O He H σ s s' g (ws ++ [.ref p]) _ hm er (fun H2 s2 k2 er2 => ?_) fun vs H2 k2 er2 r2 hl2 => ?_
  · exact (hw H2 s2 k2 er2).append (.cons ⟨p, rfl, (Same.seq (Same.trans k2.mask lent_le) hsq)⟩ .nil)
  · exact q (.ref p :: vs) H2 k2 er2 (by rw [List.append_assoc] at r2; exact r2) (by rw [List.length_cons, List.length_cons, hl2])
/-- the arguments told so far stand in pre, the last one first -/
def Ck (X : Cx) (es : List Expr) (δ : S → Sl) (L : List Nat) (pre : Sl) (out : γ → Sl) (m : S → Option (γ × S)) : Prop := Ck0 X es δ L pre.reverse out m
theorem Ck.rev {L : List Nat} {t : Slot} {pre : Sl} {out : γ → Sl} {m : S → Option (γ × S)} (h : Ck X es δ L (t :: pre) out m) : Ck0 X es δ L (pre.reverse ++ [t]) out m := by
  unfold Ck at h
  rw [List.reverse_cons] at h
  exact h
theorem Ck.nil {L : List Nat} {pre : Sl} {out : γ → Sl} {g : γ} (hg : out g = pre.reverse := by rfl) : Ck X [] δ L pre out (pu g) := Ck0.nil hg
theorem Ck.cons {L : List Nat} {r : α → D} {pre : Sl} {out : γ → Sl} {ma : S → Option (α × S)} {mb : α → S → Option (γ × S)} (ha : Dx X e δ r ma) (hb : ∀ a, Ck X es δ L (.val (r a) :: pre) out (mb a))
    (hs : starEach (e :: es) X.env = (false, eval e X.env) :: starEach es X.env := by rfl) : Ck X (e :: es) δ L pre out (bd ma mb) := Ck0.cons ha (fun a => (hb a).rev) hs
theorem Ck.lend {L : List Nat} {r : α → D} {xs : List α} {pre : Sl} {out : γ → Sl} {mb : S → Option (γ × S)} (i : Nat) (hb : Ck X es δ L (.val (rL r xs) :: pre) out mb) (hi : i ∈ L := by decide) (hs' : ∀ s, (δ s)[i]? = some (.own (cL r xs)) := by intro _; rfl) (hN : X.N[i]? = some x := by rfl)
    (hv : Vis X.env.scope x := by first | exact Or.inl rfl | exact Or.inr (Or.inl rfl) | exact Or.inr (Or.inr rfl)) (hd : (x == ("__debug__" : Str)) = false := by decide) (hcd : (x == ("__classdict__" : Str)) = false := by decide)
    (hs : starEach (.Name x px :: es) X.env = (false, eval (.Name x px) X.env) :: starEach es X.env := by rfl) : Ck X (.Name x px :: es) δ L pre out mb := Ck0.lend i hb.rev hi hs' hN hv hd hcd hs
theorem Ck.scr {L : List Nat} {ns : List Int} {pre : Sl} {out : γ → Sl} {mb : S → Option (γ × S)} (i : Nat) (hb : Ck X es δ L (.scr ns :: pre) out mb) (hs' : ∀ s, (δ s)[i]? = some (.scr ns) := by intro _; rfl) (hN : X.N[i]? = some x := by rfl)
    (hv : Vis X.env.scope x := by first | exact Or.inl rfl | exact Or.inr (Or.inl rfl) | exact Or.inr (Or.inr rfl)) (hd : (x == ("__debug__" : Str)) = false := by decide) (hcd : (x == ("__classdict__" : Str)) = false := by decide)
    (hs : starEach (.Name x px :: es) X.env = (false, eval (.Name x px) X.env) :: starEach es X.env := by rfl) : Ck X (.Name x px :: es) δ L pre out mb := Ck0.scr i hb.rev hs' hN hv hd hcd hs
theorem ret_ow {K : Frag} {O : Addr → Prop} {He H : Hp} {σ : L2.St} {δ : Sl} {L : List Nat} (er : ER K O He H σ δ) : ∀ a, lent O σ δ L a → H a ≠ none := fun a z => er.mdom z.1
/-- f(e, ..), the result a value -/
theorem Dx.call {L : List Nat} {as : α → Sl} {F : α → Option ρ} {r : ρ → D} {m : S → Option (α × S)} (G : FnA X.prog X.w X.K X.mg X.base k x (spV X.K as F (.val r))) (hr : Room k X.A) (h : Ck X (e :: es) δ L [] as m) (hL : L = [] ∨ ∀ b, imm (r b) = true) (hg : Gl X x := by rfl)
    (hdb : (x == ("__debug__" : Str)) = false := by decide) (he : starEach (e :: es) X.env = (false, eval e X.env) :: starEach es X.env := by rfl) (hpl : (backTo pos (starEach es X.env)).any (·.1) = false := by rfl) : Dx X (.Call (.Name x p) (e :: es) [] pos) δ r (bd m fun a => lf (F a)) := by
  intro kc O He H σ s s' b Q hm er q
  obtain ⟨a, s1, h1, h2⟩ := bd_some hm
  obtain ⟨h3, rfl⟩ := lf_some h2
  obtain ⟨f, fd, ps, g1, g2, g3, g4⟩ := G
  refine PEwp (pe_call g4 hr hg g1 g2 g3 .nil pass0 (paW X (e :: es)) hdb he hpl) (h kc O He H σ s s' a [] _ h1 er (fun _ _ _ _ => .nil) fun vs H1 k1 er1 r1 _ => ?_)
  refine ⟨lent O σ (δ s) L, a, b, fun c z => ?_, by rw [List.append_nil]; exact r1, h3, fun v H2 sm ret => q v H2 (k1.trans (.of sm)) (er1.mono sm) ?_⟩
  · rw [kc.lent s s'] at z
    exact er1.mdom z.1
  · have ret : Rp X.K (mask (lent O σ (δ s) L) H2) v (r b) := ret
    rcases hL with rfl | hL
    · exact ret.mono (mask_same fun a o n e => ⟨fun z => n ⟨z, fun i hi => by cases hi⟩, e⟩)
    · exact ret.imm (hL b)
/-- f(e, ..), the result a new cell -/
theorem Fx.call {as : α → Sl} {F : α → Option ρ} {c : ρ → Cell} {m : S → Option (α × S)} (G : FnA X.prog X.w X.K X.mg X.base k x (spV X.K as F (.cell c))) (hr : Room k X.A) (h : Ck X (e :: es) δ [] [] as m) (hg : Gl X x := by rfl)
    (hdb : (x == ("__debug__" : Str)) = false := by decide) (he : starEach (e :: es) X.env = (false, eval e X.env) :: starEach es X.env := by rfl) (hpl : (backTo pos (starEach es X.env)).any (·.1) = false := by rfl) : Fx X (.Call (.Name x p) (e :: es) [] pos) δ c (bd m fun a => lf (F a)) := by
  intro kc O He H σ s s' b Q hm er q
  obtain ⟨a, s1, h1, h2⟩ := bd_some hm
  obtain ⟨h3, rfl⟩ := lf_some h2
  obtain ⟨f, fd, ps, g1, g2, g3, g4⟩ := G
  refine PEwp (pe_call g4 hr hg g1 g2 g3 .nil pass0 (paW X (e :: es)) hdb he hpl) (h kc O He H σ s s' a [] _ h1 er (fun _ _ _ _ => .nil) fun vs H1 k1 er1 r1 _ => ?_)
  refine ⟨lent O σ (δ s) [], a, b, fun c z => ?_, by rw [List.append_nil]; exact r1, h3, fun v H2 sm ret => ?_⟩
  · rw [kc.lent s s'] at z
    exact er1.mdom z.1
  · obtain ⟨p2, o, rfl, hp, ho, hc⟩ := ret
    have er2 := er1.mono sm
    -- the new cell is foreign as yet
    have nm : ∀ t, ¬ msk O σ (δ t) p2 := fun t z => by
      rw [kc.msk t s'] at z
      exact er1.mdom z hp
    have er3 : ER X.K (fun a => O a ∨ a = p2) He H2 σ (δ s') := by
      refine ⟨er2.len, er2.same, er2.fresh, er2.inj, fun i a z w => ?_, fun a w => ?_, fun i t ht => ?_⟩
      · rcases w with w | w
        · exact er2.disj i a z w
        · exact nm s' (.inr ⟨i, w ▸ z⟩)
      · rcases w with w | w
        · exact er2.dom a w
        · rw [w, ho]; exact fun z => nomatch z
      · obtain ⟨u, hu, rr⟩ := er1.slot i t ht
        refine ⟨u, hu, rr.mono (mask_same fun a o n e => ⟨fun z => ?_, sm a o e⟩) fun p o _ _ e => sm p o e⟩
        rcases z with (z | z) | z
        · exact n (.inl z)
        · rw [z, hp] at e; cases e
        · exact n (.inr z)
    refine q p2 o H2 (k1.none hp) (fun z => nm s' (.inl z)) (k1.trans (.of sm)) er3 ho (hc.mono (mask_same fun a o n e => ⟨fun z => n ?_, e⟩))
    rcases z with (z | z) | z
    · exact .inl ⟨.inl z, fun i hi => by cases hi⟩
    · exact .inr z
    · exact .inl ⟨.inr z, fun i hi => by cases hi⟩
end
end DL

namespace DL
open PySem PySem.Spec L2
section
variable {S α β γ κ ρ : Type} {X : Cx} {e e1 e2 : Expr} {es : List Expr} {rest : List Stmt} {δ : S → Sl} {pos p px p2 p3 apos cpos : Pos} {x y : Str} {k : Nat} {r : α → D}
def tagC : Option Addr → Cell → Cell
  | none, c => c
  | some p, c => .fix p c
theorem tagC_ok {K : Frag} {G : Hp} {o : HO} {c : Cell} : ∀ {t : Option Addr}, CellOk K G o (tagC t c) ↔ CellOk K G o c
  | none => Iff.rfl
  | some _ => Iff.rfl
def tgOk (t : Option Addr) (p : Addr) : Prop := ∀ q, t = some q → p = q
/-- behind a call that may have changed the state's cell -/
theorem boxed {bx : S → Cell} {tg : Option Addr} {i : Nat} (kc : KC δ) (hs' : ∀ s, (δ s)[i]? = some (.own (tagC tg (bx s)))) (hδ : ∀ s t, δ t = (δ s).set i (.own (tagC tg (bx t)))) (hbx : ∀ s p, tg = none → (bx s).tag p) {O : Addr → Prop} {He H1 H2 : Hp} {σ : L2.St} {s1 s2 : S} {q : Addr}
    (er1 : ER X.K O He H1 σ (δ s1)) (hq : OwnAt σ (δ s1) i q) (kp : ∀ b u, b ≠ q → H1 b = some u → H2 b = some u) {o' : HO} (ho' : H2 q = some o') (hc : CellOk X.K (mask (msk O σ (δ s1)) H2) o' (bx s2)) : Keep (ow σ (δ s1)) H1 H2 ∧ ER X.K O He H2 σ (δ s2) := by
  refine ⟨⟨fun a u n e => kp a u (fun z => n ⟨i, z ▸ hq⟩) e, fun a n => ?_⟩, ?_⟩
  · by_cases ea : a = q
    · rw [ea, ho']; exact fun z => nomatch z
    · cases e : H1 a with
      | none => exact absurd e n
      | some u => rw [kp a u ea e]; exact fun z => nomatch z
  · rw [hδ s1 s2]
    refine er1.putc hq kp ho' (tagC_ok.mpr hc) ?_
    have t1 := er1.ctag (hs' s1) hq.2
    cases tg with
    | none => exact hbx s2 q rfl
    | some p0 => exact t1
theorem callB_core {bx : S → Cell} {tg : Option Addr} (i : Nat) {as : α → Sl} {F : α → S → Option (ρ × S)} {rt : RT ρ} {m : S → Option (α × S)} (G : FnA X.prog X.w X.K X.mg X.base k x (spB X.K bx as F rt)) (hr : Room k X.A) (h : Ck X es δ [] [] as m) (hs' : ∀ s, (δ s)[i]? = some (.own (tagC tg (bx s))))
    (hN : X.N[i]? = some y) (hv : Vis X.env.scope y) (hd : (y == ("__debug__" : Str)) = false) (hcd : (y == ("__classdict__" : Str)) = false)
    (hg : Gl X x) (hdb : (x == ("__debug__" : Str)) = false) (he : starEach (.Name y px :: es) X.env = (false, eval (.Name y px) X.env) :: starEach es X.env) (hpl : (backTo pos (starEach es X.env)).any (·.1) = false)
    (kc : KC δ) {O : Addr → Prop} {He H : Hp} {σ : L2.St} {s s' : S} {b : ρ} {Q : VK} (hm : bd m (fun a => F a) s = some (b, s')) (er : ER X.K O He H σ (δ s))
    (q : ∀ v H1 H2 s1 p0, Keep (ow σ (δ s)) H H1 → ER X.K O He H1 σ (δ s1) → OwnAt σ (δ s1) i p0 → (∀ c, (msk O σ (δ s) c ∧ c ≠ p0) ∨ c = p0 ↔ msk O σ (δ s) c) → (∀ q u, q ≠ p0 → H1 q = some u → H2 q = some u) → EndB X.K rt (fun c => msk O σ (δ s) c ∧ c ≠ p0) p0 H1 H2 (bx s') b v → Q v H2) : wpE X (.Call (.Name x p) (.Name y px :: es) [] pos) σ H Q := by
  obtain ⟨a, s1, h1, h2⟩ := bd_some hm
  obtain ⟨f, fd, ps, g1, g2, g3, g4⟩ := G
  obtain ⟨p0, o0, hp0, ho0, hc0, at0⟩ := er.cell (hs' s)
  refine PEwp (pe_call g4 hr hg g1 g2 g3 .nil pass0 (pa_cons (pe_var hN hv hd hcd) (paW X es) he) hdb he hpl) ⟨.ref p0, hp0, ?_⟩
  refine h kc O He H σ s s1 a [] _ h1 er (fun _ _ _ _ => .nil) fun vs H1 k1 er1 r1 _ => ?_
  obtain ⟨p1, o1, hp1, ho1, hc1, at1⟩ := er1.cell (hs' s1)
  rw [hp0] at hp1
  cases hp1
  have em1 : ∀ c, (msk O σ (δ s) c ∧ c ≠ p0) ∨ c = p0 ↔ msk O σ (δ s) c := fun c => by
    constructor
    · rintro (z | rfl)
      · exact z.1
      · exact .inr ⟨i, at0⟩
    · intro z
      by_cases ec : c = p0
      · exact .inr ec
      · exact .inl ⟨z, ec⟩
  have em : (fun c => (msk O σ (δ s) c ∧ c ≠ p0) ∨ c = p0) = msk O σ (δ s) := by
    funext c
    exact propext (em1 c)
  have er1m : ∀ c, msk O σ (δ s) c → H1 c ≠ none := fun c z => by
    rw [kc.msk s s1] at z
    exact er1.mdom z
  refine ⟨fun c => msk O σ (δ s) c ∧ c ≠ p0, p0, o1, vs, a, s1, s', b, by simp, ho1, fun z => z.2 rfl, fun c z => er1m c z.1, ?_, ?_, h2, fun v H2 kp ret => ?_⟩
  · rw [em, kc.msk s s1]
    exact tagC_ok.mp hc1
  · rw [em]
    exact AAll.mono (mask_same fun a o n e => ⟨fun z => n ⟨z, fun i hi => by cases hi⟩, e⟩) r1
  · exact q v H1 H2 s1 p0 k1 er1 at1 em1 kp ret
theorem Dx.callB {bx : S → Cell} (tg : Option Addr) (i : Nat) {as : α → Sl} {F : α → S → Option (ρ × S)} {rv : ρ → D} {m : S → Option (α × S)} (G : FnA X.prog X.w X.K X.mg X.base k x (spB X.K bx as F (.val rv))) (hr : Room k X.A) (h : Ck X es δ [] [] as m) (hs' : ∀ s, (δ s)[i]? = some (.own (tagC tg (bx s))) := by intro _; rfl)
    (hδ : ∀ s t, δ t = (δ s).set i (.own (tagC tg (bx t))) := by intro _ _; rfl) (hbx : ∀ s p, tg = Option.none → (bx s).tag p := by intro _ _ _; trivial) (hN : X.N[i]? = some y := by rfl) (hv : Vis X.env.scope y := by first | exact Or.inl rfl | exact Or.inr (Or.inl rfl) | exact Or.inr (Or.inr rfl)) (hd : (y == ("__debug__" : Str)) = false := by decide) (hcd : (y == ("__classdict__" : Str)) = false := by decide)
    (hg : Gl X x := by rfl) (hdb : (x == ("__debug__" : Str)) = false := by decide) (he : starEach (.Name y px :: es) X.env = (false, eval (.Name y px) X.env) :: starEach es X.env := by rfl) (hpl : (backTo pos (starEach es X.env)).any (·.1) = false := by rfl) :
    Dx X (.Call (.Name x p) (.Name y px :: es) [] pos) δ rv (bd m fun a => F a) := by
  intro kc O He H σ s s' b Q hm er q
  refine callB_core i G hr h hs' hN hv hd hcd hg hdb he hpl kc hm er fun v H1 H2 s1 p0 k1 er1 at1 em kp ret => ?_
  obtain ⟨⟨o', ho', hc'⟩, hv⟩ := ret
  have em2 : (fun c => (msk O σ (δ s) c ∧ c ≠ p0) ∨ c = p0) = msk O σ (δ s) := funext fun c => propext (em c)
  rw [em2] at hc' hv
  have hc2 : CellOk X.K (mask (msk O σ (δ s1)) H2) o' (bx s') := by rw [kc.msk s1 s]; exact hc'
  obtain ⟨k2, er2⟩ := boxed (X := X) kc hs' hδ hbx er1 at1 kp ho' hc2
  rw [kc.ow s1 s] at k2
  exact q v H2 (k1.trans k2) er2 hv
theorem Fx.callB {bx : S → Cell} (tg : Option Addr) (i : Nat) {as : α → Sl} {F : α → S → Option (ρ × S)} {c : ρ → Cell} {m : S → Option (α × S)} (G : FnA X.prog X.w X.K X.mg X.base k x (spB X.K bx as F (.cell c))) (hr : Room k X.A) (h : Ck X es δ [] [] as m) (hs' : ∀ s, (δ s)[i]? = some (.own (tagC tg (bx s))) := by intro _; rfl)
    (hδ : ∀ s t, δ t = (δ s).set i (.own (tagC tg (bx t))) := by intro _ _; rfl) (hbx : ∀ s p, tg = Option.none → (bx s).tag p := by intro _ _ _; trivial) (hN : X.N[i]? = some y := by rfl) (hv : Vis X.env.scope y := by first | exact Or.inl rfl | exact Or.inr (Or.inl rfl) | exact Or.inr (Or.inr rfl)) (hd : (y == ("__debug__" : Str)) = false := by decide) (hcd : (y == ("__classdict__" : Str)) = false := by decide)
    (hg : Gl X x := by rfl) (hdb : (x == ("__debug__" : Str)) = false := by decide) (he : starEach (.Name y px :: es) X.env = (false, eval (.Name y px) X.env) :: starEach es X.env := by rfl) (hpl : (backTo pos (starEach es X.env)).any (·.1) = false := by rfl) :
    Fx X (.Call (.Name x p) (.Name y px :: es) [] pos) δ c (bd m fun a => F a) := by
  intro kc O He H σ s s' b Q hm er q
  refine callB_core i G hr h hs' hN hv hd hcd hg hdb he hpl kc hm er fun v H1 H2 s1 p0 k1 er1 at1 em kp ret => ?_
  obtain ⟨p2, o, o', rfl, hp, ho, ho', hc', hc⟩ := ret
  have nm : ∀ t, ¬ msk O σ (δ t) p2 := fun t z => by
    rw [kc.msk t s1] at z
    exact er1.mdom z hp
  -- the call as of a state in which the new cell is foreign
  have er1' : ER X.K (fun a => O a ∨ a = p2) He (upd H1 p2 o) σ (δ s1) := er1.new hp
  have ne0 : p0 ≠ p2 := fun e => nm s1 (.inr ⟨i, e ▸ at1⟩)
  have kp' : ∀ b u, b ≠ p0 → (upd H1 p2 o) b = some u → H2 b = some u := fun b u n e => by
    by_cases eb : b = p2
    · subst eb
      rw [upd_same] at e
      cases e
      exact ho
    · rw [upd_ne eb] at e
      exact kp b u n e
  have em3 : ∀ t c, (msk O σ (δ s) c ∧ c ≠ p0) ∨ c = p0 ∨ c = p2 ↔ msk (fun a => O a ∨ a = p2) σ (δ t) c := fun t c => by
    constructor
    · rintro (z | rfl | rfl)
      · have z := z.1
        rw [kc.msk s t] at z
        rcases z with z | z
        · exact .inl (.inl z)
        · exact .inr z
      · have z : msk O σ (δ s) c := (em c).mp (.inr rfl)
        rw [kc.msk s t] at z
        rcases z with z | z
        · exact .inl (.inl z)
        · exact .inr z
      · exact .inl (.inr rfl)
    · rintro ((z | z) | z)
      · rcases (em c).mpr (.inl z) with w | w
        · exact .inl w
        · exact .inr (.inl w)
      · exact .inr (.inr z)
      · rcases (em c).mpr (.inr (by rw [kc.ow s t]; exact z)) with w | w
        · exact .inl w
        · exact .inr (.inl w)
  have sm : ∀ t, Same (mask (fun a => ((msk O σ (δ s) a ∧ a ≠ p0) ∨ a = p0) ∨ a = p2) H2) (mask (msk (fun a => O a ∨ a = p2) σ (δ t)) H2) := fun t => mask_same fun b u n e => ⟨fun z => n (by
    rcases (em3 t b).mpr z with w | w | w
    · exact .inl (.inl w)
    · exact .inl (.inr w)
    · exact .inr w), e⟩
  obtain ⟨k2, er2⟩ := boxed (X := X) kc hs' hδ hbx er1' at1 kp' ho' (hc'.mono (sm s1))
  rw [kc.ow s1 s] at k2
  exact q p2 o H2 (k1.none hp) (fun z => nm s (.inl z)) (k1.trans ((Keep.of (same_new hp)).trans k2)) er2 ho (hc.mono (sm s))
end
end DL

namespace DL
open PySem PySem.Spec L2
section
variable {S α β γ κ ρ : Type} {X : Cx} {e e1 e2 ix : Expr} {es : List Expr} {ss rest : List Stmt} {δ : S → Sl} {on : γ → S → Sl} {ob : β → S → Sl} {δr : S → Sl} {rt : RT ρ} {pos px py pt p p2 p3 apos cpos tpos : Pos} {x y : Str} {k : Nat} {r : α → D}
/-! ### lists of one's own change -/
theorem put_own {O : Addr → Prop} {He H : Hp} {σ : L2.St} {δ0 : Sl} {i : Nat} {p : Addr} {vs : List V} {zs : List α} (er : ER X.K O He H σ δ0) (hp : OwnAt σ δ0 i p) (hr : RpAll X.K (mask (msk O σ δ0) H) vs (zs.map r)) :
    ER X.K O He (upd H p (.lst vs)) σ (δ0.set i (.own (cL r zs))) ∧ Fr H σ δ0 (upd H p (.lst vs)) σ (δ0.set i (.own (cL r zs))) := by
  have sm : Same (mask (msk O σ δ0) H) (mask (msk O σ δ0) (upd H p (.lst vs))) := mask_same fun a u n e => ⟨n, by
    rw [upd_ne]
    · exact e
    · rintro rfl
      exact n (.inr ⟨i, hp⟩)⟩
  refine ⟨er.putc hp (fun a u n e => by rw [upd_ne n]; exact e) upd_same ⟨vs, rfl, hr.mono sm⟩ trivial, ⟨⟨fun a u n e => ?_, fun a n => ?_⟩, fun a z => .inl ?_⟩⟩
  · rw [upd_ne]
    · exact e
    · rintro rfl
      exact n ⟨i, hp⟩
  · by_cases ea : a = p
    · rw [ea, upd_same]; exact fun z => nomatch z
    · rw [upd_ne ea]; exact n
  · obtain ⟨j, ⟨c, z1⟩, z2⟩ := z
    by_cases ej : j = i
    · subst ej
      exact ⟨j, hp.1, z2⟩
    · rw [List.getElem?_set_ne (Ne.symm ej)] at z1
      exact ⟨j, ⟨c, z1⟩, z2⟩
/-- x.append(e) -/
theorem Ds.app {m : S → Option (α × S)} {k : α → S → Option (Fl γ β ρ × S)} (i : Nat) {xs : List α} (he : Dx X e δ r m) (hk : ∀ a, Ds X rest (fun s => (δ s).set i (.own (cL r (xs ++ [a])))) on ob δr rt (k a)) (hs' : ∀ s, (δ s)[i]? = some (.own (cL r xs)) := by intro _; rfl)
    (hN : X.N[i]? = some x := by rfl) (hv : Vis X.env.scope x := by first | exact Or.inl rfl | exact Or.inr (Or.inl rfl) | exact Or.inr (Or.inr rfl)) (hd : (x == ("__debug__" : Str)) = false := by decide) (hcd : (x == ("__classdict__" : Str)) = false := by decide)
    (hsw : swapsWith (.Call (.Attribute (.Name x px) "append" apos) [e] [] cpos) none pos.line X.env = pure false := by rfl) (hbase : attributeBase (.Name x px) "append" X.env (eval (.Name x px) X.env) = eval (.Name x px) X.env := by rfl)
    (hfew : ((backTo cpos (starEach [e] X.env)).all (fun x => !x.1) && (backToKw cpos (keywordEach [] X.env)).all (fun x => x.1.isSome) && decide ([e].length + ([] : List Keyword).length + (if ([] : List Keyword).isEmpty then 0 else 1) < 30)) = true := by rfl)
    (hst : starEach [e] X.env = (false, eval e X.env) :: starEach [] X.env := by rfl) (hline : (apos.endLine == cpos.line) = true := by rfl)
    (hpe : PE X (.Call (.Attribute (.Name x px) "append" apos) [e] [] cpos) (tBM X.K "list" rAppend (tVar i) (tCons (wpE X e) tNil)) := by exact pe_bm PySem.F.plainAttrs_list PySem.F.slot_list_append PySem.F.type_list_append mt_append (pv _) (pa_cons (peW _ _) pa_nil)) :
    Ds X (.Expr (.Call (.Attribute (.Name x px) "append" apos) [e] [] cpos) pos :: rest) δ on ob δr rt (bd m fun a => gd (xs.length < big) (k a)) := by
  intro kc O He H σ s s' fl Dn hm er q
  obtain ⟨a, s1, h1, h2⟩ := bd_some hm
  obtain ⟨hb, h2⟩ := gd_some h2
  obtain ⟨p0, o0, hp0, ho0, hc0, at0⟩ := er.cell (hs' s)
  obtain ⟨vs0, rfl, hr0⟩ := hc0
  refine PSSwp (pss_cons (ps_expr hpe hsw) (pssW X rest)) ⟨.ref p0, hp0, .inl ⟨rfl, vs0, SqL.of ho0⟩, ?_⟩
  refine he kc O He H σ s s1 a _ h1 er fun v H1 k1 er1 r1 => ?_
  obtain ⟨p1, o1, hp1, ho1, hc1, at1⟩ := er1.cell (hs' s1)
  rw [hp0] at hp1
  cases hp1
  obtain ⟨vs, rfl, hr⟩ := hc1
  have hlen := hr.length
  rw [List.length_map] at hlen
  have hbig := big_lt
  rw [kc.msk s s1] at r1
  obtain ⟨er2, fr2⟩ := put_own (zs := xs ++ [a]) (vs := vs ++ [v]) (r := r) er1 at1 (by rw [List.map_append]; exact hr.append (.cons r1 .nil))
  refine ⟨p0, vs, v, rfl, rfl, ho1, by omega, ?_⟩
  refine hk a (kc.set fun _ _ => rfl) O He _ σ s1 s' fl Dn h2 er2 (q.then' (Fr.trans ⟨k1, fun a z => .inl (by rw [kc.ow s s1]; exact z)⟩ fr2))
/-- x[i] = e -/
theorem Ds.setix {me : S → Option (α × S)} {mi : S → Option (Int × S)} {k : List α → S → Option (Fl γ β ρ × S)} (i : Nat) {xs : List α} (he : Dx X e δ r me) (hix : Dx X ix δ rI mi) (hk : ∀ zs, Ds X rest (fun s => (δ s).set i (.own (cL r zs))) on ob δr rt (k zs)) (hs' : ∀ s, (δ s)[i]? = some (.own (cL r xs)) := by intro _; rfl)
    (hN : X.N[i]? = some x := by rfl) (hv : Vis X.env.scope x := by first | exact Or.inl rfl | exact Or.inr (Or.inl rfl) | exact Or.inr (Or.inr rfl)) (hd : (x == ("__debug__" : Str)) = false := by decide) (hcd : (x == ("__classdict__" : Str)) = false := by decide)
    (hps : PS X (.Assign [.Subscript (.Name x px) ix tpos] e pos) (tAsg (wpE X e) (gSub (tVar i) (wpE X ix) rSetL)) := by exact ps_asg (peW _ _) (pg_sub (pv _) (peW _ _) set_list)) :
    Ds X (.Assign [.Subscript (.Name x px) ix tpos] e pos :: rest) δ on ob δr rt (bd me fun a => bd mi fun j => bd (lf (ixN xs.length j)) fun n => bd (pu (xs.set n a)) k) := by
  intro kc O He H σ s s' fl Dn hm er q
  obtain ⟨a, s1, h1, hm⟩ := bd_some hm
  obtain ⟨j, s2, h2, hm⟩ := bd_some hm
  obtain ⟨n, s3, h3, hm2⟩ := bd_some hm
  obtain ⟨h3', rfl⟩ := lf_some h3
  refine PSSwp (pss_cons hps (pssW X rest)) (he kc O He H σ s s1 a _ h1 er fun v H1 k1 er1 r1 => ?_)
  obtain ⟨p0, o0, hp0, ho0, hc0, at0⟩ := er1.cell (hs' s1)
  refine ⟨.ref p0, hp0, hix kc O He H1 σ s1 s3 j _ h2 er1 fun w H2 k2 er2 r2 => ?_⟩
  cases r2
  obtain ⟨p1, o1, hp1, ho1, hc1, at1⟩ := er2.cell (hs' s3)
  rw [hp0] at hp1
  cases hp1
  obtain ⟨vs, rfl, hr⟩ := hc1
  have hlen := hr.length
  rw [List.length_map] at hlen
  rw [kc.ow s1 s] at k2
  have r1 := r1.mono k2.mask
  rw [kc.msk s s3] at r1
  obtain ⟨er3, fr3⟩ := put_own (zs := xs.set n a) (vs := vs.set n v) (r := r) er2 at1 (by rw [List.map_set]; exact hr.set r1 n)
  refine ⟨p0, vs, j, n, rfl, rfl, ho1, by rw [hlen]; exact h3', ?_⟩
  exact hk (xs.set n a) (kc.set fun _ _ => rfl) O He _ σ s3 s' fl Dn hm2 er3 (q.then' (Fr.trans ⟨k1.trans k2, fun a z => .inl (by rw [kc.ow s s3]; exact z)⟩ fr3))
/-- o[i] of a list, by values -/
theorem get_list : PGet X (rIxL X.K) := by
  intro pins s σ H o i ov iv Q I ro ri h
  obtain ⟨p, xs, j, z, rfl, rfl, hq, he, q⟩ := h
  cases ro
  obtain ⟨t, rfl⟩ := ri
  obtain ⟨its, r, pl, hz⟩ := I.list hq
  obtain ⟨n, h1, h2, h3, h4, h5⟩ := atI_get he
  obtain ⟨w, ew, rw'⟩ := r.get h2
  have hl := r.length
  have hn := line63
  have fin : EP X pins σ Q w s := ⟨z, H, I, rw', q⟩
  by_cases h0 : 0 ≤ j
  · have hj : j.toNat = n := by
      rw [seqIndex_of h0 h5] at h1
      exact Option.some.inj h1
    exact wpAny_getItem_list pl.isList h0 (by omega) (by rw [hj]; simpa using ew) fin
  · have hj : (j + (its.toArray.size : Int)).toNat = n := by
      rw [seqIndex_neg (by omega) h4] at h1
      rw [List.size_toArray, ← hl]
      exact Option.some.inj h1
    exact wpAny_getItem_list_neg pl.isList (by omega) (by rw [List.size_toArray] <;> omega) (by omega) (by rw [hj]; simpa using ew) fin
/-- x[i] += e, ints -/
theorem Ds.augix {op : Operator} {g : Int → Int → Int} {me mi : S → Option (Int × S)} {k : List Int → S → Option (Fl γ β ρ × S)} (i : Nat) {xs : List Int} (hop : PIp X op (ipI g)) (he : Dx X e δ rI me) (hix : Dx X ix δ rI mi) (hk : ∀ zs, Ds X rest (fun s => (δ s).set i (.own (cL rI zs))) on ob δr rt (k zs)) (hs' : ∀ s, (δ s)[i]? = some (.own (cL rI xs)) := by intro _; rfl)
    (hN : X.N[i]? = some x := by rfl) (hv : Vis X.env.scope x := by first | exact Or.inl rfl | exact Or.inr (Or.inl rfl) | exact Or.inr (Or.inr rfl)) (hd : (x == ("__debug__" : Str)) = false := by decide) (hcd : (x == ("__classdict__" : Str)) = false := by decide)
    (ha : ∀ ov iv new, augStore ix ov iv new = (do holding [new, ov, iv] (setItem ov iv new); release [new, ov, iv] []; pure .next) := by intros; rfl) :
    Ds X (.AugAssign (.Subscript (.Name x px) ix tpos) op e pos :: rest) δ on ob δr rt (bd mi fun j => bd (lf (ixN xs.length j)) fun n => bd (lf xs[n]?) fun z => bd me fun a => bd (pu (xs.set n (g z a))) k) := by
  intro kc O He H σ s s' fl Dn hm er q
  obtain ⟨j, s1, h1, hm1⟩ := bd_some hm
  obtain ⟨n, s2, h2', hm2⟩ := bd_some hm1
  have h2 := (lf_some h2').1
  have e2 := (lf_some h2').2
  obtain ⟨z, s2x, h3', hm3⟩ := bd_some hm2
  have h3 := (lf_some h3').1
  have e3 := (lf_some h3').2
  subst e3
  subst e2
  obtain ⟨a, s3, h4, hm4⟩ := bd_some hm3
  obtain ⟨p0, o0, hp0, ho0, hc0, at0⟩ := er.cell (hs' s)
  refine PSSwp (pss_cons (ps_augS (pe_var hN hv hd hcd) (peW X ix) get_list (peW X e) hop set_list ha) (pssW X rest)) ⟨.ref p0, hp0, hix kc O He H σ s s2x j _ h1 er fun w H1 k1 er1 r1 => ?_⟩
  cases r1
  obtain ⟨p1, o1, hp1, ho1, hc1, at1⟩ := er1.cell (hs' s2x)
  rw [hp0] at hp1
  cases hp1
  obtain ⟨vs, rfl, hr⟩ := hc1
  have evs := Vints hr
  subst evs
  refine ⟨p0, xs.map V.int, j, .int z, rfl, rfl, SqL.of ho1, ?_, ?_⟩
  · unfold atI
    rw [List.length_map, h2]
    show (xs.map V.int)[n]? = _
    rw [List.getElem?_map, h3]; rfl
  · refine he kc O He H1 σ s2x s3 a _ h4 er1 fun w H2 k2 er2 r2 => ?_
    cases r2
    rw [kc.ow s2x s] at k2
    obtain ⟨p2, o2, hp2, ho2, hc2, at2⟩ := er2.cell (hs' s3)
    rw [hp0] at hp2
    cases hp2
    obtain ⟨vs, rfl, hr⟩ := hc2
    have evs := Vints hr
    subst evs
    obtain ⟨er3, fr3⟩ := put_own (zs := xs.set n (g z a)) (vs := (xs.map V.int).set n (.int (g z a))) (r := rI) er2 at2 (by rw [List.map_set]; exact hr.set (.int _) n)
    refine ⟨z, a, rfl, rfl, p0, xs.map V.int, j, n, rfl, rfl, ho2, by rw [List.length_map]; exact h2, ?_⟩
    exact hk _ (kc.set fun _ _ => rfl) O He _ σ s3 s' fl Dn hm4 er3 (q.then' (Fr.trans ⟨k1.trans k2, fun a z => .inl (by rw [kc.ow s s3]; exact z)⟩ fr3))
/-- x += e, ints -/
theorem Ds.aug {op : Operator} {g : Int → Int → Int} {m : S → Option (Int × S)} {k : Int → S → Option (Fl γ β ρ × S)} (i : Nat) {z : Int} (hop : PIp X op (ipI g)) (he : Dx X e δ rI m) (hk : ∀ a, Ds X rest (fun s => (δ s).set i (.val (rI a))) on ob δr rt (k a)) (hN : X.N.Nodup) (hs' : ∀ s, (δ s)[i]? = some (.val (rI z)) := by intro _; rfl)
    (hi : X.N[i]? = some x := by rfl) (hx : Loc X.env.scope x := by first | exact Or.inl rfl | exact Or.inr rfl) (hf : X.fn x = true ∨ X.env.scope.names.lookup x = some .local := by first | exact .inl rfl | exact .inr rfl) :
    Ds X (.AugAssign (.Name x px) op e pos :: rest) δ on ob δr rt (bd m fun a => bd (pu (g z a)) k) := by
  intro kc O He H σ s s' fl Dn hm er q
  obtain ⟨a, s1, h1, h2⟩ := bd_some hm
  obtain ⟨v, hv, hr⟩ := er.val (hs' s)
  cases hr
  refine PSSwp (pss_cons (ps_aug hN hi hx (peW X e) hop hf) (pssW X rest)) ⟨.int z, hv, he kc O He H σ s s1 a _ h1 er fun w H1 k1 er1 r1 => ?_⟩
  cases r1
  refine ⟨z, a, rfl, rfl, ?_⟩
  refine hk (g z a) (kc.set fun _ _ => rfl) O He H1 _ s1 s' fl Dn h2 (er1.setv (.inr ⟨_, rfl, .int _⟩)) (q.then' ⟨k1, fun b z => ?_⟩)
  rw [kc.ow s s1]
  exact .inl (ow_val (fun c z => by cases z) z)
/-- a, b = e1, e2: two values -/
theorem Ds.par {κ1 κ2 : Type} {r1 : κ1 → D} {r2 : κ2 → D} {m1 : S → Option (κ1 × S)} {m2 : S → Option (κ2 × S)} {k : κ1 → κ2 → S → Option (Fl γ β ρ × S)} {kt k2 : Nat} {pt2 : Pos} (i j : Nat) (h1 : Dx X e1 δ r1 m1) (h2 : Dx X e2 δ r2 m2) (hk : ∀ a b, Ds X rest (fun s => ((δ s).set i (.val (r1 a))).set j (.val (r2 b))) on ob δr rt (k a b)) (hc : X.calm = true) (hN : X.N.Nodup)
    (hi : X.N[i]? = some x := by rfl) (hj : X.N[j]? = some y := by rfl) (hij : i ≠ j := by decide) (hx : X.env.scope.names.lookup x = some .local := by rfl) (hy : X.env.scope.names.lookup y = some .local := by rfl)
    (hst : starEach [e1, e2] X.env = (false, eval e1 X.env) :: starEach [e2] X.env := by rfl) (hst2 : starEach [e2] X.env = (false, eval e2 X.env) :: starEach [] X.env := by rfl)
    (hw : swappedStores [.Tuple [.Name x px, .Name y py] kt pt] (.Tuple [e1, e2] k2 pt2) X.env = pure (some [x, y]) := by rfl) (hs : swapsWithSole [.Tuple [.Name x px, .Name y py] kt pt] (.Tuple [e1, e2] k2 pt2) pos.line X.env = pure false := by rfl) :
    Ds X (.Assign [.Tuple [.Name x px, .Name y py] kt pt] (.Tuple [e1, e2] k2 pt2) pos :: rest) δ on ob δr rt (bd m1 fun a => bd m2 fun b => k a b) := by
  intro kc O He H σ s s' fl Dn hm er q
  obtain ⟨a, s1, g1, hm⟩ := bd_some hm
  obtain ⟨b, s2, g2, hm⟩ := bd_some hm
  refine PSSwp (pss_cons (ps_par hc hN hi hj hij hx hy (pa_cons (peW X e1) (pa_cons (peW X e2) pa_nil hst2) hst) hw hs) (pssW X rest)) (two h1 (fun _ => h2) kc g1 g2 er fun v w H1 k1 er1 rv rw' => ?_)
  refine ⟨v, w, rfl, ?_⟩
  rw [kc.msk s s2] at rv rw'
  have e1 := er1.setv (i := i) (.inr ⟨_, rfl, rv⟩)
  have l1 : ∀ c, msk O (σ.set i (some v)) ((δ s2).set i (.val (r1 a))) c → msk O σ (δ s2) c := fun c z => by
    rcases z with z | z
    · exact .inl z
    · exact .inr (ow_val (fun c z => by cases z) z)
  have e2 := e1.setv (i := j) (.inr ⟨_, rfl, rw'.mono (mask_same fun c o n e => ⟨fun z => n (l1 c z), e⟩)⟩)
  refine hk a b ((kc.set fun _ _ => rfl).set fun _ _ => rfl) O He H1 _ s2 s' fl Dn hm e2 (q.then' ⟨k1, fun c z => ?_⟩)
  have z1 := ow_val (fun c z => by cases z) z
  have z2 := ow_val (fun c z => by cases z) z1
  rw [kc.ow s s2]
  exact .inl z2
/-- a, b = [..], e2: a cell of one's own, a value -/
theorem Ds.parO {κ1 κ2 : Type} {c1 : κ1 → Cell} {r2 : κ2 → D} {m1 : S → Option (κ1 × S)} {m2 : S → Option (κ2 × S)} {k : κ1 → κ2 → S → Option (Fl γ β ρ × S)} {kt k2 : Nat} {pt2 : Pos} (i j : Nat) (h1 : Fx X e1 δ c1 m1) (h2 : Dx X e2 δ r2 m2) (hk : ∀ a b, Ds X rest (fun s => ((δ s).set i (.own (c1 a))).set j (.val (r2 b))) on ob δr rt (k a b)) (hc : X.calm = true) (hN : X.N.Nodup)
    (hi : X.N[i]? = some x := by rfl) (hj : X.N[j]? = some y := by rfl) (hij : i ≠ j := by decide) (hx : X.env.scope.names.lookup x = some .local := by rfl) (hy : X.env.scope.names.lookup y = some .local := by rfl)
    (hst : starEach [e1, e2] X.env = (false, eval e1 X.env) :: starEach [e2] X.env := by rfl) (hst2 : starEach [e2] X.env = (false, eval e2 X.env) :: starEach [] X.env := by rfl)
    (hw : swappedStores [.Tuple [.Name x px, .Name y py] kt pt] (.Tuple [e1, e2] k2 pt2) X.env = pure (some [x, y]) := by rfl) (hs : swapsWithSole [.Tuple [.Name x px, .Name y py] kt pt] (.Tuple [e1, e2] k2 pt2) pos.line X.env = pure false := by rfl) (hct : ∀ a p, (c1 a).tag p := by intro _ _; trivial) :
    Ds X (.Assign [.Tuple [.Name x px, .Name y py] kt pt] (.Tuple [e1, e2] k2 pt2) pos :: rest) δ on ob δr rt (bd m1 fun a => bd m2 fun b => k a b) := by
  intro kc O He H σ s s' fl Dn hm er q
  obtain ⟨a, s1, g1, hm⟩ := bd_some hm
  obtain ⟨b, s2, g2, hm⟩ := bd_some hm
  refine PSSwp (pss_cons (ps_par hc hN hi hj hij hx hy (pa_cons (peW X e1) (pa_cons (peW X e2) pa_nil hst2) hst) hw hs) (pssW X rest)) (h1 kc O He H σ s s1 a _ g1 er fun p o H1 hp0 np k1 er1 ho hcl => ?_)
  refine h2 kc _ He H1 σ s1 s2 b _ g2 er1 fun w H2 k2 er2 rw' => ⟨.ref p, w, rfl, ?_⟩
  rw [kc.ow s1 s] at k2
  have nw : ¬ ow σ (δ s) p := fun ⟨j, z⟩ => er1.disj j p (kc.at z) (.inr rfl)
  have ho2 := k2.at' p o nw ho
  have hcl2 := hcl.mono k2.mask
  rw [kc.msk s s2] at hcl2
  rw [kc.msk s1 s2] at rw'
  have e1 := er2.seto (i := i) np (er.same.free hp0) ho2 hcl2 (hct a p)
  have l1 : ∀ c, msk O (σ.set i (some (.ref p))) ((δ s2).set i (.own (c1 a))) c → msk (fun a => O a ∨ a = p) σ (δ s2) c := fun c z => by
    rcases z with z | ⟨j, z⟩
    · exact .inl (.inl z)
    · rcases own_set_own z with ⟨_, z⟩ | ⟨_, z⟩
      · exact .inl (.inr z)
      · exact .inr ⟨j, z⟩
  have e2 := e1.setv (i := j) (.inr ⟨_, rfl, rw'.mono (mask_same fun c o n e => ⟨fun z => n (l1 c z), e⟩)⟩)
  refine hk a b ((kc.set fun _ _ => rfl).set fun _ _ => rfl) O He H2 _ s2 s' fl Dn hm e2 (q.then' ⟨k1.trans k2, fun c z => ?_⟩)
  have z1 := ow_val (fun c z => by cases z) z
  obtain ⟨j, z1⟩ := z1
  rcases own_set_own z1 with ⟨_, z⟩ | ⟨_, z⟩
  · exact .inr (z ▸ hp0)
  · rw [kc.ow s s2]; exact .inl ⟨j, z⟩
end

/-! ### which data are alike only if the same -/
section
variable {α β γ : Type}
theorem layAll {r : α → D} {n : Nat} [Dep r n] : ∀ xs : List α, PyData.canLayAll0 (xs.map r) = true ∧ PyData.depthAll (xs.map r) ≤ n
  | [] => ⟨by simp [PyData.canLayAll0], by simp [PyData.depthAll]⟩
  | x :: xs => by
    have h1 := Dep.lay (r := r) x
    have h2 := Dep.dep (r := r) x
    obtain ⟨h3, h4⟩ := layAll (r := r) xs
    constructor
    · simp [PyData.canLayAll0, h1, h3]
    · simp only [List.map_cons, PyData.depthAll]
      omega
theorem eqvAll_map {r : α → D} [DecidableEq α] [Eqv r] : ∀ xs ys : List α, PyData.eqvAll (xs.map r) (ys.map r) = decide (xs = ys)
  | [], [] => by simp [PyData.eqvAll]
  | [], _ :: _ => by simp [PyData.eqvAll]
  | _ :: _, [] => by simp [PyData.eqvAll]
  | x :: xs, y :: ys => by
    simp only [List.map_cons, PyData.eqvAll, Eqv.eq, eqvAll_map xs ys]
    rw [← Bool.decide_and]
    simp
instance : Dep rI 0 := ⟨fun _ => rfl, fun _ => Nat.le_refl _⟩
instance : Dep rB 0 := ⟨fun _ => rfl, fun _ => Nat.le_refl _⟩
instance {r : α → D} {n : Nat} [Dep r n] : Dep (rL r) (n + 1) := ⟨fun xs => by simp only [rL, PyData.canLay0]; exact (layAll xs).1, fun xs => by simp only [rL, PyData.depth]; exact Nat.succ_le_succ (layAll xs).2⟩
instance {r : α → D} {n : Nat} [Dep r n] : Dep (rT r) (n + 1) := ⟨fun xs => by simp only [rT, PyData.canLay0]; exact (layAll xs).1, fun xs => by simp only [rT, PyData.depth]; exact Nat.succ_le_succ (layAll xs).2⟩
instance {r : α → D} {t : β → D} {n k : Nat} [Dep r n] [Dep t k] : Dep (r2 r t) (n + k + 1) := ⟨fun p => by simp [r2, PyData.canLay0, PyData.canLayAll0, Dep.lay (r := r), Dep.lay (r := t)], fun p => by
  have h1 := Dep.dep (r := r) p.1
  have h2 := Dep.dep (r := t) p.2
  simp only [r2, PyData.depth, PyData.depthAll]
  omega⟩
instance {r : α → D} {t : β → D} {u : γ → D} {n k l : Nat} [Dep r n] [Dep t k] [Dep u l] : Dep (r3 r t u) (n + k + l + 1) := ⟨fun p => by simp [r3, PyData.canLay0, PyData.canLayAll0, Dep.lay (r := r), Dep.lay (r := t), Dep.lay (r := u)], fun p => by
  have h1 := Dep.dep (r := r) p.1
  have h2 := Dep.dep (r := t) p.2.1
  have h3 := Dep.dep (r := u) p.2.2
  simp only [r3, PyData.depth, PyData.depthAll]
  omega⟩
instance {r : α → D} {n : Nat} [Dep r n] : Dep (rO r) n := ⟨fun o => by
  cases o with
  | none => rfl
  | some a => exact Dep.lay a, fun o => by
  cases o with
  | none => exact Nat.zero_le _
  | some a => exact Dep.dep a⟩
instance : Eqv rI := ⟨fun a b => by simp only [PyData.eqv]; rw [Bool.beq_eq_decide_eq]⟩
instance : Eqv rB := ⟨fun a b => by simp only [PyData.eqv]; rw [Bool.beq_eq_decide_eq]⟩
instance [DecidableEq α] {r : α → D} [Eqv r] : Eqv (rL r) := ⟨fun a b => by simp only [rL, PyData.eqv]; exact eqvAll_map a b⟩
instance [DecidableEq α] {r : α → D} [Eqv r] : Eqv (rT r) := ⟨fun a b => by simp only [rT, PyData.eqv]; exact eqvAll_map a b⟩
instance [DecidableEq α] [DecidableEq β] {r : α → D} {t : β → D} [Eqv r] [Eqv t] : Eqv (r2 r t) := ⟨fun a b => by
  obtain ⟨a1, a2⟩ := a
  obtain ⟨b1, b2⟩ := b
  simp only [r2, PyData.eqv, PyData.eqvAll, Eqv.eq]
  by_cases h1 : a1 = b1 <;> by_cases h2 : a2 = b2 <;> simp [h1, h2]⟩
instance [DecidableEq α] [DecidableEq β] [DecidableEq γ] {r : α → D} {t : β → D} {u : γ → D} [Eqv r] [Eqv t] [Eqv u] : Eqv (r3 r t u) := ⟨fun a b => by
  obtain ⟨a1, a2, a3⟩ := a
  obtain ⟨b1, b2, b3⟩ := b
  simp only [r3, PyData.eqv, PyData.eqvAll, Eqv.eq]
  by_cases h1 : a1 = b1 <;> by_cases h2 : a2 = b2 <;> by_cases h3 : a3 = b3 <;> simp [h1, h2, h3]⟩
instance : NN rI := ⟨fun h => by cases h⟩
instance : NN rB := ⟨fun h => by cases h⟩
instance : NN rS := ⟨fun h => by cases h⟩
instance {r : α → D} : NN (rL r) := ⟨fun h => by cases h⟩
instance {r : α → D} : NN (rT r) := ⟨fun h => by cases h⟩
instance {r : α → D} {t : β → D} : NN (r2 r t) := ⟨fun h => by cases h⟩
instance {r : α → D} {t : β → D} {u : γ → D} : NN (r3 r t u) := ⟨fun h => by cases h⟩
end
end DL

namespace DL
open PySem PySem.Spec L2
section
variable {S α β γ κ ρ : Type} {X : Cx} {e e1 e2 ix : Expr} {es : List Expr} {ss rest : List Stmt} {δ : S → Sl} {on : γ → S → Sl} {ob : β → S → Sl} {δr : S → Sl} {rt : RT ρ} {pos px py pt p p2 p3 apos cpos tpos : Pos} {x y : Str} {k : Nat} {r : α → D}
theorem Bx.two {ra : α → D} {rb : β → D} {ma : S → Option (List α × S)} {mb : S → Option (List β × S)} (ha : Bx X e1 δ ra ma) (hb : Bx X e2 δ rb mb) (kc : KC δ) {O : Addr → Prop} {He H : Hp} {σ : L2.St} {s s1 s2 : S} {a : List α} {b : List β} {R : V → V → Hp → Prop}
    (h1 : ma s = some (a, s1)) (h2 : mb s1 = some (b, s2)) (er : ER X.K O He H σ (δ s))
    (q : ∀ x y H', Keep (ow σ (δ s)) H H' → ER X.K O He H' σ (δ s2) → LsOk X.K (msk O σ (δ s)) H' x (a.map ra) → LsOk X.K (msk O σ (δ s)) H' y (b.map rb) → R x y H') :
    wpE X e1 σ H fun x H1 => wpE X e2 σ H1 fun y H2 => R x y H2 := by
  refine ha kc O He H σ s s1 a _ h1 er fun x H1 k1 er1 r1 => ?_
  refine hb kc O He H1 σ s1 s2 b _ h2 er1 fun y H2 k2 er2 r2 => ?_
  rw [kc.ow s1 s] at k2 r2
  rw [kc.msk s1 s] at r2
  exact q x y H2 (k1.trans k2) er2 (r1 s2 H2 k2 er2) (r2 s2 H2 .refl er2)
theorem LsOk.dp {K : Frag} {O : Addr → Prop} {H : Hp} {v : V} {n : Nat} [Dep r n] {xs : List α} (h : LsOk K O H v (xs.map r)) : Dp K H v (rL r xs) := by
  obtain ⟨p, vs, rfl, hp, hr⟩ := h
  exact .lst (SqL.of hp) ((hr.mono mask_le).dp (layAll xs).1)
section
variable [DecidableEq α] {n : Nat} [Dep r n] [Eqv r] {ma mb : S → Option (List α × S)}
theorem Bx.eqC {op : CmpOp} {neg : Bool} (hr : OpR X (compareOp op) (fun x y H Q => ∃ d e, Dp X.K H x d ∧ Dp X.K H y e ∧ SeqAt.shaped d = true ∧ SeqAt.shaped e = true ∧ Q (.bl (neg ^^ PyData.eqv d e)) H)) (ha : Bx X e1 δ r ma) (hb : Bx X e2 δ r mb) (hn : n + 1 ≤ 64) (hb2 : behindInMarks op e2 = false) :
    Dx X (.Compare e1 [op] [e2] pos) δ rB (bd ma fun x => bd mb fun y => pu (neg ^^ decide (x = y))) ∧ Tx X (.Compare e1 [op] [e2] pos) δ (bd ma fun x => bd mb fun y => pu (neg ^^ decide (x = y))) := by
  constructor
  · intro kc O He H σ s s' c Q hm er q
    obtain ⟨a, s1, h1, hm⟩ := bd_some hm
    obtain ⟨b, s2, h2, hm⟩ := bd_some hm
    obtain ⟨rfl, rfl⟩ := pu_some hm
    refine PEwp (pe_cmpR hr (peW X e1) (peW X e2) hb2) (Bx.two ha hb kc h1 h2 er fun x y H' k er' rx ry => ?_)
    refine ⟨_, _, LsOk.dp rx, LsOk.dp ry, Dep.shaped hn a, Dep.shaped hn b, ?_⟩
    rw [Eqv.eq]
    exact q _ H' k er' (.bl _)
  · intro kc O He H σ s s' c Q hm er q
    obtain ⟨a, s1, h1, hm⟩ := bd_some hm
    obtain ⟨b, s2, h2, hm⟩ := bd_some hm
    obtain ⟨rfl, rfl⟩ := pu_some hm
    refine PTwp (pt_cmpR hr (peW X e1) (peW X e2) hb2) (Bx.two ha hb kc h1 h2 er fun x y H' k er' rx ry => ?_)
    refine ⟨_, _, LsOk.dp rx, LsOk.dp ry, Dep.shaped hn a, Dep.shaped hn b, ?_⟩
    rw [Eqv.eq]
    exact ⟨_, rfl, q H' k er'⟩
theorem op_eqX (hu : X.A.units + 64 < cLine) : OpR X (compareOp .Eq) (fun x y H Q => ∃ d e, Dp X.K H x d ∧ Dp X.K H y e ∧ SeqAt.shaped d = true ∧ SeqAt.shaped e = true ∧ Q (.bl (false ^^ PyData.eqv d e)) H) := fun pins s σ H x y v u Q I rx ry ⟨d, e, h1, h2, h3, h4, q⟩ =>
  op_eqD hu pins s σ H x y v u Q I rx ry ⟨d, e, h1, h2, h3, h4, by rw [Bool.false_xor] at q; exact q⟩
theorem op_neX (hu : X.A.units + 64 < cLine) : OpR X (compareOp .NotEq) (fun x y H Q => ∃ d e, Dp X.K H x d ∧ Dp X.K H y e ∧ SeqAt.shaped d = true ∧ SeqAt.shaped e = true ∧ Q (.bl (true ^^ PyData.eqv d e)) H) := fun pins s σ H x y v u Q I rx ry ⟨d, e, h1, h2, h3, h4, q⟩ =>
  op_neD hu pins s σ H x y v u Q I rx ry ⟨d, e, h1, h2, h3, h4, by rw [Bool.true_xor] at q; exact q⟩
theorem Bx.eq (hr : Room k X.A) (ha : Bx X e1 δ r ma) (hb : Bx X e2 δ r mb) (hn : n + 1 ≤ 64 := by decide) : Dx X (.Compare e1 [.Eq] [e2] pos) δ rB (bd ma fun x => bd mb fun y => pu (decide (x = y))) := by
  have h := (Bx.eqC (pos := pos) (op_eqX hr.units) ha hb hn (nomark _)).1
  simpa only [Bool.false_xor] using h
theorem BxT.eq (hr : Room k X.A) (ha : Bx X e1 δ r ma) (hb : Bx X e2 δ r mb) (hn : n + 1 ≤ 64 := by decide) : Tx X (.Compare e1 [.Eq] [e2] pos) δ (bd ma fun x => bd mb fun y => pu (decide (x = y))) := by
  have h := (Bx.eqC (pos := pos) (op_eqX hr.units) ha hb hn (nomark _)).2
  simpa only [Bool.false_xor] using h
theorem Bx.ne (hr : Room k X.A) (ha : Bx X e1 δ r ma) (hb : Bx X e2 δ r mb) (hn : n + 1 ≤ 64 := by decide) : Dx X (.Compare e1 [.NotEq] [e2] pos) δ rB (bd ma fun x => bd mb fun y => pu (!decide (x = y))) := by
  have h := (Bx.eqC (pos := pos) (op_neX hr.units) ha hb hn (nomark _)).1
  simpa only [Bool.true_xor] using h
theorem BxT.ne (hr : Room k X.A) (ha : Bx X e1 δ r ma) (hb : Bx X e2 δ r mb) (hn : n + 1 ≤ 64 := by decide) : Tx X (.Compare e1 [.NotEq] [e2] pos) δ (bd ma fun x => bd mb fun y => pu (!decide (x = y))) := by
  have h := (Bx.eqC (pos := pos) (op_neX hr.units) ha hb hn (nomark _)).2
  simpa only [Bool.true_xor] using h
end
/-! in, not in, of a list -/
section
variable [DecidableEq α] {n : Nat} [Dep r n] [Eqv r] {ma : S → Option (α × S)} {mb : S → Option (List α × S)}
theorem any_eqv (a : α) (xs : List α) : ((xs.map r).any fun z => PyData.eqv z (r a)) = decide (a ∈ xs) := by
  induction xs with
  | nil => simp
  | cons x xs ih =>
    rw [List.map_cons, List.any_cons, ih, Eqv.eq]
    by_cases h : x = a
    · simp [h]
    · have h' : ¬ a = x := fun e => h e.symm
      simp [h, h']
theorem inW {R : V → V → Hp → Prop} (ha : Dx X e1 δ r ma) (hb : Bx X e2 δ r mb) (kc : KC δ) {O : Addr → Prop} {He H : Hp} {σ : L2.St} {s s1 s2 : S} {a : α} {b : List α} (h1 : ma s = some (a, s1)) (h2 : mb s1 = some (b, s2)) (er : ER X.K O He H σ (δ s)) (hn : n + 1 ≤ 64)
    (q : ∀ x y H', Keep (ow σ (δ s)) H H' → ER X.K O He H' σ (δ s2) → Dp X.K H' x (r a) → Dp X.K H' y (.list (b.map r)) → SeqAt.shaped (r a) = true → SeqAt.shaped (.list (b.map r)) = true → R x y H') :
    wpE X e1 σ H fun x H1 => wpE X e2 σ H1 fun y H2 => R x y H2 := by
  refine ha kc O He H σ s s1 a _ h1 er fun x H1 k1 er1 r1 => ?_
  refine hb kc O He H1 σ s1 s2 b _ h2 er1 fun y H2 k2 er2 r2 => ?_
  rw [kc.ow s1 s] at k2 r2
  rw [kc.msk s1 s] at r2
  exact q x y H2 (k1.trans k2) er2 (((r1.mono k2.mask).mono mask_le).dp (Dep.lay a)) (LsOk.dp (r2 s2 H2 .refl er2)) (Dep.shaped (by omega) a) (Dep.shaped (r := rL r) hn b)
theorem units65 {k : Nat} {A : Around} (hr : Room k A) : A.units + 65 < cLine := by have := hr.un; omega
theorem Dx.inL (hr : Room k X.A) (ha : Dx X e1 δ r ma) (hb : Bx X e2 δ r mb) (hn : n + 1 ≤ 64 := by decide) (hm : behindInMarks .In e2 = false := by rfl) : Dx X (.Compare e1 [.In] [e2] pos) δ rB (bd ma fun x => bd mb fun xs => pu (decide (x ∈ xs))) := by
  intro kc O He H σ s s' c Q hm' er q
  obtain ⟨a, s1, h1, hm'⟩ := bd_some hm'
  obtain ⟨b, s2, h2, hm'⟩ := bd_some hm'
  obtain ⟨rfl, rfl⟩ := pu_some hm'
  refine PEwp (pe_cmpR (op_inD (units65 hr)) (peW X e1) (peW X e2) hm) (inW ha hb kc h1 h2 er hn fun x y H' k er' dx dy sx sy => ⟨_, _, dx, dy, sx, sy, ?_⟩)
  rw [any_eqv]
  exact q _ H' k er' (.bl _)
theorem Tx.inL (hr : Room k X.A) (ha : Dx X e1 δ r ma) (hb : Bx X e2 δ r mb) (hn : n + 1 ≤ 64 := by decide) (hm : behindInMarks .In e2 = false := by rfl) : Tx X (.Compare e1 [.In] [e2] pos) δ (bd ma fun x => bd mb fun xs => pu (decide (x ∈ xs))) := by
  intro kc O He H σ s s' c Q hm' er q
  obtain ⟨a, s1, h1, hm'⟩ := bd_some hm'
  obtain ⟨b, s2, h2, hm'⟩ := bd_some hm'
  obtain ⟨rfl, rfl⟩ := pu_some hm'
  refine PTwp (pt_cmpR (op_inD (units65 hr)) (peW X e1) (peW X e2) hm) (inW ha hb kc h1 h2 er hn fun x y H' k er' dx dy sx sy => ⟨_, _, dx, dy, sx, sy, ?_⟩)
  rw [any_eqv]
  exact ⟨_, rfl, q H' k er'⟩
theorem Dx.notInL (hr : Room k X.A) (ha : Dx X e1 δ r ma) (hb : Bx X e2 δ r mb) (hn : n + 1 ≤ 64 := by decide) (hm : behindInMarks .NotIn e2 = false := by rfl) : Dx X (.Compare e1 [.NotIn] [e2] pos) δ rB (bd ma fun x => bd mb fun xs => pu (!decide (x ∈ xs))) := by
  intro kc O He H σ s s' c Q hm' er q
  obtain ⟨a, s1, h1, hm'⟩ := bd_some hm'
  obtain ⟨b, s2, h2, hm'⟩ := bd_some hm'
  obtain ⟨rfl, rfl⟩ := pu_some hm'
  refine PEwp (pe_cmpR (op_notInD (units65 hr)) (peW X e1) (peW X e2) hm) (inW ha hb kc h1 h2 er hn fun x y H' k er' dx dy sx sy => ⟨_, _, dx, dy, sx, sy, ?_⟩)
  rw [any_eqv]
  exact q _ H' k er' (.bl _)
theorem Tx.notInL (hr : Room k X.A) (ha : Dx X e1 δ r ma) (hb : Bx X e2 δ r mb) (hn : n + 1 ≤ 64 := by decide) (hm : behindInMarks .NotIn e2 = false := by rfl) : Tx X (.Compare e1 [.NotIn] [e2] pos) δ (bd ma fun x => bd mb fun xs => pu (!decide (x ∈ xs))) := by
  intro kc O He H σ s s' c Q hm' er q
  obtain ⟨a, s1, h1, hm'⟩ := bd_some hm'
  obtain ⟨b, s2, h2, hm'⟩ := bd_some hm'
  obtain ⟨rfl, rfl⟩ := pu_some hm'
  refine PTwp (pt_cmpR (op_notInD (units65 hr)) (peW X e1) (peW X e2) hm) (inW ha hb kc h1 h2 er hn fun x y H' k er' dx dy sx sy => ⟨_, _, dx, dy, sx, sy, ?_⟩)
  rw [any_eqv]
  exact ⟨_, rfl, q H' k er'⟩
end
/-! t < u of tuples of ints -/
/-- r a is a tuple of the ints f a -/
class Ints (r : α → D) (f : outParam (α → List Int)) : Prop where
  eq : ∀ a, r a = .tuple ((f a).map rI)
instance : Ints (r2 rI rI) (fun p => [p.1, p.2]) := ⟨fun _ => rfl⟩
instance : Ints (r3 rI rI rI) (fun p => [p.1, p.2.1, p.2.2]) := ⟨fun _ => rfl⟩
instance : Ints (r4 rI rI rI rI) (fun p => [p.1, p.2.1, p.2.2.1, p.2.2.2]) := ⟨fun _ => rfl⟩
instance : Ints (rT rI) (fun p => p) := ⟨fun _ => rfl⟩
theorem op2LtT {f : α → List Int} [Ints r f] : Op2 X (rLtT X.K) r r rB (fun a b => some (HT.lexLt (f a) (f b))) := by
  intro O x y a b c H Q h3 rx ry q
  cases h3
  rw [Ints.eq (r := r) (f := f)] at rx ry
  cases rx with
  | tup h1 h2 =>
    cases ry with
    | tup h4 h5 =>
      rw [Vints h2] at h1
      rw [Vints h5] at h4
      exact ⟨_, _, f a, f b, rfl, rfl, Same.sqt mask_le h1, Same.sqt mask_le h4, q _ H (Same.refl H) (.bl _)⟩
theorem Dx.ltT {f : α → List Int} [Ints r f] {ma mb : S → Option (α × S)} (hr : Room k X.A) (ha : Dx X e1 δ r ma) (hb : Dx X e2 δ r mb) : Dx X (.Compare e1 [.Lt] [e2] pos) δ rB (bd ma fun x => bd mb fun y => pu (HT.lexLt (f x) (f y))) := Dx.cmp (op_ltT hr.units0) op2LtT ha hb (nomark _)
theorem Tx.ltT {f : α → List Int} [Ints r f] {ma mb : S → Option (α × S)} (hr : Room k X.A) (ha : Dx X e1 δ r ma) (hb : Dx X e2 δ r mb) : Tx X (.Compare e1 [.Lt] [e2] pos) δ (bd ma fun x => bd mb fun y => pu (HT.lexLt (f x) (f y))) := Tx.cmp (op_ltT hr.units0) op2LtT ha hb (nomark _)
/-! isinstance of what is known -/
theorem pa2 {X : Cx} {a b : Expr} (hs : starEach [a, b] X.env = (false, eval a X.env) :: starEach [b] X.env) (hs2 : starEach [b] X.env = (false, eval b X.env) :: starEach [] X.env) {tb : TE} (hb : PE X b tb) : PA X [a, b] (tCons (wpE X a) (tCons tb tNil)) := pa_cons (peW X a) (pa_cons hb pa_nil hs2) hs
def IsT (r : α → D) (T : String) (b : Bool) : Prop := ∀ (K : Frag) (G : Hp) (v : V) (a : α), Rp K G v (r a) → ∃ t, TyX K G v t ∧ PySem.W.kitOne K t (.type T) = some b
theorem Dx.isinst {ma : S → Option (α × S)} {T : String} {b : Bool} {z : Str} (hT : IsT r T b) (hm : X.mg "isinstance" = .none) (hmz : X.mg z = .none) (ha : Dx X e1 δ r ma) (hz : bootBuiltins z = some (.type T)) (hg : Gl X "isinstance" := by rfl) (hgz : Gl X z := by rfl) (hnz : z ≠ "__name__" := by decide) (hdz : (z == ("__debug__" : Str)) = false := by decide)
    (hs : starEach [e1, .Name z p2] X.env = (false, eval e1 X.env) :: starEach [.Name z p2] X.env := by rfl) (hs2 : starEach [.Name z p2] X.env = (false, eval (.Name z p2) X.env) :: starEach [] X.env := by rfl) (hpl : (backTo pos (starEach [.Name z p2] X.env)).any (·.1) = false := by rfl) :
    Dx X (.Call (.Name "isinstance" p) [e1, .Name z p2] [] pos) δ rB (bd ma fun _ => pu b) := by
  intro kc O He H σ s s' c Q hm' er q
  obtain ⟨a, s1, h1, hm'⟩ := bd_some hm'
  obtain ⟨rfl, rfl⟩ := pu_some hm'
  refine PEwp (pe_callB call_isi hg hm (by decide +kernel) (pa2 hs hs2 (pe_bltn (v := .ty T) hgz hmz hz rfl hnz hdz)) (by decide) (by decide) hs hpl) (ha kc O He H σ s s' a _ h1 er fun v H1 k1 er1 r1 => ?_)
  obtain ⟨t, ht, hk⟩ := hT _ _ v a (r1.mono mask_le)
  exact ⟨v, .ty T, t, .type T, c, rfl, .ty T, ht, hk, q _ H1 k1 er1 (.bl _)⟩

theorem Ds.stuck : Ds X ss δ on ob δr rt (fun _ => Option.none) := by
  intro kc O He H σ s s' fl Dn hm er q
  cases hm
theorem Dx.stuck : Dx X e δ r (fun _ => Option.none) := by
  intro kc O He H σ s s' fl Dn hm er q
  cases hm
/-! what is known of one datum -/
/-- the datum d, always -/
abbrev rK (d : D) : Unit → D := fun _ => d
theorem Tx.isNK {ma : S → Option (α × S)} {b : Bool} {j : Nat} (h : Dx X e δ r ma) (hb : ∀ (K : Frag) (G : Hp) (v : V) (a : α), Rp K G v (r a) → decide (v = .non) = b) : Tx X (.Compare e [.Is] [.Constant .none j p2] pos) δ (bd ma fun _ => pu b) := by
  intro kc O He H σ s s' c Q hm er q
  obtain ⟨a, s1, h1, hm⟩ := bd_some hm
  obtain ⟨rfl, rfl⟩ := pu_some hm
  refine PTwp (pt_cmp (pc_isN (peW X e)) (nomark _)) (h kc O He H σ s s' a _ h1 er fun v H1 k1 er1 r1 => ?_)
  rw [hb _ _ v a r1]
  exact ⟨_, rfl, q H1 k1 er1⟩
theorem Dx.isNK {ma : S → Option (α × S)} {b : Bool} {j : Nat} (h : Dx X e δ r ma) (hb : ∀ (K : Frag) (G : Hp) (v : V) (a : α), Rp K G v (r a) → decide (v = .non) = b) : Dx X (.Compare e [.Is] [.Constant .none j p2] pos) δ rB (bd ma fun _ => pu b) := by
  intro kc O He H σ s s' c Q hm er q
  obtain ⟨a, s1, h1, hm⟩ := bd_some hm
  obtain ⟨rfl, rfl⟩ := pu_some hm
  refine PEwp (pe_cmp (pc_isN (peW X e)) (nomark _)) (h kc O He H σ s s' a _ h1 er fun v H1 k1 er1 r1 => ?_)
  rw [hb _ _ v a r1]
  exact q _ H1 k1 er1 (.bl _)
theorem is_bool {M : Model} {A : Around} {E : Value → Shared → Prop} {s : Shared} {x : V} {v : Value} {b : Bool} {Q : Value → Shared → Prop} (r : RelV x v) (h : Q (.bool (v == .bool b)) s) : wpAny M A (compareOp .Is v (.bool b)) Q E s := by
  cases x with
  | non => cases r; exact wpAny_is_plain rfl h
  | bl c => cases r; exact wpAny_is_plain rfl h
  | int _ => obtain ⟨t, rfl⟩ := r; exact wpAny_is_plain rfl h
  | str _ => obtain ⟨t, rfl⟩ := r; exact wpAny_is_plain rfl h
  | byt _ => obtain ⟨t, rfl⟩ := r; exact wpAny_is_plain rfl h
  | flt _ => obtain ⟨t, rfl⟩ := r; exact wpAny_is_plain rfl h
  | ref _ => cases r; exact wpAny_is_plain rfl h
  | ty _ => cases r; exact wpAny_is_plain rfl h
theorem RelV.bool_iff {x : V} {v : Value} {b : Bool} (r : RelV x v) : (v == Value.bool b) = decide (x = .bl b) := by
  cases x with
  | non => cases r; rfl
  | bl c =>
    cases r
    by_cases e : c = b
    · subst e; simp
    · have h1 : ¬ Value.bool c = Value.bool b := fun z => e (Value.bool.inj z)
      have h2 : ¬ V.bl c = V.bl b := fun z => e (V.bl.inj z)
      rw [decide_eq_false h2]
      exact beq_eq_false_iff_ne.mpr h1
  | int _ => obtain ⟨t, rfl⟩ := r; rfl
  | str _ => obtain ⟨t, rfl⟩ := r; rfl
  | byt _ => obtain ⟨t, rfl⟩ := r; rfl
  | flt _ => obtain ⟨t, rfl⟩ := r; rfl
  | ref _ => cases r; rfl
  | ty _ => cases r; rfl
theorem op_isBoolC : OpR X (compareOp .Is) (fun x y H Q => ∃ b, y = .bl b ∧ Q (.bl (decide (x = .bl b))) H) := by
  intro pins s σ H x y v u Q I rx ry h
  obtain ⟨b, rfl, q⟩ := h
  cases ry
  exact is_bool rx ⟨.bl _, H, I, by rw [DL.RelV.bool_iff rx]; rfl, q⟩
theorem Tx.isBK {ma : S → Option (α × S)} {b z : Bool} {j : Nat} (h : Dx X e δ r ma) (hb : ∀ (K : Frag) (G : Hp) (v : V) (a : α), Rp K G v (r a) → decide (v = .bl z) = b) : Tx X (.Compare e [.Is] [.Constant (.bool z) j p2] pos) δ (bd ma fun _ => pu b) := by
  intro kc O He H σ s s' c Q hm er q
  obtain ⟨a, s1, h1, hm⟩ := bd_some hm
  obtain ⟨rfl, rfl⟩ := pu_some hm
  refine PTwp (pt_cmpR op_isBoolC (peW X e) pe_bl (nomark _)) (h kc O He H σ s s' a _ h1 er fun v H1 k1 er1 r1 => ⟨z, rfl, ?_⟩)
  rw [hb _ _ v a r1]
  exact ⟨_, rfl, q H1 k1 er1⟩
theorem Dx.isBK {ma : S → Option (α × S)} {b z : Bool} {j : Nat} (h : Dx X e δ r ma) (hb : ∀ (K : Frag) (G : Hp) (v : V) (a : α), Rp K G v (r a) → decide (v = .bl z) = b) : Dx X (.Compare e [.Is] [.Constant (.bool z) j p2] pos) δ rB (bd ma fun _ => pu b) := by
  intro kc O He H σ s s' c Q hm er q
  obtain ⟨a, s1, h1, hm⟩ := bd_some hm
  obtain ⟨rfl, rfl⟩ := pu_some hm
  refine PEwp (pe_cmpR op_isBoolC (peW X e) pe_bl (nomark _)) (h kc O He H σ s s' a _ h1 er fun v H1 k1 er1 r1 => ⟨z, rfl, ?_⟩)
  rw [hb _ _ v a r1]
  exact q _ H1 k1 er1 (.bl _)
/-- x is True, x a bool -/
theorem Tx.isB {ma : S → Option (Bool × S)} {z : Bool} {j : Nat} (h : Dx X e δ rB ma) : Tx X (.Compare e [.Is] [.Constant (.bool z) j p2] pos) δ (bd ma fun a => pu (decide (a = z))) := by
  intro kc O He H σ s s' c Q hm er q
  obtain ⟨a, s1, h1, hm⟩ := bd_some hm
  obtain ⟨rfl, rfl⟩ := pu_some hm
  refine PTwp (pt_cmpR op_isBoolC (peW X e) pe_bl (nomark _)) (h kc O He H σ s s' a _ h1 er fun v H1 k1 er1 r1 => ⟨z, rfl, ?_⟩)
  cases r1
  have e : decide (V.bl a = V.bl z) = decide (a = z) := by
    by_cases e : a = z
    · subst e; simp
    · rw [decide_eq_false e, decide_eq_false fun q => e (V.bl.inj q)]
  rw [e]
  exact ⟨_, rfl, q H1 k1 er1⟩
theorem Dx.isB {ma : S → Option (Bool × S)} {z : Bool} {j : Nat} (h : Dx X e δ rB ma) : Dx X (.Compare e [.Is] [.Constant (.bool z) j p2] pos) δ rB (bd ma fun a => pu (decide (a = z))) := by
  intro kc O He H σ s s' c Q hm er q
  obtain ⟨a, s1, h1, hm⟩ := bd_some hm
  obtain ⟨rfl, rfl⟩ := pu_some hm
  refine PEwp (pe_cmpR op_isBoolC (peW X e) pe_bl (nomark _)) (h kc O He H σ s s' a _ h1 er fun v H1 k1 er1 r1 => ⟨z, rfl, ?_⟩)
  cases r1
  have e : decide (V.bl a = V.bl z) = decide (a = z) := by
    by_cases e : a = z
    · subst e; simp
    · rw [decide_eq_false e, decide_eq_false fun q => e (V.bl.inj q)]
  rw [e]
  exact q _ H1 k1 er1 (.bl _)
/-! kinds -/
theorem isT_ty {T T' : String} {b : Bool} (h : ∀ (K : Frag) (G : Hp) (v : V) (a : α), Rp K G v (r a) → TyX K G v (.type T')) (hk : kitB T' T = some b) : IsT r T b := fun K G v a hv => ⟨_, h K G v a hv, kit_ty hk⟩
theorem tyN (K : Frag) (G : Hp) (v : V) (h : Rp K G v .none) : TyX K G v (.type "NoneType") := by cases h; exact .base .non
theorem tyB (K : Frag) (G : Hp) (v : V) {b : Bool} (h : Rp K G v (.bool b)) : TyX K G v (.type "bool") := by cases h; exact .base (.bl _)
theorem tyI (K : Frag) (G : Hp) (v : V) {b : Int} (h : Rp K G v (.int b)) : TyX K G v (.type "int") := by cases h; exact .base (.int _)
theorem tyS (K : Frag) (G : Hp) (v : V) {b : Str} (h : Rp K G v (.str b)) : TyX K G v (.type "str") := by cases h; exact .base (.str _)
theorem tyL (K : Frag) (G : Hp) (v : V) {b : List D} (h : Rp K G v (.list b)) : TyX K G v (.type "list") := by cases h with | lst h _ => exact .base (.lst h)
theorem tyT (K : Frag) (G : Hp) (v : V) {b : List D} (h : Rp K G v (.tuple b)) : TyX K G v (.type "tuple") := by
  cases h with
  | tup h _ =>
    rcases h with (h | ⟨o, h⟩) | ⟨o, its, n, h, c, _⟩
    · exact .base (.tup h)
    · exact .fTuple h
    · exact .kTuple h c
/-! repr -/
theorem Dx.reprI {m : S → Option (Int × S)} (hm : X.mg "repr" = .none) (ha : Dx X e δ rI m) (hg : Gl X "repr" := by rfl) (he : starEach [e] X.env = (false, eval e X.env) :: starEach [] X.env := by rfl) (hpl : (backTo pos (starEach [] X.env)).any (·.1) = false := by rfl) :
    Dx X (.Call (.Name "repr" p) [e] [] pos) δ rS (bd m fun x => lf (if x.natAbs.log2 < 1920 then some (toString x : Str) else Option.none)) :=
  Dx.callB1 (f := fun x : Int => if x.natAbs.log2 < 1920 then some (toString x : Str) else Option.none) SkE.call_repr_int (fun O x a c H Q h l q => by
    dsimp only at h
    split at h
    · cases h; cases l; exact ⟨a, rfl, by assumption, q _ H (Same.refl H) (.str _)⟩
    · cases h) hm ha (by decide +kernel) hg (by decide) (by decide) he hpl
theorem call_repr_str : CallR X (.builtin "repr") (fun xs H Q => ∃ i, xs = [.str i] ∧ (reprText i).length ≤ sizeLine ∧ Q (.str (reprText i)) H) := by
  intro pins s σ H xs us Q I r h
  obtain ⟨i, rfl, hz, q⟩ := h
  obtain ⟨u, rfl, t, rfl⟩ := vals1 r
  exact PySem.P.repr_of_str ⟨.str _, H, I.tok _, ⟨_, rfl⟩, q⟩ hz
theorem Dx.reprS {m : S → Option (Str × S)} (hm : X.mg "repr" = .none) (ha : Dx X e δ rS m) (hg : Gl X "repr" := by rfl) (he : starEach [e] X.env = (false, eval e X.env) :: starEach [] X.env := by rfl) (hpl : (backTo pos (starEach [] X.env)).any (·.1) = false := by rfl) :
    Dx X (.Call (.Name "repr" p) [e] [] pos) δ rS (bd m fun x => lf (if (reprText x).length ≤ sizeLine then some (reprText x) else Option.none)) :=
  Dx.callB1 (f := fun x : Str => if (reprText x).length ≤ sizeLine then some (reprText x) else Option.none) call_repr_str (fun O x a c H Q h l q => by
    dsimp only at h
    split at h
    · cases h; cases l; exact ⟨a, rfl, by assumption, q _ H (Same.refl H) (.str _)⟩
    · cases h) hm ha (by decide +kernel) hg (by decide) (by decide) he hpl
theorem op2EqS : Op2 X rEq rS rS rB (fun a b => some (decide (a = b))) := by
  intro O x y a b c H Q h3 rx ry q
  cases h3; cases rx; cases ry
  have e : decide (V.str a = V.str b) = decide (a = b) := by
    by_cases e : a = b
    · subst e; simp
    · rw [decide_eq_false e, decide_eq_false fun q => e (V.str.inj q)]
  exact ⟨rfl, by rw [e]; exact q _ H (Same.refl H) (.bl _)⟩
theorem op2NeS : Op2 X rNe rS rS rB (fun a b => some (!decide (a = b))) := by
  intro O x y a b c H Q h3 rx ry q
  cases h3; cases rx; cases ry
  have e : decide (V.str a = V.str b) = decide (a = b) := by
    by_cases e : a = b
    · subst e; simp
    · rw [decide_eq_false e, decide_eq_false fun q => e (V.str.inj q)]
  exact ⟨rfl, by rw [e]; exact q _ H (Same.refl H) (.bl _)⟩
section
variable {ma mb : S → Option (Str × S)}
theorem Dx.eqS (ha : Dx X e1 δ rS ma) (hb : Dx X e2 δ rS mb) : Dx X (.Compare e1 [.Eq] [e2] pos) δ rB (bd ma fun x => bd mb fun y => pu (decide (x = y))) := Dx.cmp op_eq op2EqS ha hb (nomark _)
theorem Tx.eqS (ha : Dx X e1 δ rS ma) (hb : Dx X e2 δ rS mb) : Tx X (.Compare e1 [.Eq] [e2] pos) δ (bd ma fun x => bd mb fun y => pu (decide (x = y))) := Tx.cmp op_eq op2EqS ha hb (nomark _)
theorem Dx.neS (ha : Dx X e1 δ rS ma) (hb : Dx X e2 δ rS mb) : Dx X (.Compare e1 [.NotEq] [e2] pos) δ rB (bd ma fun x => bd mb fun y => pu (!decide (x = y))) := Dx.cmp op_ne op2NeS ha hb (nomark _)
theorem Tx.neS (ha : Dx X e1 δ rS ma) (hb : Dx X e2 δ rS mb) : Tx X (.Compare e1 [.NotEq] [e2] pos) δ (bd ma fun x => bd mb fun y => pu (!decide (x = y))) := Tx.cmp op_ne op2NeS ha hb (nomark _)
end
/-! the script -/
theorem Dx.lenScr (i : Nat) {ns : List Int} (hm : X.mg "len" = .none) (hs' : ∀ s, (δ s)[i]? = some (.scr ns) := by intro _; rfl) (hN : X.N[i]? = some x := by rfl) (hv : Vis X.env.scope x := by first | exact Or.inl rfl | exact Or.inr (Or.inl rfl) | exact Or.inr (Or.inr rfl)) (hd : (x == ("__debug__" : Str)) = false := by decide) (hcd : (x == ("__classdict__" : Str)) = false := by decide)
    (hg : Gl X "len" := by rfl) (he : starEach [.Name x px] X.env = (false, eval (.Name x px) X.env) :: starEach [] X.env := by rfl) (hpl : (backTo pos (starEach [] X.env)).any (·.1) = false := by rfl) : Dx X (.Call (.Name "len" p) [.Name x px] [] pos) δ rI (pu (ns.length : Int)) := by
  intro kc O He H σ s s' c Q hm' er q
  obtain ⟨rfl, rfl⟩ := pu_some hm'
  obtain ⟨u, hu, a, rfl, hsq⟩ := er.slot i _ (hs' s')
  refine PEwp (pe_callB call_len_seq hg hm PySem.boot_len (pa_cons (pe_var hN hv hd hcd) pa_nil he) (by decide) (by decide) he hpl) ⟨_, hu, a, _, rfl, .inl (Same.seq mask_le hsq), ?_⟩
  rw [List.length_map]
  exact q _ H .refl er (.int _)
theorem Dx.ixScr (i : Nat) {ns : List Int} {mi : S → Option (Int × S)} (hi : Dx X e δ rI mi) (hs' : ∀ s, (δ s)[i]? = some (.scr ns) := by intro _; rfl) (hN : X.N[i]? = some x := by rfl) (hv : Vis X.env.scope x := by first | exact Or.inl rfl | exact Or.inr (Or.inl rfl) | exact Or.inr (Or.inr rfl)) (hd : (x == ("__debug__" : Str)) = false := by decide) (hcd : (x == ("__classdict__" : Str)) = false := by decide)
    (hp : PlainIx e := by exact fun _ _ => rfl) : Dx X (.Subscript (.Name x px) e pos) δ rI (bd mi fun j => lf (atI ns j)) := by
  intro kc O He H σ s s' c Q hm' er q
  obtain ⟨j, s1, h1, hm'⟩ := bd_some hm'
  obtain ⟨h3, rfl⟩ := lf_some hm'
  obtain ⟨u, hu, a, rfl, hsq⟩ := er.slot i _ (hs' s)
  refine PEwp (pe_ix ix_list (pe_var hN hv hd hcd) (peW X e) hp) ⟨_, hu, hi kc O He H σ s s' j _ h1 er fun v H1 k1 er1 r1 => ?_⟩
  cases r1
  refine ⟨a, _, j, .int c, rfl, rfl, Same.seq (Same.trans k1.mask mask_le) hsq, ?_, q _ H1 k1 er1 (.int _)⟩
  unfold atI at h3 ⊢
  rw [List.length_map]
  cases hj : ixN ns.length j with
  | none => rw [hj] at h3; cases h3
  | some n =>
    rw [hj] at h3
    have h4 : ns[n]? = some c := h3
    show (ns.map V.int)[n]? = some (V.int c)
    rw [List.getElem?_map, h4]
    rfl
/-! the box: digits, how many are drawn -/
abbrev bxC (ds : List Int) (c : Int) : Cell := .lst [.list (ds.map rI), .int c]
theorem box_at {K : Frag} {G : Hp} {o : HO} {ds : List Int} {c : Int} (h : CellOk K G o (bxC ds c)) : ∃ v, o = .lst [v, .int c] ∧ Rp K G v (.list (ds.map rI)) := by
  obtain ⟨vs, rfl, h⟩ := h
  cases h with
  | cons a b =>
    cases b with
    | cons b d =>
      cases d
      cases b
      exact ⟨_, rfl, a⟩
section
variable {ds : List Int} {δ : Int → Sl} {on : γ → Int → Sl} {ob : β → Int → Sl} {δr : Int → Sl}
/-- box[1] -/
theorem Dx.boxN (tg : Option Addr) (i : Nat) {j : Nat} (hs' : ∀ s, (δ s)[i]? = some (.own (tagC tg (bxC ds s))) := by intro _; rfl) (hN : X.N[i]? = some x := by rfl) (hv : Vis X.env.scope x := by first | exact Or.inl rfl | exact Or.inr (Or.inl rfl) | exact Or.inr (Or.inr rfl)) (hd : (x == ("__debug__" : Str)) = false := by decide) (hcd : (x == ("__classdict__" : Str)) = false := by decide) :
    Dx X (.Subscript (.Name x px) (.Constant (.int 1) j p2) pos) δ rI (fun c => some (c, c)) := by
  intro kc O He H σ s s' c Q hm er q
  cases hm
  obtain ⟨p0, o0, hp0, ho0, hc0, at0⟩ := er.cell (hs' s)
  obtain ⟨v, rfl, hv1⟩ := box_at (tagC_ok.mp hc0)
  exact PEwp (pe_ix ix_list (pe_var hN hv hd hcd) pe_int (fun _ _ => rfl)) ⟨_, hp0, p0, _, 1, .int s, rfl, rfl, SqL.of ho0, rfl, q _ H .refl er (.int _)⟩
/-- box[0] -/
theorem Dx.boxD (tg : Option Addr) (i : Nat) {j : Nat} (hs' : ∀ s, (δ s)[i]? = some (.own (tagC tg (bxC ds s))) := by intro _; rfl) (hN : X.N[i]? = some x := by rfl) (hv : Vis X.env.scope x := by first | exact Or.inl rfl | exact Or.inr (Or.inl rfl) | exact Or.inr (Or.inr rfl)) (hd : (x == ("__debug__" : Str)) = false := by decide) (hcd : (x == ("__classdict__" : Str)) = false := by decide) :
    Dx X (.Subscript (.Name x px) (.Constant (.int 0) j p2) pos) δ (rL rI) (pu ds) := by
  intro kc O He H σ s s' c Q hm er q
  obtain ⟨rfl, rfl⟩ := pu_some hm
  obtain ⟨p0, o0, hp0, ho0, hc0, at0⟩ := er.cell (hs' s')
  obtain ⟨v, rfl, hv1⟩ := box_at (tagC_ok.mp hc0)
  exact PEwp (pe_ix ix_list (pe_var hN hv hd hcd) pe_int (fun _ _ => rfl)) ⟨_, hp0, p0, _, 0, v, rfl, rfl, SqL.of ho0, rfl, q _ H .refl er hv1⟩
/-- box[1] = e -/
theorem Ds.boxset (tg : Option Addr) {me : Int → Option (Int × Int)} {k : Int → Option (Fl γ β ρ × Int)} (i : Nat) {j : Nat} (he : Dx X e δ rI me) (hk : Ds X rest δ on ob δr rt k) (hs' : ∀ s, (δ s)[i]? = some (.own (tagC tg (bxC ds s))) := by intro _; rfl) (hδ : ∀ s t, δ t = (δ s).set i (.own (tagC tg (bxC ds t))) := by intro _ _; rfl)
    (hN : X.N[i]? = some x := by rfl) (hv : Vis X.env.scope x := by first | exact Or.inl rfl | exact Or.inr (Or.inl rfl) | exact Or.inr (Or.inr rfl)) (hd : (x == ("__debug__" : Str)) = false := by decide) (hcd : (x == ("__classdict__" : Str)) = false := by decide)
    (hps : PS X (.Assign [.Subscript (.Name x px) (.Constant (.int 1) j p2) tpos] e pos) (tAsg (wpE X e) (gSub (tVar i) (tC (.int 1)) rSetL)) := by exact ps_asg (peW _ _) (pg_sub (pv _) pe_int set_list)) :
    Ds X (.Assign [.Subscript (.Name x px) (.Constant (.int 1) j p2) tpos] e pos :: rest) δ on ob δr rt (bd me fun a _ => k a) := by
  intro kc O He H σ s s' fl Dn hm er q
  obtain ⟨a, s1, h1, hm⟩ := bd_some hm
  refine PSSwp (pss_cons hps (pssW X rest)) (he kc O He H σ s s1 a _ h1 er fun v H1 k1 er1 r1 => ?_)
  cases r1
  obtain ⟨p0, o0, hp0, ho0, hc0, at0⟩ := er1.cell (hs' s1)
  obtain ⟨v, rfl, hv1⟩ := box_at (tagC_ok.mp hc0)
  refine ⟨_, hp0, p0, _, 1, 1, rfl, rfl, ho0, rfl, ?_⟩
  have sm : Same (mask (msk O σ (δ s1)) H1) (mask (msk O σ (δ s1)) (upd H1 p0 (.lst [v, .int a]))) := mask_same fun b u n e => ⟨n, by
    rw [upd_ne]
    · exact e
    · rintro rfl
      exact n (.inr ⟨i, at0⟩)⟩
  obtain ⟨k2, er2⟩ := boxed (X := X) (bx := bxC ds) (s2 := a) kc hs' hδ (fun _ _ _ => trivial) er1 at0 (fun b u n e => by rw [upd_ne n]; exact e) upd_same ⟨_, rfl, .cons (hv1.mono sm) (.cons (.int _) .nil)⟩
  rw [kc.ow s1 s] at k2
  exact hk kc O He _ σ a s' fl Dn hm er2 (q.then' ⟨k1.trans k2, fun b z => .inl (by rw [kc.ow s a]; exact z)⟩)
end
/-! lists and tuples of any data -/
theorem Dx.lenK {ds : List D} {d : D} {m : S → Option (Unit × S)} (hd : d = .list ds ∨ d = .tuple ds) (hm : X.mg "len" = .none) (ha : Dx X e δ (rK d) m) (hg : Gl X "len" := by rfl) (he : starEach [e] X.env = (false, eval e X.env) :: starEach [] X.env := by rfl) (hpl : (backTo pos (starEach [] X.env)).any (·.1) = false := by rfl) :
    Dx X (.Call (.Name "len" p) [e] [] pos) δ rI (bd m fun _ => pu (ds.length : Int)) :=
  Dx.callB1 (f := fun _ : Unit => some (ds.length : Int)) call_len_seq (fun O x xs c H Q h l q => by
    cases h
    rcases hd with rfl | rfl
    · cases l with
      | lst h1 h2 => exact ⟨_, _, rfl, .inl (SqL.of (mask_some h1).2), by rw [h2.length]; exact q _ H (Same.refl H) (.int _)⟩
    · cases l with
      | tup h1 h2 => exact ⟨_, _, rfl, .inr (Same.sqt mask_le h1), by rw [h2.length]; exact q _ H (Same.refl H) (.int _)⟩) hm ha boot_len hg (by decide) (by decide) he hpl
theorem Dx.ixK {ds : List D} {d z : D} {n : Nat} {m : S → Option (Unit × S)} {mi : S → Option (Int × S)} (hd : d = .list ds ∨ d = .tuple ds) (hz : ds[n]? = some z) (ha : Dx X e1 δ (rK d) m) (hi : Dx X e2 δ rI (pu (n : Int))) (hp : PlainIx e2 := by exact fun _ _ => rfl) : Dx X (.Subscript e1 e2 pos) δ (rK z) (bd m fun _ => pu ()) := by
  intro kc O He H σ s s' c Q hm er q
  obtain ⟨a, s1, h1, hm⟩ := bd_some hm
  obtain ⟨rfl, rfl⟩ := pu_some hm
  rcases hd with rfl | rfl
  · refine PEwp (pe_ix ix_list (peW X e1) (peW X e2) hp) (two ha (fun _ => hi) kc h1 rfl er fun x y H' k er' rx ry => ?_)
    cases ry
    cases rx with
    | lst h1 h2 =>
      obtain ⟨v, hv, rv⟩ := h2.get hz
      exact ⟨_, _, _, v, rfl, rfl, SqL.of (mask_some h1).2, atI_nat hv, q v H' k er' rv⟩
  · refine PEwp (pe_ix ix_tup (peW X e1) (peW X e2) hp) (two ha (fun _ => hi) kc h1 rfl er fun x y H' k er' rx ry => ?_)
    cases ry
    cases rx with
    | tup h1 h2 =>
      obtain ⟨v, hv, rv⟩ := h2.get hz
      exact ⟨_, _, _, v, rfl, rfl, Same.sqt mask_le h1, atI_nat hv, q v H' k er' rv⟩
end
end DL

namespace DL
open PySem PySem.Spec L2
/-! ### what a def's mirror is worth -/
section
variable {S α β γ ρ : Type}
def run0 (m : S → Option (Fl γ β ρ × S)) (s : S) : Option ρ := (m s).bind fun p => match p.1 with | .rt r => some r | _ => none
def runS (m : S → Option (Fl γ β ρ × S)) : S → Option (ρ × S) := fun s => (m s).bind fun p => match p.1 with | .rt r => some (r, p.2) | _ => none
theorem run0_some {m : S → Option (Fl γ β ρ × S)} {s : S} {b : ρ} (h : run0 m s = some b) : ∃ s', m s = some (.rt b, s') := by
  unfold run0 at h
  cases e : m s with
  | none => rw [e] at h; cases h
  | some p =>
    rw [e] at h
    obtain ⟨f, t⟩ := p
    cases f with
    | rt r => cases h; exact ⟨t, rfl⟩
    | nx _ => cases h
    | bk _ => cases h
    | ct _ => cases h
theorem runS_some {m : S → Option (Fl γ β ρ × S)} {s s' : S} {b : ρ} (h : runS m s = some (b, s')) : m s = some (.rt b, s') := by
  unfold runS at h
  cases e : m s with
  | none => rw [e] at h; cases h
  | some p =>
    rw [e] at h
    obtain ⟨f, t⟩ := p
    cases f with
    | rt r => cases h; rfl
    | nx _ => cases h
    | bk _ => cases h
    | ct _ => cases h
end
/-! ### the same data, told and due -/
/-- numbers and texts that have a repr, no deeper than n -/
def okD : Nat → D → Prop
  | _, .none => True
  | _, .bool _ => True
  | _, .int i => i.natAbs.log2 < 1920
  | _, .str x => (reprText x).length ≤ sizeLine
  | 0, _ => False
  | n + 1, .list ds => ds.length ≤ big ∧ ∀ d ∈ ds, okD n d
  | n + 1, .tuple ds => ds.length ≤ big ∧ ∀ d ∈ ds, okD n d
  | _ + 1, .dict _ => False
open Classical in
noncomputable def F2 (n : Nat) (p : D × D) : Option Bool := if p.1 = p.2 ∧ okD n p.2 then some true else none
noncomputable def F_law_same {α : Type} (r : α → D) (p : α × α) : Option Bool := F2 7 (r p.1, r p.2)
theorem same_of {α : Type} {r : α → D} {a : α} (h : okD 7 (r a)) : F_law_same r (a, a) = some true := by
  unfold F_law_same F2
  rw [if_pos ⟨rfl, h⟩]
section
variable {S α β γ κ ρ : Type} {X : Cx} {e e1 e2 : Expr} {δ : S → Sl} {pos p p2 : Pos}
abbrev rD : D → D := fun d => d
theorem Dx.ixD {ds : List D} {d : D} {m : S → Option (Unit × S)} {mi : S → Option (Int × S)} (hd : d = .list ds ∨ d = .tuple ds) (ha : Dx X e1 δ (rK d) m) (hi : Dx X e2 δ rI mi) (hp : PlainIx e2 := by exact fun _ _ => rfl) : Dx X (.Subscript e1 e2 pos) δ rD (bd m fun _ => bd mi fun i => lf (atI ds i)) := by
  intro kc O He H σ s s' c Q hm er q
  obtain ⟨a, s1, h1, hm⟩ := bd_some hm
  obtain ⟨i, s2, h2, hm⟩ := bd_some hm
  obtain ⟨h3, rfl⟩ := lf_some hm
  unfold atI at h3
  cases hj : ixN ds.length i with
  | none => rw [hj] at h3; cases h3
  | some j =>
    rw [hj] at h3
    have h4 : ds[j]? = some c := h3
    rcases hd with rfl | rfl
    · refine PEwp (pe_ix ix_list (peW X e1) (peW X e2) hp) (two ha (fun _ => hi) kc h1 h2 er fun x y H' k er' rx ry => ?_)
      cases ry
      cases rx with
      | lst g1 g2 =>
        obtain ⟨v, hv, rv⟩ := g2.get h4
        exact ⟨_, _, i, v, rfl, rfl, SqL.of (mask_some g1).2, by unfold atI; rw [g2.length, hj]; exact hv, q v H' k er' rv⟩
    · refine PEwp (pe_ix ix_tup (peW X e1) (peW X e2) hp) (two ha (fun _ => hi) kc h1 h2 er fun x y H' k er' rx ry => ?_)
      cases ry
      cases rx with
      | tup g1 g2 =>
        obtain ⟨v, hv, rv⟩ := g2.get h4
        exact ⟨_, _, i, v, rfl, rfl, Same.sqt mask_le g1, by unfold atI; rw [g2.length, hj]; exact hv, q v H' k er' rv⟩
/-- [digits, 0] -/
theorem boxinit {j : Nat} {m : S → Option (List Int × S)} (h : Fx X e δ (cL rI) m) (hs : starEach [e, .Constant (.int 0) j p2] X.env = (false, eval e X.env) :: starEach [.Constant (.int 0) j p2] X.env := by rfl) : Fx X (.List [e, .Constant (.int 0) j p2] pos) δ (fun a => bxC a 0) m := by
  intro kc O He H σ s s' g Q hm er q
  refine PEwp (pe_lst (pa_cons (peW X e) (pa_cons pe_int pa_nil rfl) hs)) (h.list kc O He H σ s s' g _ hm er fun v H1 k1 er1 r1 => ?_)
  exact ⟨by show 2 ≤ sizeLine; decide, fun l hl => fxnew (c := bxC g 0) k1 er1 hl ⟨_, rfl, .cons r1 (.cons (.int 0) .nil)⟩ q⟩
end
/-! ### the end -/
def spLaw (K : Frag) : Sp := fun vs H Q _ => ∃ (a : Addr) (ns : List Int), vs = [.ref a] ∧ SqL K H a (ns.map V.int) ∧ ns.length ≤ 63 ∧ ∀ H', Q (.bl true) H'
theorem mask_no {H : Hp} : mask (fun _ => False) H = H := by
  funext a
  exact mask_of (fun z => z)
theorem law_sp {K : Frag} {F : List Int → Option Bool} (hF : ∀ ns : List Int, ns.length ≤ 63 → F ns = some true) (vs : List V) (H : Hp) (Q : VK) (E : XK) (h : spLaw K vs H Q E) : spV K (fun a : List Int => [.scr a]) F (.val rB) vs H Q E := by
  obtain ⟨a, ns, rfl, hS, hl, q⟩ := h
  refine ⟨fun _ => False, ns, true, fun _ z => z.elim, .cons ⟨a, rfl, by rw [mask_no]; exact hS⟩ .nil, hF ns hl, fun v H' sm ret => ?_⟩
  have ret : Rp K (mask (fun _ => False) H') v (.bool true) := ret
  cases ret
  exact q H'
end DL

namespace DL
open PySem PySem.Spec L2
/-! ### slices with a step -/
section
variable {S α β γ : Type} {X : Cx} {e e1 e2 : Expr} {δ : S → Sl} {pos p p2 : Pos} {r : α → D}
def pickA (xs : List α) (lo hi st : Option Int) : List α := (sliceRange (sliceBounds lo hi st xs.length).1 (sliceBounds lo hi st xs.length).2.1 (sliceBounds lo hi st xs.length).2.2).filterMap fun j => xs[j]?
def pickO (xs : List α) (lo hi st : Option Int) : Option (List α) := if st ≠ some 0 ∧ (pickA xs lo hi st).length ≤ big then some (pickA xs lo hi st) else none
def stepO (xs : List α) (c : Int) : Option (List α) := pickO xs none none (some c)
theorem pick_rp {K : Frag} {G : Hp} {vs : List V} {xs : List α} (h : RpAll K G vs (xs.map r)) : ∀ is : List Nat, RpAll K G (is.filterMap fun j => vs[j]?) ((is.filterMap fun j => xs[j]?).map r)
  | [] => .nil
  | i :: is => by
    cases e : xs[i]? with
    | none =>
      have e2 : vs[i]? = none := by
        have hl := h.length
        rw [List.length_map] at hl
        rw [List.getElem?_eq_none_iff] at e ⊢
        omega
      rw [List.filterMap_cons_none e, List.filterMap_cons_none e2]
      exact pick_rp h is
    | some x =>
      obtain ⟨v, hv, rv⟩ := h.map_get e
      rw [List.filterMap_cons_some e, List.filterMap_cons_some hv, List.map_cons]
      exact .cons rv (pick_rp h is)
theorem pick_vals {vs : List V} {us : List Value} (h : Vals vs us) : ∀ is : List Nat, Vals (is.filterMap fun j => vs[j]?) (is.filterMap fun j => us[j]?)
  | [] => .nil
  | i :: is => by
    cases e : vs[i]? with
    | none =>
      rw [List.filterMap_cons_none e, List.filterMap_cons_none (h.none_of e)]
      exact pick_vals h is
    | some x =>
      obtain ⟨u, hu, ru⟩ := h.get e
      rw [List.filterMap_cons_some e, List.filterMap_cons_some hu]
      exact .cons ru (pick_vals h is)
def tStep (K : PySem.W.Frag) (te : TE) (tl th ts : TO) : TE := fun σ H Q => te σ H fun x H1 => tl σ H1 fun l H2 => th σ H2 fun u H3 => ts σ H3 fun c H4 => ∃ a xs, x = .ref a ∧ SqL K H4 a xs ∧ c ≠ some 0 ∧ (pickA xs l u c).length ≤ sizeLine ∧ ∀ p, H4 p = none → Q (.ref p) (upd H4 p (.lst (pickA xs l u c)))
theorem pe_step {lo hi st : Option Expr} {te : TE} {tl th ts : TO} (he : PE X e te) (hl : PO X lo tl) (hh : PO X hi th) (hs : PO X st ts) (hsub : ∀ o i, PySem.subscripted (.Slice lo hi st p2) false o i = operate [o, i] (getItem o i) := by with_unfolding_all (intro _ _; rfl)) : PE X (.Subscript e (.Slice lo hi st p2) pos) (tStep X.K te tl th ts) := by
  refine ⟨fun pins s σ H Q I h => ?_⟩
  refine PyProof.Rows.Subscript_ (thn (he.run pins s σ H _ I h) fun v s1 ⟨x, H1, I1, r1, q1⟩ => ?_)
  refine wpAny_Slice (thn (hl.run pins s1 σ H1 _ I1 q1) fun vl s2 ⟨l, H2, I2, pl, q2⟩ => thn (hh.run pins s2 σ H2 _ I2 q2) fun vu s3 ⟨u, H3, I3, pu, q3⟩ => thn (hs.run pins s3 σ H3 _ I3 q3) fun vs s4 ⟨c, H4, I4, ps, q4⟩ => ?_)
  obtain ⟨a, xs, ex, hx, hc, hz2, q⟩ := q4
  subst ex
  cases r1
  have I5 : Inv X pins σ H4 { s4 with heap := s4.heap.push { cls := .type "slice", data := .fields #[vl, vu, vs] } } := I4.kept (t' := s4.toks) fun b ob q => Heap.get?_push_of_some _ q
  obtain ⟨its, r, ht, hz⟩ := I5.list hx
  have hlen := r.length
  show wpAny (model X.prog X.w) X.A (PyProof.Rows.subscriptTail e (.Slice lo hi st p2) (.ref a) (.ref s4.heap.objs.size)) (EP X pins σ Q) X.xe { s4 with heap := s4.heap.push { cls := .type "slice", data := .fields #[vl, vu, vs] } }
  refine PyProof.Rows.tail_any (ops := [.ref a, .ref s4.heap.objs.size]) ht.isList.typeIs (PySem.slot_list_getitem.lookup) ?_ (hsub _ _)
  refine wpAny_getItem_list_slice ht.isList (Heap.IsSliceOf.new _ vl vu vs) pl pu ps hc ?_ (by rw [List.size_toArray]; omega)
  refine ⟨.ref _, _, I5.laid (t' := s4.toks) (o := .lst (pickA xs l u c)) (fun b ob q => Heap.get?_push_of_some _ q) (Nat.le_refl _) ?_, rfl, q _ (I5.hok.fresh (Nat.le_refl _))⟩
  have e : slicePick its.toArray l u c = (pickA its l u c).toArray := by
    unfold slicePick pickA
    simp
  have rr : Vals (pickA xs l u c) (pickA its l u c) := by
    unfold pickA
    rw [hlen]
    exact pick_vals r _
  refine ⟨hz2, pickA its l u c, 0, rr, ?_⟩
  rw [e]
  exact Heap.get?_push_size _ rfl
theorem Fx.step3 {lo hi st : Option Expr} {m : S → Option (List α × S)} {ml mh ms : S → Option (Option Int × S)} (ha : Bx X e δ r m) (hl : Ox X lo δ ml) (hh : Ox X hi δ mh) (hs : Ox X st δ ms) (hsub : ∀ o i, PySem.subscripted (.Slice lo hi st p2) false o i = operate [o, i] (getItem o i) := by with_unfolding_all (intro _ _; rfl)) :
    Fx X (.Subscript e (.Slice lo hi st p2) pos) δ (cL r) (bd m fun xs => bd ml fun i => bd mh fun j => bd ms fun c => lf (pickO xs i j c)) := by
  intro kc O He H σ s s' z Q hm er q
  obtain ⟨xs, s1, h1, hm⟩ := bd_some hm
  obtain ⟨i, s2, h2, hm⟩ := bd_some hm
  obtain ⟨j, s3, h3, hm⟩ := bd_some hm
  obtain ⟨c, s4, h4, hm⟩ := bd_some hm
  obtain ⟨h5, rfl⟩ := lf_some hm
  unfold pickO at h5
  split at h5
  · rename_i cc
    cases h5
    refine PEwp (pe_step (peW X e) (poW X lo) (poW X hi) (poW X st) hsub) (ha kc O He H σ s s1 xs _ h1 er fun v H1 k1 er1 r1 => ?_)
    refine hl kc O He H1 σ s1 s2 i _ h2 er1 fun H2 k2 er2 => ?_
    refine hh kc O He H2 σ s2 s3 j _ h3 er2 fun H3 k3 er3 => ?_
    refine hs kc O He H3 σ s3 s' c _ h4 er3 fun H4 k4 er4 => ?_
    rw [kc.ow s1 s] at k2
    rw [kc.ow s2 s] at k3
    rw [kc.ow s3 s] at k4
    have k24 := (k2.trans k3).trans k4
    obtain ⟨l, vs, rfl, hl, hr⟩ := r1 s' H4 k24 er4
    have hlen := hr.length
    rw [List.length_map] at hlen
    have rr : RpAll X.K (mask (msk O σ (δ s)) H4) (pickA vs i j c) ((pickA xs i j c).map r) := by
      unfold pickA
      rw [hlen]
      exact pick_rp hr _
    have hlen2 := rr.length
    rw [List.length_map] at hlen2
    have hb := big_lt
    exact ⟨l, vs, rfl, SqL.of hl, cc.1, by omega, fun p hp => fxnew (c := cL r (pickA xs i j c)) (k1.trans k24) er4 hp ⟨_, rfl, rr⟩ q⟩
  · cases h5
theorem Fx.step {m : S → Option (List α × S)} {mi : S → Option (Int × S)} (ha : Bx X e δ r m) (hi : Dx X e2 δ rI mi) : Fx X (.Subscript e (.Slice .none .none (.some e2) p2) pos) δ (cL r) (bd m fun xs => bd mi fun c => lf (stepO xs c)) := by
  have h := Fx.step3 (pos := pos) (p2 := p2) ha Ox.none Ox.none (Ox.some hi)
  simp only [bd_pu, bd_bd] at h
  exact h
end
end DL

namespace DL
open PySem PySem.Spec L2
section
variable {S α β γ ρ κ : Type} {P : Program} {w : World} {K : Frag} {mg : Str → Option Value} {base : Heap} {k : Nat} {N ps : List Str} {x qual : Str} {st : Stmt} {f : Addr} {fd : FuncData}
/-- a def, told by cases -/
theorem fnE {as : α → Sl} {F : α → Option ρ} {rt : RT ρ} {γ : Type} {on : γ → S → Sl} {ob : β → S → Sl} {s0 : S} (Fn : Fun K x qual st f fd) (sc : FnScope N ps (defScope st)) (hx : mg x = some (.ref f)) (hb : Binds K fd ps [])
    (body : ∀ (cdv : Value) (A : Around) (outer : List Env) (s : Shared) (H : Hp) (E : XK) (a : α) (b : ρ), F a = some b → Room k (A.deeper (PyProof.Rows.envOfC qual (defScope st) s.heap.objs.size f cdv)) →
      ∃ m : S → Option (Fl γ β ρ × S), Ds (cxOf CX0 P w K mg base N qual (defScope st) f cdv A outer s H E).nox (defBody st) (fun _ : S => slots N (as a)) on ob (fun _ => List.replicate N.length .un) rt m ∧ ∃ s', m s0 = some (.rt b, s'))
    (hps : ∀ a, (as a).length = ps.length := by intro _; rfl) (hNp : ps.length ≤ N.length := by decide) : FnA P w K mg base (k + 1) x (spV K as F rt) := by
  refine ⟨f, fd, ps, hx, Fn.kp, hb, Fn.ok sc (fun vs H Q E h => ?_) (fun cdv A outer s H vs Q E hr h => ?_)⟩
  · obtain ⟨O, a, b, h1, h2, h3, h4⟩ := h
    rw [h2.length, hps]
  · obtain ⟨O, a, b, h1, h2, h3, h4⟩ := h
    refine ⟨_, pssW _ _, ?_⟩
    have er := er_start (N := N) h1 h2 (by rw [h2.length, hps]; exact hNp)
    obtain ⟨m, hm, s1, hF1⟩ := body cdv A outer s H E a b h3 hr
    refine hm (fun _ _ => rfl) O H H (L2.start N vs) s0 s1 (.rt b) _ hF1 er ?_
    intro v σ' H' kp ret
    cases rt with
    | val r =>
      obtain ⟨e1, e2⟩ := ret
      exact h4 v H' e1.same (e2.mono (mask_same fun a o n e => ⟨fun z => n (.inl z), e⟩))
    | cell c =>
      obtain ⟨p, o, e1, e2, e3, e4, e5, e6⟩ := ret
      exact h4 v H' e4.same ⟨p, o, e1, e2, e5, e6.mono (mask_same fun a o n e => ⟨fun z => n (.inl z), e⟩)⟩
end
section
variable {S α β γ ρ κ : Type}
theorem bdp {a : α} {f : α → S → Option (β × S)} : bd (pu a) f = f a := by
  have h : ∀ s, bd (pu a) f s = f a s := fun s => rfl
  exact funext h
theorem lfp {a : α} : (lf (some a) : S → Option (α × S)) = pu a := by
  have h : ∀ s : S, lf (some a) s = pu a s := fun s => rfl
  exact funext h
theorem pua {a : α} {s : S} : pu a s = some (a, s) := by
  have h : ∀ s : S, pu a s = some (a, s) := fun s => rfl
  exact h s
theorem bd_at {m : S → Option (α × S)} {f : α → S → Option (β × S)} {s t : S} {a : α} (h : m s = some (a, t)) : bd m f s = f a t := by
  unfold bd
  rw [h]
  rfl
theorem seqn {a : κ} {k : κ → S → Option (Fl γ β ρ × S)} : seqF (pu (.nx a)) k = k a := by
  have h : ∀ s, seqF (pu (.nx a)) k s = k a s := fun s => rfl
  exact funext h
theorem seqr {r : ρ} {k : κ → S → Option (Fl γ β ρ × S)} : seqF (pu (.rt r)) k = pu (.rt r) := by
  have h : ∀ s, seqF (pu (.rt r)) k s = pu (.rt r) s := fun s => rfl
  exact funext h
theorem pu_at {a : α} {s : S} : pu a s = some (a, s) := rfl
theorem bd_if {c : Prop} [Decidable c] {m n : S → Option (α × S)} {f : α → S → Option (β × S)} : bd (if c then m else n) f = if c then bd m f else bd n f := by
  split <;> rfl
theorem seqF_nx {a : κ} {k : κ → S → Option (Fl γ β ρ × S)} : seqF (pu (.nx a)) k = k a := rfl
theorem seqF_rt {r : ρ} {k : κ → S → Option (Fl γ β ρ × S)} : seqF (pu (.rt r)) k = pu (.rt r) := rfl
theorem loop_nx {f : κ → α → S → Option (Fl κ κ ρ × S)} {b : κ} {s : S} : ∀ {xs : List α}, (∀ x ∈ xs, f b x s = some (.nx b, s)) → (loopS xs b f s : Option (Fl κ β ρ × S)) = some (.nx b, s)
  | [], _ => rfl
  | x :: xs, h => by
    have e : (loopS (x :: xs) b f s : Option (Fl κ β ρ × S)) = loopS xs b f s := by
      unfold loopS
      unfold bd
      rw [h x (List.mem_cons_self)]
      cases xs <;> rfl
    rw [e]
    exact loop_nx fun y hy => h y (List.mem_cons_of_mem _ hy)
theorem F2_some {n : Nat} {p : D × D} {b : Bool} (h : F2 n p = some b) : ∃ d, p = (d, d) ∧ b = true ∧ okD n d := by
  unfold F2 at h
  split at h
  · rename_i c
    cases h
    obtain ⟨a, b⟩ := p
    obtain ⟨c1, c2⟩ := c
    cases (show a = b from c1)
    exact ⟨a, rfl, rfl, c2⟩
  · cases h
theorem F2_of {n : Nat} {d : D} (h : okD n d) : F2 n (d, d) = some true := by
  unfold F2
  rw [if_pos ⟨rfl, h⟩]
theorem atI_at {ds : List D} {i : Nat} (h : i < ds.length) : ∃ d, atI ds (0 + (i : Int)) = some d ∧ d ∈ ds := by
  refine ⟨ds[i], ?_, List.getElem_mem h⟩
  rw [Int.zero_add]
  have e : ixN ds.length (i : Int) = some i := by
    unfold ixN
    rw [if_pos (Int.natCast_nonneg i), if_pos (by omega)]
    rfl
  unfold atI
  rw [e]
  exact List.getElem?_eq_getElem h
theorem same_run {ds : List D} {n : Nat} (h : ∀ d ∈ ds, okD n d) (x : Int) (hx : x ∈ rng 0 ds.length) : (bd (bd (bd (bd (pu ()) fun _ => bd (pu x) fun i => lf (atI ds i)) fun a => bd (bd (pu ()) fun _ => bd (pu x) fun i => lf (atI ds i)) fun b => pu (a, b)) fun p : D × D => lf (F2 n p)) (fun b => pu (!b)) () : Option (Bool × Unit)) = some (false, ()) := by
  unfold rng at hx
  obtain ⟨i, hi, rfl⟩ := List.mem_map.mp hx
  have hi : i < ds.length := by
    have := List.mem_range.mp hi
    omega
  obtain ⟨d, e1, e2⟩ := atI_at hi
  have e3 := F2_of (h d e2)
  simp only [bd, pu, lf, e1, e3, Option.bind, Option.map]
  rfl
theorem rngO_len {n : Nat} (h : n ≤ big) : rngO 0 (n : Int) = some (rng 0 n) := by
  have h2 : (n : Int) ≤ 10000000 := by unfold big at h; omega
  unfold rngO
  exact if_pos (by omega)
theorem same_loop {ds : List D} {n : Nat} (h : ∀ d ∈ ds, okD n d) (mb : Unit → Int → Unit → Option (Fl Unit Unit Bool × Unit)) (hm : ∀ x ∈ rng 0 ds.length, mb () x () = some (.nx (), ())) (k : Unit → Unit → Option (Fl Unit Unit Bool × Unit)) : seqF (loopS (rng 0 ds.length) () mb) k () = k () () := by
  unfold seqF bd
  rw [loop_nx hm]
  rfl
/-- what a datum of the one kind is not -/
theorem notN {d : D} (h : d ≠ .none) (K : Frag) (G : Hp) (v : V) (_ : Unit) (r : Rp K G v d) : decide (v = .non) = false := by
  cases r <;> first | rfl | exact absurd rfl h
theorem notB {d : D} {z : Bool} (h : d ≠ .bool z) (K : Frag) (G : Hp) (v : V) (_ : Unit) (r : Rp K G v d) : decide (v = .bl z) = false := by
  cases r <;> first | rfl | exact decide_eq_false fun e => h (by cases e; rfl)
end
end DL

namespace DL
open PySem PySem.Spec L2
/-! ### reckoning with mirrors -/
section
variable {S α β γ ρ κ : Type}
/-- m ends, and P holds of what it hands back -/
def Tot (m : S → Option (α × S)) (s : S) (P : α → S → Prop) : Prop := ∃ a t, m s = some (a, t) ∧ P a t
theorem Tot.pu {a : α} {s : S} {P : α → S → Prop} (h : P a s) : Tot (pu a) s P := ⟨a, s, pua, h⟩
theorem Tot.bd {m : S → Option (α × S)} {f : α → S → Option (β × S)} {s : S} {P : β → S → Prop} (h : Tot m s fun a t => Tot (f a) t P) : Tot (bd m f) s P := by
  obtain ⟨a, t, h1, b, u, h2, h3⟩ := h
  exact ⟨b, u, by rw [bd_at h1]; exact h2, h3⟩
theorem Tot.mono {m : S → Option (α × S)} {s : S} {P Q : α → S → Prop} (h : Tot m s P) (l : ∀ a t, P a t → Q a t) : Tot m s Q := by
  obtain ⟨a, t, h1, h2⟩ := h
  exact ⟨a, t, h1, l a t h2⟩
theorem Tot.bind {m : S → Option (α × S)} {f : α → S → Option (β × S)} {s : S} {P : β → S → Prop} {Q : α → S → Prop} (h : Tot m s Q) (k : ∀ a t, Q a t → Tot (f a) t P) : Tot (DL.bd m f) s P := Tot.bd (h.mono k)
theorem Tot.lf {o : Option α} {s : S} {P : α → S → Prop} {a : α} (e : o = some a) (h : P a s) : Tot (lf o) s P := ⟨a, s, by rw [e, lfp]; exact pua, h⟩
theorem Tot.gd {c : Prop} [Decidable c] {m : S → Option (α × S)} {s : S} {P : α → S → Prop} (hc : c) (h : Tot m s P) : Tot (gd c m) s P := by
  obtain ⟨a, t, h1, h2⟩ := h
  exact ⟨a, t, by unfold DL.gd; rw [if_pos hc]; exact h1, h2⟩
theorem gd_pos {c : Prop} [Decidable c] {m : S → Option (α × S)} (hc : c) : gd c m = m := by
  funext s
  unfold gd
  rw [if_pos hc]
theorem lcM_eq {xs : List α} {m : S → Option (β × S)} (h : xs.length ≤ big) : lcM xs m = m := gd_pos h
theorem Tot.seqF {m : S → Option (Fl κ β ρ × S)} {k : κ → S → Option (Fl γ β ρ × S)} {s : S} {P : Fl γ β ρ → S → Prop} (h : Tot m s fun fl t => ∃ g, fl = .nx g ∧ Tot (k g) t P) : Tot (seqF m k) s P := by
  unfold DL.seqF
  refine Tot.bd (h.mono fun a t => ?_)
  rintro ⟨g, rfl, h⟩
  exact h
theorem Tot.loop {f : κ → α → S → Option (Fl κ κ ρ × S)} {I : List α → κ → S → Prop} {Q : Fl κ β ρ → S → Prop} (hs : ∀ x xs b s, I (x :: xs) b s → Tot (f b x) s fun g t => match g with
    | .nx b' => I xs b' t
    | .ct b' => I xs b' t
    | .bk b' => Q (.nx b') t
    | .rt r => Q (.rt r) t) (he : ∀ b s, I [] b s → Q (.nx b) s) : ∀ (xs : List α) (b : κ) (s : S), I xs b s → Tot (loopS xs b f : S → Option (Fl κ β ρ × S)) s Q
  | [], b, s, h => .pu (he b s h)
  | x :: xs, b, s, h => by
    unfold loopS
    refine Tot.bd ((hs x xs b s h).mono fun g t q => ?_)
    cases g with
    | nx b' => exact Tot.loop hs he xs b' t q
    | ct b' => exact Tot.loop hs he xs b' t q
    | bk b' => exact .pu q
    | rt r => exact .pu q
inductive Al2 (R : α → β → Prop) : List α → List β → Prop where
  | nil : Al2 R [] []
  | cons {x : α} {y : β} {xs : List α} {ys : List β} (h : R x y) (t : Al2 R xs ys) : Al2 R (x :: xs) (y :: ys)
theorem Al2.length {R : α → β → Prop} {xs : List α} {ys : List β} (h : Al2 R xs ys) : xs.length = ys.length := by
  induction h with
  | nil => rfl
  | cons _ _ ih => rw [List.length_cons, List.length_cons, ih]
theorem Al2.all {R : α → β → Prop} {P : β → Prop} {xs : List α} {ys : List β} (h : Al2 R xs ys) (l : ∀ x ∈ xs, ∀ y, R x y → P y) : ∀ y ∈ ys, P y := by
  induction h with
  | nil => exact fun y z => nomatch z
  | cons h t ih =>
    intro y hy
    rcases List.mem_cons.mp hy with rfl | hy
    · exact l _ List.mem_cons_self _ h
    · exact ih (fun x hx => l x (List.mem_cons_of_mem _ hx)) y hy
theorem Tot.mapS {f : α → S → Option (β × S)} {I : S → Prop} {R : α → β → Prop} : ∀ (xs : List α) (s : S), I s → (∀ x ∈ xs, ∀ s, I s → Tot (f x) s fun y t => R x y ∧ I t) → Tot (mapS xs f) s fun ys t => Al2 R xs ys ∧ I t
  | [], s, h, _ => .pu ⟨.nil, h⟩
  | x :: xs, s, h, hs => by
    unfold DL.mapS
    refine Tot.bind (hs x List.mem_cons_self s h) fun y t h1 => ?_
    refine Tot.bind (Tot.mapS xs t h1.2 fun z hz => hs z (List.mem_cons_of_mem _ hz)) fun ys u h2 => ?_
    exact .pu ⟨.cons h1.1 h2.1, h2.2⟩
theorem Tot.loopU {f : Unit → α → S → Option (Fl Unit Unit ρ × S)} {I : S → Prop} : ∀ (xs : List α) (s : S), I s → (∀ x ∈ xs, ∀ s, I s → Tot (f () x) s fun g t => g = .nx () ∧ I t) → Tot (loopS xs () f : S → Option (Fl Unit β ρ × S)) s fun fl t => fl = .nx () ∧ I t
  | [], s, h, _ => .pu ⟨rfl, h⟩
  | x :: xs, s, h, k => by
    unfold loopS
    refine Tot.bd ((k x List.mem_cons_self s h).mono fun g t q => ?_)
    obtain ⟨rfl, q⟩ := q
    exact Tot.loopU xs t q fun y hy => k y (List.mem_cons_of_mem _ hy)
/-! pure ones -/
theorem mapS_pu {f : α → S → Option (β × S)} {g : α → β} : ∀ {xs : List α}, (∀ x ∈ xs, f x = pu (g x)) → mapS xs f = pu (xs.map g)
  | [], _ => rfl
  | x :: xs, h => by
    unfold mapS
    rw [h x List.mem_cons_self, bdp, mapS_pu (xs := xs) fun y hy => h y (List.mem_cons_of_mem _ hy), bdp]
    rfl
theorem fltS_pu {p : α → S → Option (Bool × S)} {f : α → S → Option (β × S)} {q : α → Bool} {g : α → β} : ∀ {xs : List α}, (∀ x ∈ xs, p x = pu (q x)) → (∀ x ∈ xs, q x = true → f x = pu (g x)) → fltS xs p f = pu ((xs.filter q).map g)
  | [], _, _ => rfl
  | x :: xs, h, k => by
    unfold fltS
    rw [h x List.mem_cons_self, bdp, List.filter_cons]
    have e := fltS_pu (xs := xs) (fun y hy => h y (List.mem_cons_of_mem _ hy)) fun y hy => k y (List.mem_cons_of_mem _ hy)
    cases c : q x with
    | true => rw [if_pos rfl, if_pos rfl, k x List.mem_cons_self c, bdp, e, bdp]; rfl
    | false => rw [if_neg (by simp), if_neg (by simp), e]
theorem loop_pu {f : κ → α → S → Option (Fl κ κ ρ × S)} {g : κ → α → κ} : ∀ {xs : List α} {b : κ}, (∀ b, ∀ x ∈ xs, f b x = pu (.nx (g b x))) → (loopS xs b f : S → Option (Fl κ β ρ × S)) = pu (.nx (xs.foldl g b))
  | [], b, _ => rfl
  | x :: xs, b, h => by
    unfold loopS
    rw [h b x List.mem_cons_self, bdp]
    exact loop_pu fun c y hy => h c y (List.mem_cons_of_mem _ hy)
/-- a loop that puts something behind a list each time -/
theorem loop_app {γ' : Type} {f : List γ' → α → S → Option (Fl (List γ') (List γ') ρ × S)} {g : α → γ'} : ∀ {xs : List α} {b : List γ'}, (∀ b : List γ', b.length < big → ∀ x ∈ xs, f b x = pu (.nx (b ++ [g x]))) → b.length + xs.length ≤ big → (loopS xs b f : S → Option (Fl (List γ') β ρ × S)) = pu (.nx (b ++ xs.map g))
  | [], b, _, _ => by rw [List.map_nil, List.append_nil]; rfl
  | x :: xs, b, h, l => by
    rw [List.length_cons] at l
    unfold loopS
    rw [h b (by omega) x List.mem_cons_self, bdp]
    have e := loop_app (xs := xs) (b := b ++ [g x]) (fun c hc y hy => h c hc y (List.mem_cons_of_mem _ hy)) (by rw [List.length_append, List.length_singleton]; omega)
    rw [List.append_assoc] at e
    exact e
/-- the same where a test holds -/
theorem loop_flt {γ' : Type} {f : List γ' → α → S → Option (Fl (List γ') (List γ') ρ × S)} {q : α → Bool} {g : α → γ'} : ∀ {xs : List α} {b : List γ'}, (∀ b : List γ', b.length < big → ∀ x ∈ xs, f b x = pu (.nx (if q x then b ++ [g x] else b))) → b.length + xs.length ≤ big → (loopS xs b f : S → Option (Fl (List γ') β ρ × S)) = pu (.nx (b ++ (xs.filter q).map g))
  | [], b, _, _ => by rw [List.filter_nil, List.map_nil, List.append_nil]; rfl
  | x :: xs, b, h, l => by
    rw [List.length_cons] at l
    unfold loopS
    rw [h b (by omega) x List.mem_cons_self, bdp, List.filter_cons]
    cases c : q x with
    | true =>
      rw [if_pos rfl, if_pos rfl]
      have e := loop_flt (xs := xs) (b := b ++ [g x]) (fun c hc y hy => h c hc y (List.mem_cons_of_mem _ hy)) (by rw [List.length_append, List.length_singleton]; omega)
      rw [List.append_assoc] at e
      exact e
    | false =>
      rw [if_neg (by simp), if_neg (by simp)]
      exact loop_flt (xs := xs) (b := b) (fun c hc y hy => h c hc y (List.mem_cons_of_mem _ hy)) (by omega)
theorem loop_cons {f : κ → α → S → Option (Fl κ κ ρ × S)} {x : α} {xs : List α} {b : κ} : (loopS (x :: xs) b f : S → Option (Fl κ β ρ × S)) = bd (f b x) fun g => match g with
    | .nx b' => loopS xs b' f
    | .ct b' => loopS xs b' f
    | .bk b' => pu (.nx b')
    | .rt r => pu (.rt r) := by
  conv => lhs; unfold loopS
  congr 1
  funext g
  cases g <;> rfl
theorem loop_nil {f : κ → α → S → Option (Fl κ κ ρ × S)} {b : κ} : (loopS ([] : List α) b f : S → Option (Fl κ β ρ × S)) = pu (.nx b) := rfl
theorem loop_cons_nx {f : κ → α → S → Option (Fl κ κ ρ × S)} {x : α} {xs : List α} {b b' : κ} (h : f b x = pu (.nx b')) : (loopS (x :: xs) b f : S → Option (Fl κ β ρ × S)) = loopS xs b' f := by
  rw [loop_cons, h, bdp]
theorem loop_cons_rt {f : κ → α → S → Option (Fl κ κ ρ × S)} {x : α} {xs : List α} {b : κ} {r : ρ} (h : f b x = pu (.rt r)) : (loopS (x :: xs) b f : S → Option (Fl κ β ρ × S)) = pu (.rt r) := by
  rw [loop_cons, h, bdp]
theorem loop_cons_bk {f : κ → α → S → Option (Fl κ κ ρ × S)} {x : α} {xs : List α} {b b' : κ} (h : f b x = pu (.bk b')) : (loopS (x :: xs) b f : S → Option (Fl κ β ρ × S)) = pu (.nx b') := by
  rw [loop_cons, h, bdp]
theorem loop_cons_ct {f : κ → α → S → Option (Fl κ κ ρ × S)} {x : α} {xs : List α} {b b' : κ} (h : f b x = pu (.ct b')) : (loopS (x :: xs) b f : S → Option (Fl κ β ρ × S)) = loopS xs b' f := by
  rw [loop_cons, h, bdp]
theorem run0_pu {r : ρ} {s : S} : run0 (pu (.rt r) : S → Option (Fl γ β ρ × S)) s = some r := rfl
theorem run0_tot {m : S → Option (Fl γ β ρ × S)} {s : S} {r : ρ} (h : Tot m s fun fl _ => fl = .rt r) : run0 m s = some r := by
  obtain ⟨a, t, h1, rfl⟩ := h
  unfold run0
  rw [h1]
  rfl
theorem runS_tot {m : S → Option (Fl γ β ρ × S)} {s : S} {P : ρ → S → Prop} (h : Tot m s fun fl t => ∃ r, fl = .rt r ∧ P r t) : Tot (runS m) s P := by
  obtain ⟨a, t, h1, r, rfl, h2⟩ := h
  refine ⟨r, t, ?_, h2⟩
  unfold runS
  rw [h1]
  rfl
theorem run0_mono {m : S → Option (Fl γ β ρ × S)} {s : S} {P : ρ → Prop} (h : Tot m s fun fl _ => ∃ r, fl = .rt r ∧ P r) : ∃ r, run0 m s = some r ∧ P r := by
  obtain ⟨a, t, h1, r, rfl, h2⟩ := h
  refine ⟨r, ?_, h2⟩
  unfold run0
  rw [h1]
  rfl
/-! indices and ranges -/
theorem rng_nat (n : Nat) : rng 0 (n : Int) = (List.range n).map fun i : Nat => (i : Int) := by
  unfold rng
  rw [Int.sub_zero, Int.toNat_natCast]
  exact List.map_congr_left fun i _ => Int.zero_add _
theorem rngO_eq {a b : Int} (h1 : -(2 ^ 62) ≤ a) (h2 : a < 2 ^ 62) (h3 : -(2 ^ 62) ≤ b) (h4 : b < 2 ^ 62) : rngO a b = some (rng a b) := by
  unfold rngO
  exact if_pos ⟨h1, h2, h3, h4⟩
theorem mem_rng {a b x : Int} : x ∈ rng a b ↔ a ≤ x ∧ x < b := by
  unfold rng
  rw [List.mem_map]
  constructor
  · rintro ⟨i, hi, rfl⟩
    have := List.mem_range.mp hi
    omega
  · rintro ⟨h1, h2⟩
    exact ⟨(x - a).toNat, List.mem_range.mpr (by omega), by omega⟩
theorem rng_length (a b : Int) : (rng a b).length = (b - a).toNat := by
  unfold rng
  rw [List.length_map, List.length_range]
theorem rng_nil {a b : Int} (h : b ≤ a) : rng a b = [] := by
  unfold rng
  rw [show (b - a).toNat = 0 by omega]
  rfl
theorem rng_cons {a b : Int} (h : a < b) : rng a b = a :: rng (a + 1) b := by
  unfold rng
  rw [show (b - a).toNat = (b - (a + 1)).toNat + 1 by omega, List.range_succ_eq_map, List.map_cons, List.map_map]
  congr 1
  · omega
  · exact List.map_congr_left fun i _ => by simp; omega
theorem ixN_nat {n : Nat} {i : Int} (h1 : 0 ≤ i) (h2 : i < n) : ixN n i = some i.toNat := by
  unfold ixN
  rw [if_pos h1, if_pos h2]
theorem atI_nat {xs : List α} {i : Int} (h1 : 0 ≤ i) (h2 : i < xs.length) : atI xs i = xs[i.toNat]? := by
  unfold atI
  rw [ixN_nat h1 h2]
  rfl
theorem atI_some {xs : List α} {i : Int} (h1 : 0 ≤ i) (h2 : i < xs.length) : atI xs i = some (xs[i.toNat]'(by omega)) := by
  rw [atI_nat h1 h2, List.getElem?_eq_getElem]
theorem atI_neg {xs : List α} {i : Int} (h1 : i < 0) (h2 : -(xs.length : Int) ≤ i) : atI xs i = some (xs[(i + xs.length).toNat]'(by omega)) := by
  unfold atI ixN
  rw [if_neg (by omega), if_pos h2]
  exact List.getElem?_eq_getElem _
theorem mulO_eq {x y : Int} (h : (-(2 ^ 64) < x ∧ x < 2 ^ 64) ∨ (-(2 ^ 64) < y ∧ y < 2 ^ 64)) : mulO x y = some (x * y) := if_pos h
theorem modO_eq {x y : Int} (h : y ≠ 0) : modO x y = some (x.fmod y) := if_pos h
theorem fdivO_eq {x y : Int} (h : y ≠ 0 ∧ y.natAbs < 1073741824) : fdivO x y = some (x.fdiv y) := if_pos h
theorem powO_eq {x y : Int} (h : 0 ≤ y ∧ y ≤ 1000000 ∧ x.natAbs < 2 ^ 64) : powO x y = some (x ^ y.toNat) := if_pos h
theorem catO_eq {xs ys : List α} (h : xs.length + ys.length ≤ big) : catO xs ys = some (xs ++ ys) := if_pos h
theorem fmod_range {x y : Int} (h : 0 < y) : 0 ≤ x.fmod y ∧ x.fmod y < y := ⟨Int.fmod_nonneg_of_pos x h, Int.fmod_lt_of_pos x h⟩
theorem mulO_l {x y : Int} (h : -(2 ^ 64) < x ∧ x < 2 ^ 64) : mulO x y = some (x * y) := if_pos (.inl h)
theorem mulO_r {x y : Int} (h : -(2 ^ 64) < y ∧ y < 2 ^ 64) : mulO x y = some (x * y) := if_pos (.inr h)
theorem Tot.some {o : Option α} {f : α → S → Option (β × S)} {s : S} {P : β → S → Prop} (e : ∃ a, o = Option.some a ∧ Tot (f a) s P) : Tot (DL.bd (DL.lf o) f) s P := by
  obtain ⟨a, e, h⟩ := e
  rw [e, lfp, bdp]
  exact h
theorem Tot.ite {c : Prop} [Decidable c] {m n : S → Option (α × S)} {s : S} {P : α → S → Prop} (h1 : c → Tot m s P) (h2 : ¬ c → Tot n s P) : Tot (if c then m else n) s P := by
  split
  · exact h1 ‹_›
  · exact h2 ‹_›
theorem bd_get {f : Int → Int → Option (β × Int)} : bd (fun c : Int => Option.some (c, c)) f = fun c => f c c := by
  have h : ∀ s, bd (fun c : Int => Option.some (c, c)) f s = f s s := fun s => rfl
  exact funext h
theorem head_of {xs : List α} : (if decide (xs = []) = true then pu Option.none else bd (lf (atI xs 0)) fun x => pu (Option.some x) : S → Option (Option α × S)) = pu xs.head? := by
  cases xs with
  | nil => rfl
  | cons x xs =>
    rw [if_neg (by simp), atI_nat (by omega) (by rw [List.length_cons]; omega)]
    rfl
theorem rngD_cons {a b : Int} (h : b < a) : rngD a b = a :: rngD (a - 1) b := by
  unfold rngD
  rw [show (a - b).toNat = (a - 1 - b).toNat + 1 by omega, List.range_succ_eq_map, List.map_cons, List.map_map]
  congr 1
  · exact Int.sub_zero _
  · exact List.map_congr_left fun i _ => by simp; omega
theorem rngD_nil {a b : Int} (h : a ≤ b) : rngD a b = [] := by
  unfold rngD
  rw [show (a - b).toNat = 0 by omega]
  rfl
theorem rngDO_eq {a b : Int} (h1 : -(2 ^ 62) ≤ a) (h2 : a < 2 ^ 62) (h3 : -(2 ^ 62) ≤ b) (h4 : b < 2 ^ 62) : rngDO a b (-1) = some (rngD a b) := by
  unfold rngDO
  exact if_pos ⟨⟨h1, h2, h3, h4⟩, rfl⟩
theorem rng_pw (a b : Int) : (rng a b).Pairwise (· < ·) := by
  unfold rng
  rw [List.pairwise_map]
  exact List.pairwise_lt_range.imp fun h => by omega
/-- the places and what stands there, counted from k -/
def enumN (k : Nat) (xs : List α) : List (Int × α) := (xs.zipIdx k).map fun q : α × Nat => ((q.2 : Int), q.1)
theorem enumL_eq (xs : List α) : enumL xs = enumN 0 xs := rfl
theorem enumN_nil {k : Nat} : enumN k ([] : List α) = [] := rfl
theorem enumN_cons {k : Nat} {x : α} {xs : List α} : enumN k (x :: xs) = ((k : Int), x) :: enumN (k + 1) xs := by
  unfold enumN
  rw [List.zipIdx_cons, List.map_cons]
theorem head_pw {r : List Int} (hp : r.Pairwise (· < ·)) (hn : r ≠ []) : ∃ a, atI r 0 = some a ∧ a ∈ r ∧ ∀ b ∈ r, a ≤ b := by
  cases r with
  | nil => exact absurd rfl hn
  | cons a r =>
    refine ⟨a, by rw [atI_nat (by omega) (by rw [List.length_cons]; omega)]; rfl, List.mem_cons_self, fun b hb => ?_⟩
    rcases List.mem_cons.mp hb with rfl | hb
    · exact Int.le_refl _
    · exact Int.le_of_lt (List.rel_of_pairwise_cons hp hb)
theorem last_pw {r : List Int} (hp : r.Pairwise (· < ·)) (hn : r ≠ []) : ∃ a, atI r (-1) = some a ∧ a ∈ r ∧ ∀ b ∈ r, b ≤ a := by
  have hl : 0 < r.length := List.length_pos_iff.mpr hn
  have e := atI_neg (xs := r) (i := -1) (by omega) (by omega)
  refine ⟨_, e, List.getElem_mem _, fun b hb => ?_⟩
  obtain ⟨i, hi, rfl⟩ := List.getElem_of_mem hb
  by_cases c : i = (-1 + (r.length : Int)).toNat
  · subst c; exact Int.le_refl _
  · exact Int.le_of_lt (List.pairwise_iff_getElem.mp hp i _ hi (by omega) (by omega))
theorem log_ok {x : Int} (h : -(10 ^ 18) ≤ x ∧ x ≤ 10 ^ 18) : x.natAbs.log2 < 1920 := by
  by_cases c : x.natAbs = 0
  · rw [c]; decide
  · refine (Nat.log2_lt c).mpr (Nat.lt_of_le_of_lt (m := 10 ^ 18) (by omega) ?_)
    decide +kernel
theorem whileS_end {b : κ} {mc : κ → S → Option (Bool × S)} {mb : κ → S → Option (Fl κ κ ρ × S)} {s : S} (h : mc b s = some (false, s)) : (whileS b mc mb s : Option (Fl κ β ρ × S)) = some (.nx b, s) := by
  refine whileS_of 1 ?_
  unfold whileN
  rw [bd_at h]
  rfl
theorem whileS_step {b b' : κ} {mc : κ → S → Option (Bool × S)} {mb : κ → S → Option (Fl κ κ ρ × S)} {s t u : S} {p : Fl κ β ρ × S} (h : mc b s = some (true, t)) (k : mb b t = some (.nx b', u)) (g : whileS b' mc mb u = some p) : whileS b mc mb s = some p := by
  obtain ⟨n, g⟩ := whileS_some g
  refine whileS_of (n + 1) ?_
  unfold whileN
  rw [bd_at h, if_pos rfl, bd_at k]
  exact g
/-! slices -/
theorem sIx_pos {n d : Nat} {k : Int} (h : 0 ≤ k) : HT.sIx n d (some k) = min k.toNat n := by
  obtain ⟨m, rfl⟩ := Int.eq_ofNat_of_zero_le h
  exact HT.sIx_nat n d m
theorem cutA_to {xs : List α} {k : Int} (h : 0 ≤ k) : cutA xs none (some k) = xs.take k.toNat := by
  unfold cutA
  rw [sIx_pos h, HT.sIx_none, List.drop_zero, Nat.sub_zero]
  by_cases l : k.toNat ≤ xs.length
  · rw [Nat.min_eq_left l]
  · rw [Nat.min_eq_right (by omega), List.take_of_length_le (Nat.le_refl _), List.take_of_length_le (by omega)]
theorem cutA_from {xs : List α} {k : Int} (h : 0 ≤ k) : cutA xs (some k) none = xs.drop k.toNat := by
  unfold cutA
  rw [sIx_pos h, HT.sIx_none]
  by_cases l : k.toNat ≤ xs.length
  · rw [Nat.min_eq_left l, List.take_of_length_le (by rw [List.length_drop]; exact Nat.le_refl _)]
  · rw [Nat.min_eq_right (by omega), List.drop_length, List.drop_eq_nil_of_le (by omega), List.take_nil]
theorem cutA_sub {xs : List α} {lo hi : Option Int} : (∀ x ∈ cutA xs lo hi, x ∈ xs) ∧ (cutA xs lo hi).length ≤ xs.length := by
  unfold cutA
  refine ⟨fun x h => List.mem_of_mem_drop (List.mem_of_mem_take h), ?_⟩
  rw [List.length_take, List.length_drop]
  omega
theorem pickA_sub {xs : List α} {lo hi st : Option Int} : ∀ x ∈ pickA xs lo hi st, x ∈ xs := by
  intro x h
  obtain ⟨i, _, h⟩ := List.mem_filterMap.mp h
  exact List.mem_of_getElem? h
theorem step_len {xs : List α} {c : Int} (h : c = 1 ∨ c = -1 ∨ c = 2) : (pickA xs none none (some c)).length ≤ xs.length := by
  unfold pickA
  refine Nat.le_trans (List.length_filterMap_le _ _) ?_
  unfold sliceRange
  rw [List.length_map, List.length_range]
  rcases h with rfl | rfl | rfl
  · simp only [sliceBounds, Option.getD_some, show (1 : Int) > 0 by omega, if_true]
    split <;> omega
  · simp only [sliceBounds, Option.getD_some, show ¬ ((-1 : Int) > 0) by omega, if_false, Int.neg_neg, Int.ediv_one]
    split <;> omega
  · simp only [sliceBounds, Option.getD_some, show (2 : Int) > 0 by omega, if_true]
    split <;> omega
theorem stepO_sub {xs : List α} {c : Int} (h : c = 1 ∨ c = -1 ∨ c = 2) (hl : xs.length ≤ big) : ∃ ys, stepO xs c = some ys ∧ (∀ y ∈ ys, y ∈ xs) ∧ ys.length ≤ xs.length := by
  have k := step_len (xs := xs) h
  refine ⟨_, ?_, pickA_sub, k⟩
  unfold stepO pickO
  exact if_pos ⟨by rcases h with rfl | rfl | rfl <;> decide, Nat.le_trans k hl⟩
end
end DL

namespace DL
open PySem PySem.Spec L2
section
variable {S α β γ : Type} {X : Cx} {e e1 e2 elt iter cond tg : Expr} {δ : S → Sl} {pos p p2 : Pos} {x : Str} {scope scope0 : Scope} {own : List (Str × Nat)} {y0 : BkT}
/-! a comprehension within one -/
theorem lookup_map {f : Str × NameKind → NameKind} : ∀ {names : List (Str × NameKind)} {x : Str} {k : NameKind}, names.lookup x = some k → (names.map fun q => (q.1, f q)).lookup x = some (f (x, k))
  | [], _, _, h => by cases h
  | (n, k0) :: r, x, k, h => by
    rw [List.map_cons]
    rw [List.lookup_cons] at h ⊢
    split at h
    · rename_i e
      have e' := eq_of_beq e
      subst e'
      cases h
      simp
    · rename_i e
      simp only [e]
      exact lookup_map h
theorem relabel_eq (scope : Scope) (env : Env) : relabel scope env = { scope with names := scope.names.map fun q => (q.1, if (q.2 == NameKind.free && env.scope.kind == .function && env.kindOf q.1 == some .cell) then NameKind.cell else q.2) } := by
  unfold relabel
  congr 1
  refine List.map_congr_left fun q _ => ?_
  obtain ⟨n, k⟩ := q
  show (if _ then (n, NameKind.cell) else (n, k)) = (n, if _ then NameKind.cell else k)
  split <;> rfl
theorem BlkOk.re {N : List Str} {env : Env} (ok : BlkOk N scope0 scope own) : BlkOk N (relabel scope0 env) scope own := by
  refine ⟨ok.kind, ok.uniq, ok.ix, fun y hy e => ?_, ok.own⟩
  rw [relabel_eq]
  rcases ok.free y hy e with h | h
  · exact .inl (lookup_map h)
  · have h2 := lookup_map (f := fun q => if (q.2 == NameKind.free && env.scope.kind == .function && env.kindOf q.1 == some .cell) then NameKind.cell else q.2) h
    split at h2
    · exact .inl h2
    · exact .inr h2
theorem pe_c0n (hc : X.calm = true) (hN : X.N.Nodup) (ok : BlkOk X.N scope0 scope own) (hs : ∀ x, foldedSetIterable iter (Bk X scope0 y0).env x = pure x := by intro _; rfl) : PE (Bk X scope0 y0) (.ListComp elt [⟨tg, iter, [], 0⟩] scope pos) (tC0 (Bk X scope0 y0) tg iter elt scope (own.map (·.2))) :=
  pe_c0 (X := Bk X scope0 y0) hc hN (BlkOk.re ok) hs
theorem pe_c1n (hc : X.calm = true) (hN : X.N.Nodup) (ok : BlkOk X.N scope0 scope own) (hs : ∀ x, foldedSetIterable iter (Bk X scope0 y0).env x = pure x := by intro _; rfl) : PE (Bk X scope0 y0) (.ListComp elt [⟨tg, iter, [cond], 0⟩] scope pos) (tC1 (Bk X scope0 y0) tg iter elt cond scope (own.map (·.2))) :=
  pe_c1 (X := Bk X scope0 y0) hc hN (BlkOk.re ok) hs
/-! gcd -/
theorem Dx.gcd {ma mb : S → Option (Int × S)} (hm : X.mg x = some (.builtin "math.gcd")) (ha : Dx X e1 δ rI ma) (hb : Dx X e2 δ rI mb) (hg : Gl X x := by rfl) (hdb : (x == ("__debug__" : Str)) = false := by decide)
    (he : starEach [e1, e2] X.env = (false, eval e1 X.env) :: starEach [e2] X.env := by rfl) (hs2 : starEach [e2] X.env = (false, eval e2 X.env) :: starEach [] X.env := by rfl) (hpl : (backTo pos (starEach [e2] X.env)).any (·.1) = false := by rfl) :
    Dx X (.Call (.Name x p) [e1, e2] [] pos) δ rI (bd ma fun a => bd mb fun b => pu ((Nat.gcd a.natAbs b.natAbs : Nat) : Int)) := by
  intro kc O He H σ s s' c Q hm' er q
  obtain ⟨a, s1, h1, h2⟩ := bd_some hm'
  obtain ⟨b, s2, h3, h4⟩ := bd_some h2
  obtain ⟨rfl, rfl⟩ := pu_some h4
  refine PEwp (pe_callBfun cr_gcd hg hm (pa2 he hs2 (peW X e2)) hdb he hpl) (two ha (fun _ => hb) kc h1 h3 er fun u v H' k er' ru rv => ?_)
  cases ru
  cases rv
  exact ⟨a, b, rfl, q _ H' k er' (.int _)⟩
end
end DL

namespace K65
open PySem PySem.Spec L2 DL
/-! ### the mirrors -/
noncomputable section
def m_fraction (a : Int × Int) : Unit → Option (Fl Unit Unit (Int × Int) × Unit) :=
  (bd (bd (pu a.1) fun (x1 : Int) => bd (pu a.2) fun (x2 : Int) => pu ((Nat.gcd x1.natAbs x2.natAbs : Nat) : Int)) fun (share_3 : Int) => (seqF (bd (bd (pu a.2) fun (x4 : Int) => bd (pu (0 : Int)) fun (x5 : Int) => pu (decide (x4 < x5))) fun (c6 : Bool) => if c6 then (bd (bd (pu share_3) fun (x8 : Int) => pu (-x8)) fun (share_9 : Int) => (pu (.nx share_9))) else (pu (.nx share_3))) fun (g7 : Int) => (bd (bd (bd (pu a.1) fun (x10 : Int) => bd (pu g7) fun (x11 : Int) => lf (fdivO x10 x11)) fun (x12 : Int) => bd (bd (pu a.2) fun (x13 : Int) => bd (pu g7) fun (x14 : Int) => lf (fdivO x13 x14)) fun (x15 : Int) => pu (x12, x15)) fun (x16 : (Int × Int)) => pu (.rt x16))))
def F_fraction (a : Int × Int) : Option (Int × Int) := run0 (m_fraction a) ()
def m_median (a : (List Int)) : Unit → Option (Fl Unit Unit (Option (Int × Int)) × Unit) :=
  (bd (bd (pu a) fun (x17 : List Int) => pu (srt x17)) fun (row_18 : (List Int)) => (bd (bd (pu row_18) fun (x19 : (List Int)) => pu (x19.length : Int)) fun (many_20 : Int) => (bd (bd (pu many_20) fun (x21 : Int) => bd (pu (0 : Int)) fun (x22 : Int) => pu (decide (x21 = x22))) fun (c23 : Bool) => if c23 then (bd (pu none) fun (x24 : (Option (Int × Int))) => pu (.rt x24)) else (bd (bd (bd (bd (bd (bd (pu row_18) fun (x29 : (List Int)) => bd (bd (bd (pu many_20) fun (x25 : Int) => bd (pu (1 : Int)) fun (x26 : Int) => pu (x25 - x26)) fun (x27 : Int) => bd (pu (2 : Int)) fun (x28 : Int) => lf (fdivO x27 x28)) fun (x30 : Int) => lf (atI x29 x30)) fun (x35 : Int) => bd (bd (pu row_18) fun (x33 : (List Int)) => bd (bd (pu many_20) fun (x31 : Int) => bd (pu (2 : Int)) fun (x32 : Int) => lf (fdivO x31 x32)) fun (x34 : Int) => lf (atI x33 x34)) fun (x36 : Int) => pu (x35 + x36)) fun (x37 : Int) => bd (pu (2 : Int)) fun (x38 : Int) => pu (x37, x38)) fun (x39 : (Int × Int)) => lf (F_fraction x39)) fun (x40 : (Int × Int)) => pu (some x40)) fun (x41 : (Option (Int × Int))) => pu (.rt x41)))))
def F_median (a : (List Int)) : Option (Option (Int × Int)) := run0 (m_median a) ()
def m_spread (a : (List Int)) : Unit → Option (Fl Unit Unit (Int × Int) × Unit) :=
  (bd (bd (pu a) fun (x42 : (List Int)) => pu (x42.length : Int)) fun (many_43 : Int) => (bd (bd (pu a) fun (x44 : List Int) => pu x44.sum) fun (whole_45 : Int) => (bd (bd (bd (pu a) fun (x47 : List Int) => lcM x47 (mapS x47 fun (v46 : Int) => (bd (pu v46) fun (x48 : Int) => bd (pu v46) fun (x49 : Int) => lf (mulO x48 x49)))) fun (x50 : List Int) => pu x50.sum) fun (squares_51 : Int) => (bd (bd (bd (bd (bd (pu many_43) fun (x52 : Int) => bd (pu squares_51) fun (x53 : Int) => lf (mulO x52 x53)) fun (x56 : Int) => bd (bd (pu whole_45) fun (x54 : Int) => bd (pu whole_45) fun (x55 : Int) => lf (mulO x54 x55)) fun (x57 : Int) => pu (x56 - x57)) fun (x58 : Int) => bd (bd (pu many_43) fun (x59 : Int) => bd (pu many_43) fun (x60 : Int) => lf (mulO x59 x60)) fun (x61 : Int) => pu (x58, x61)) fun (x62 : (Int × Int)) => lf (F_fraction x62)) fun (x63 : (Int × Int)) => pu (.rt x63)))))
def F_spread (a : (List Int)) : Option (Int × Int) := run0 (m_spread a) ()
def m_ranked (a : (List Int)) : Unit → Option (Fl Unit Unit (List (Int × Int)) × Unit) :=
  (bd (pu ([] : List (Int × Int))) fun (found_64 : (List (Int × Int))) => (bd (pu a) fun (x92 : List Int) => seqF (loopS x92 (found_64 : (List (Int × Int))) fun (b67 : (List (Int × Int))) (v68 : Int) => (bd (bd (bd (pu a) fun (x70 : List Int) => lcM x70 (fltS x70 (fun (v69 : Int) => (bd (pu v69) fun (x71 : Int) => bd (pu v68) fun (x72 : Int) => pu (decide (x71 < x72)))) fun (v69 : Int) => (pu (1 : Int)))) fun (x73 : (List Int)) => pu (x73.length : Int)) fun (less_74 : Int) => (bd (bd (bd (pu a) fun (x76 : List Int) => lcM x76 (fltS x76 (fun (v75 : Int) => (bd (pu v75) fun (x77 : Int) => bd (pu v68) fun (x78 : Int) => pu (decide (x77 = x78)))) fun (v75 : Int) => (pu (1 : Int)))) fun (x79 : (List Int)) => pu (x79.length : Int)) fun (alike_80 : Int) => (bd (bd (bd (bd (bd (bd (pu (2 : Int)) fun (x81 : Int) => bd (pu less_74) fun (x82 : Int) => lf (mulO x81 x82)) fun (x83 : Int) => bd (pu alike_80) fun (x84 : Int) => pu (x83 + x84)) fun (x85 : Int) => bd (pu (1 : Int)) fun (x86 : Int) => pu (x85 + x86)) fun (x87 : Int) => bd (pu (2 : Int)) fun (x88 : Int) => pu (x87, x88)) fun (x89 : (Int × Int)) => lf (F_fraction x89)) fun (x90 : (Int × Int)) => gd (b67.length < big) (pu (.nx (b67 ++ [x90]))))))) fun (b91 : (List (Int × Int))) => (pu (.rt b91))))
def F_ranked (a : (List Int)) : Option (List (Int × Int)) := run0 (m_ranked a) ()
def m_moving_most (a : (List Int) × Int) : Unit → Option (Fl Unit Unit (List Int) × Unit) :=
  (bd (bd (bd (bd (bd (bd (pu a.1) fun (x93 : (List Int)) => pu (x93.length : Int)) fun (x94 : Int) => bd (pu a.2) fun (x95 : Int) => pu (x94 - x95)) fun (x96 : Int) => bd (pu (1 : Int)) fun (x97 : Int) => pu (x96 + x97)) fun (x98 : Int) => lf (rngO 0 x98)) fun (x100 : List Int) => lcM x100 (mapS x100 fun (v99 : Int) => (bd (bd (pu a.1) fun (x105 : (List Int)) => bd (bd (pu v99) fun (x101 : Int) => pu (some x101)) fun (x106 : Option Int) => bd (bd (bd (pu v99) fun (x102 : Int) => bd (pu a.2) fun (x103 : Int) => pu (x102 + x103)) fun (x104 : Int) => pu (some x104)) fun (x107 : Option Int) => pu (cutA x105 x106 x107)) fun (x108 : List Int) => lf x108.max?))) fun (x109 : (List Int)) => pu (.rt x109))
def F_moving_most (a : (List Int) × Int) : Option (List Int) := run0 (m_moving_most a) ()
def m_best_stretch (a : (List Int)) : Unit → Option (Fl Unit Unit (Option (Int × Int)) × Unit) :=
  (bd (pu none) fun (best_110 : (Option (Int × Int × Int))) => (bd (bd (bd (pu a) fun (x111 : (List Int)) => pu (x111.length : Int)) fun (x112 : Int) => lf (rngO 0 x112)) fun (x166 : List Int) => seqF (loopS x166 (best_110 : (Option (Int × Int × Int))) fun (b115 : (Option (Int × Int × Int))) (v116 : Int) => (bd (bd (bd (pu v116) fun (x117 : Int) => bd (pu (1 : Int)) fun (x118 : Int) => pu (x117 + x118)) fun (x122 : Int) => bd (bd (bd (pu a) fun (x119 : (List Int)) => pu (x119.length : Int)) fun (x120 : Int) => bd (pu (1 : Int)) fun (x121 : Int) => pu (x120 + x121)) fun (x123 : Int) => lf (rngO x122 x123)) fun (x148 : List Int) => seqF (loopS x148 (b115 : (Option (Int × Int × Int))) fun (b126 : (Option (Int × Int × Int))) (v127 : Int) => (bd (bd (bd (bd (bd (pu a) fun (x130 : (List Int)) => bd (bd (pu v116) fun (x128 : Int) => pu (some x128)) fun (x131 : Option Int) => bd (bd (pu v127) fun (x129 : Int) => pu (some x129)) fun (x132 : Option Int) => pu (cutA x130 x131 x132)) fun (x133 : List Int) => pu x133.sum) fun (x134 : Int) => pu (-x134)) fun (x135 : Int) => bd (pu v116) fun (x136 : Int) => bd (pu v127) fun (x137 : Int) => pu (x135, x136, x137)) fun (entry_138 : (Int × Int × Int)) => (bd (bd (bd (pu b126) fun (x139 : (Option (Int × Int × Int))) => pu (x139.isNone)) fun (c143 : Bool) => if c143 then (pu true) else (bd (pu entry_138) fun (x141 : (Int × Int × Int)) => bd (bd (pu b126) fun (x140 : (Option (Int × Int × Int))) => lf x140) fun (x142 : (Int × Int × Int)) => pu (HT.lexLt [x141.1, x141.2.1, x141.2.2] [x142.1, x142.2.1, x142.2.2]))) fun (c144 : Bool) => if c144 then (bd (bd (pu entry_138) fun (x145 : (Int × Int × Int)) => pu (some x145)) fun (best_146 : (Option (Int × Int × Int))) => (pu (.nx best_146))) else (pu (.nx b126))))) fun (b147 : (Option (Int × Int × Int))) => (pu (.nx b147)))) fun (b149 : (Option (Int × Int × Int))) => (bd (bd (bd (pu b149) fun (x150 : (Option (Int × Int × Int))) => pu (!x150.isNone)) fun (c164 : Bool) => if c164 then (bd (bd (bd (bd (pu b149) fun (x157 : (Option (Int × Int × Int))) => lf x157) fun (x158 : (Int × Int × Int)) => pu x158.2.1) fun (x159 : Int) => bd (bd (bd (pu b149) fun (x160 : (Option (Int × Int × Int))) => lf x160) fun (x161 : (Int × Int × Int)) => pu x161.2.2) fun (x162 : Int) => pu (x159, x162)) fun (x163 : (Int × Int)) => pu (some x163)) else (pu none)) fun (x165 : (Option (Int × Int))) => pu (.rt x165))))
def F_best_stretch (a : (List Int)) : Option (Option (Int × Int)) := run0 (m_best_stretch a) ()
def m_records (a : (List Int)) : Unit → Option (Fl Unit Unit (List Int) × Unit) :=
  (bd (bd (bd (pu a) fun (x167 : (List Int)) => pu (enumL x167)) fun (x169 : List (Int × Int)) => lcM x169 (fltS x169 (fun (v168 : (Int × Int)) => (bd (bd (bd (pu a) fun (x171 : (List Int)) => bd (pu none) fun (x172 : Option Int) => bd (bd (pu v168.1) fun (x170 : Int) => pu (some x170)) fun (x173 : Option Int) => pu (cutA x171 x172 x173)) fun (x175 : List Int) => lcM x175 (mapS x175 fun (v174 : Int) => (bd (pu v174) fun (x176 : Int) => bd (pu v168.2) fun (x177 : Int) => pu (decide (x176 < x177))))) fun (x178 : List Bool) => pu (x178.all id))) fun (v168 : (Int × Int)) => (pu v168.1))) fun (x179 : (List Int)) => pu (.rt x179))
def F_records (a : (List Int)) : Option (List Int) := run0 (m_records a) ()
def m_trend (a : (List Int)) : Unit → Option (Fl Unit Unit Int × Unit) :=
  (bd (pu (0 : Int)) fun (found_180 : Int) => (bd (bd (pu a) fun (x181 : (List Int)) => pu (enumL x181)) fun (x214 : List (Int × Int)) => seqF (loopS x214 (found_180 : Int) fun (b184 : Int) (v185 : (Int × Int)) => (bd (bd (bd (bd (pu a) fun (x189 : (List Int)) => bd (bd (bd (pu v185.1) fun (x186 : Int) => bd (pu (1 : Int)) fun (x187 : Int) => pu (x186 + x187)) fun (x188 : Int) => pu (some x188)) fun (x190 : Option Int) => bd (pu none) fun (x191 : Option Int) => pu (cutA x189 x190 x191)) fun (x193 : List Int) => lcM x193 (fltS x193 (fun (v192 : Int) => (bd (pu v192) fun (x194 : Int) => bd (pu v185.2) fun (x195 : Int) => pu (decide (x195 < x194)))) fun (v192 : Int) => (pu (1 : Int)))) fun (x196 : (List Int)) => pu (x196.length : Int)) fun (x197 : Int) => bd (pu (b184 + x197)) fun (found_198 : Int) => (bd (bd (bd (bd (pu a) fun (x202 : (List Int)) => bd (bd (bd (pu v185.1) fun (x199 : Int) => bd (pu (1 : Int)) fun (x200 : Int) => pu (x199 + x200)) fun (x201 : Int) => pu (some x201)) fun (x203 : Option Int) => bd (pu none) fun (x204 : Option Int) => pu (cutA x202 x203 x204)) fun (x206 : List Int) => lcM x206 (fltS x206 (fun (v205 : Int) => (bd (pu v205) fun (x207 : Int) => bd (pu v185.2) fun (x208 : Int) => pu (decide (x207 < x208)))) fun (v205 : Int) => (pu (1 : Int)))) fun (x209 : (List Int)) => pu (x209.length : Int)) fun (x210 : Int) => bd (pu (found_198 - x210)) fun (found_211 : Int) => (pu (.nx found_211))))) fun (b212 : Int) => (bd (pu b212) fun (x213 : Int) => pu (.rt x213))))
def F_trend (a : (List Int)) : Option Int := run0 (m_trend a) ()
def m_by_class (a : (List Int) × (List Int)) : Unit → Option (Fl Unit Unit (List Int) × Unit) :=
  (bd (bd (bd (pu a.2) fun (x216 : List Int) => lcM x216 (mapS x216 fun (v215 : Int) => (pu (0 : Int)))) fun (x218 : (List Int)) => bd (bd (pu (0 : Int)) fun (x217 : Int) => pu ([x217] : List Int)) fun (x219 : (List Int)) => lf (catO x218 x219)) fun (found_220 : (List Int)) => (bd (pu a.1) fun (x236 : List Int) => seqF (loopS x236 (found_220 : (List Int)) fun (b223 : (List Int)) (v224 : Int) => (bd (bd (bd (pu a.2) fun (x226 : List Int) => lcM x226 (fltS x226 (fun (v225 : Int) => (bd (pu v225) fun (x227 : Int) => bd (pu v224) fun (x228 : Int) => pu (decide (x227 ≤ x228)))) fun (v225 : Int) => (pu (1 : Int)))) fun (x229 : (List Int)) => pu (x229.length : Int)) fun (x231 : Int) => bd (lf (ixN b223.length x231)) fun (n232 : Nat) => bd (lf b223[n232]?) fun (x233 : Int) => bd (pu (1 : Int)) fun (x230 : Int) => bd (pu (b223.set n232 (x233 + x230))) fun (found_234 : List Int) => (pu (.nx found_234)))) fun (b235 : (List Int)) => (pu (.rt b235))))
def F_by_class (a : (List Int) × (List Int)) : Option (List Int) := run0 (m_by_class a) ()
def m_law_cell (a : (List Int) × Int) : Unit → Option (Fl Unit Unit Int × Unit) :=
  (bd (bd (pu a.2) fun (x237 : Int) => bd (pu (a.1.length : Int)) fun (x238 : Int) => pu (decide (x237 < x238))) fun (c239 : Bool) => if c239 then (bd (bd (pu a.2) fun (x240 : Int) => lf (atI a.1 x240)) fun (x241 : Int) => pu (.rt x241)) else (bd (pu (0 : Int)) fun (x242 : Int) => pu (.rt x242)))
def F_law_cell (a : (List Int) × Int) : Option Int := run0 (m_law_cell a) ()
def m_law_digits (a : (List Int) × Int × Int) : Unit → Option (Fl Unit Unit (List Int) × Unit) :=
  (bd (pu ([] : List Int)) fun (digits_243 : (List Int)) => (bd (bd (pu a.2.1) fun (x244 : Int) => bd (pu a.2.2) fun (x245 : Int) => lf (rngO x244 x245)) fun (x322 : List Int) => seqF (loopS x322 (digits_243 : (List Int)) fun (b248 : (List Int)) (v249 : Int) => (bd (bd (bd (pu v249) fun (x250 : Int) => pu (a.1, x250)) fun (x251 : ((List Int) × Int)) => lf (F_law_cell x251)) fun (cell_252 : Int) => (seqF (bd (bd (pu cell_252) fun (x253 : Int) => bd (pu (0 : Int)) fun (x254 : Int) => pu (decide (x253 < x254))) fun (c255 : Bool) => if c255 then (bd (bd (pu (1 : Int)) fun (x259 : Int) => bd (bd (pu (2 : Int)) fun (x257 : Int) => bd (pu cell_252) fun (x258 : Int) => lf (mulO x257 x258)) fun (x260 : Int) => pu (x259 - x260)) fun (cell_261 : Int) => (pu (.nx cell_261))) else (pu (.nx cell_252))) fun (g256 : Int) => (bd (bd (pu g256) fun (x264 : Int) => bd (bd (pu (10 : Int)) fun (x262 : Int) => bd (pu (18 : Int)) fun (x263 : Int) => lf (powO x262 x263)) fun (x265 : Int) => pu (decide (x265 ≤ x264))) fun (c266 : Bool) => if c266 then (bd (bd (pu (60 : Int)) fun (x267 : Int) => lf (rngO 0 x267)) fun (x283 : List Int) => seqF (loopS x283 ((b248, g256) : (List Int) × Int) fun (b270 : (List Int) × Int) (v271 : Int) => (bd (bd (pu b270.2) fun (x272 : Int) => bd (pu (0 : Int)) fun (x273 : Int) => pu (decide (x273 < x272))) fun (c274 : Bool) => if c274 then (bd (bd (bd (pu b270.2) fun (x275 : Int) => pu x275) fun (x276 : Int) => bd (pu (1000 : Int)) fun (x277 : Int) => lf (modO x276 x277)) fun (x278 : Int) => gd (b270.1.length < big) (bd (bd (pu b270.2) fun (x279 : Int) => bd (pu (1000 : Int)) fun (x280 : Int) => lf (fdivO x279 x280)) fun (cell_281 : Int) => (pu (.nx ((b270.1 ++ [x278]), cell_281))))) else (pu (.nx (b270.1, b270.2))))) fun (b282 : (List Int) × Int) => (pu (.nx b282.1))) else (bd (bd (bd (bd (bd (bd (pu g256) fun (x284 : Int) => bd (pu (48271 : Int)) fun (x285 : Int) => lf (mulO x284 x285)) fun (x288 : Int) => bd (bd (pu v249) fun (x286 : Int) => bd (pu (69621 : Int)) fun (x287 : Int) => lf (mulO x286 x287)) fun (x289 : Int) => pu (x288 + x289)) fun (x290 : Int) => bd (pu (11 : Int)) fun (x291 : Int) => pu (x290 + x291)) fun (x292 : Int) => pu x292) fun (x293 : Int) => bd (pu (2147483647 : Int)) fun (x294 : Int) => lf (modO x293 x294)) fun (seed_295 : Int) => (bd (bd (pu (12 : Int)) fun (x296 : Int) => lf (rngO 0 x296)) fun (x320 : List Int) => seqF (loopS x320 ((b248, seed_295) : (List Int) × Int) fun (b299 : (List Int) × Int) (v300 : Int) => (bd (bd (bd (bd (bd (bd (pu b299.2) fun (x301 : Int) => bd (pu (16807 : Int)) fun (x302 : Int) => lf (mulO x301 x302)) fun (x305 : Int) => bd (bd (pu (7 : Int)) fun (x303 : Int) => bd (pu v300) fun (x304 : Int) => lf (mulO x303 x304)) fun (x306 : Int) => pu (x305 + x306)) fun (x307 : Int) => bd (pu (1 : Int)) fun (x308 : Int) => pu (x307 + x308)) fun (x309 : Int) => pu x309) fun (x310 : Int) => bd (pu (2147483647 : Int)) fun (x311 : Int) => lf (modO x310 x311)) fun (seed_312 : Int) => (bd (bd (bd (bd (pu seed_312) fun (x313 : Int) => bd (pu (997 : Int)) fun (x314 : Int) => lf (fdivO x313 x314)) fun (x315 : Int) => pu x315) fun (x316 : Int) => bd (pu (1000 : Int)) fun (x317 : Int) => lf (modO x316 x317)) fun (x318 : Int) => gd (b299.1.length < big) (pu (.nx ((b299.1 ++ [x318]), seed_312)))))) fun (b319 : (List Int) × Int) => (pu (.nx b319.1)))))))) fun (b321 : (List Int)) => (pu (.rt b321))))
def F_law_digits (a : (List Int) × Int × Int) : Option (List Int) := run0 (m_law_digits a) ()
def m_law_draw (ds : List Int) (a : Int) : Int → Option (Fl Unit Unit Int × Int) :=
  (bd (bd (fun (c : Int) => some (c, c)) fun (x323 : Int) => bd (pu (1 : Int)) fun (x324 : Int) => pu (x323 + x324)) fun (x325 : Int) _ => (bd (bd (fun (c : Int) => some (c, c)) fun (x327 : Int) => bd (bd (pu ds) fun (x326 : (List Int)) => pu (x326.length : Int)) fun (x328 : Int) => pu (decide (x328 < x327))) fun (c329 : Bool) => if c329 then (bd (bd (bd (bd (bd (fun (c : Int) => some (c, c)) fun (x330 : Int) => bd (pu (7 : Int)) fun (x331 : Int) => lf (mulO x330 x331)) fun (x332 : Int) => bd (pu (3 : Int)) fun (x333 : Int) => pu (x332 + x333)) fun (x334 : Int) => pu x334) fun (x335 : Int) => bd (pu a) fun (x336 : Int) => lf (modO x335 x336)) fun (x337 : Int) => pu (.rt x337)) else (bd (bd (bd (bd (pu ds) fun (x340 : (List Int)) => bd (bd (fun (c : Int) => some (c, c)) fun (x338 : Int) => bd (pu (1 : Int)) fun (x339 : Int) => pu (x338 - x339)) fun (x341 : Int) => lf (atI x340 x341)) fun (x342 : Int) => pu x342) fun (x343 : Int) => bd (pu a) fun (x344 : Int) => lf (modO x343 x344)) fun (x345 : Int) => pu (.rt x345))) x325)
def F_law_draw (ds : List Int) (a : Int) : Int → Option (Int × Int) := runS (m_law_draw ds a)
def m_law_pick {α : Type} (ds : List Int) (row : List α) : Int → Option (Fl Unit Unit α × Int) :=
  bd (bd (pu row) fun (x : List α) => bd (bd (bd (bd (bd (pu (1000 : Int)) fun (x : Int) => pu x) fun (x : Int) => F_law_draw ds x) fun (x : Int) => pu x) fun (y : Int) => bd (bd (pu row) fun (z : List α) => pu (z.length : Int)) fun (z : Int) => lf (modO y z)) fun (i : Int) => lf (atI x i)) fun (x : α) => pu (.rt x)
def F_law_pick {α : Type} (ds : List Int) (row : List α) : Int → Option (α × Int) := runS (m_law_pick ds row)
def m_law_low (a : Int × Int) : Unit → Option (Fl Unit Unit (Int × Int) × Unit) :=
  (bd (bd (pu a.1) fun (x355 : Int) => pu (if x355 < 0 then -x355 else x355)) fun (one_356 : Int) => bd (pu a.2) fun (other_357 : Int) => (seqF (whileS ((one_356, other_357) : Int × Int) (fun (b359 : Int × Int) => (bd (pu b359.2) fun (x360 : Int) => bd (pu (0 : Int)) fun (x361 : Int) => pu (decide (x361 < x360)))) fun (b359 : Int × Int) => (bd (pu b359.2) fun (one_365 : Int) => bd (bd (bd (pu b359.1) fun (x362 : Int) => pu x362) fun (x363 : Int) => bd (pu b359.2) fun (x364 : Int) => lf (modO x363 x364)) fun (other_366 : Int) => (pu (.nx (one_365, other_366))))) fun (b367 : Int × Int) => (bd (bd (bd (pu a.1) fun (x368 : Int) => bd (pu b367.1) fun (x369 : Int) => lf (fdivO x368 x369)) fun (x370 : Int) => bd (bd (pu a.2) fun (x371 : Int) => bd (pu b367.1) fun (x372 : Int) => lf (fdivO x371 x372)) fun (x373 : Int) => pu (x370, x373)) fun (x374 : (Int × Int)) => pu (.rt x374))))
def F_law_low (a : Int × Int) : Option (Int × Int) := run0 (m_law_low a) ()
def m_law_numbers (ds : List Int) (a : Unit) : Int → Option (Fl Unit Unit (List Int) × Int) :=
  (bd (bd (bd (bd (pu (9 : Int)) fun (x375 : Int) => bd (pu (8 : Int)) fun (x376 : Int) => bd (pu (7 : Int)) fun (x377 : Int) => bd (pu (6 : Int)) fun (x378 : Int) => bd (pu (5 : Int)) fun (x379 : Int) => bd (pu (4 : Int)) fun (x380 : Int) => bd (pu (3 : Int)) fun (x381 : Int) => bd (pu (2 : Int)) fun (x382 : Int) => bd (pu (1 : Int)) fun (x383 : Int) => bd (pu (0 : Int)) fun (x384 : Int) => pu ([x375, x376, x377, x378, x379, x380, x381, x382, x383, x384] : List Int)) fun (x385 : (List Int)) => pu x385) fun (x385 : (List Int)) => F_law_pick ds x385) fun (many_386 : Int) => (bd (bd (bd (bd (pu (20 : Int)) fun (x387 : Int) => bd (pu (4 : Int)) fun (x388 : Int) => bd (pu (900 : Int)) fun (x389 : Int) => bd (pu (2 : Int)) fun (x390 : Int) => pu ([x387, x388, x389, x390] : List Int)) fun (x391 : (List Int)) => pu x391) fun (x391 : (List Int)) => F_law_pick ds x391) fun (most_392 : Int) => (bd (bd (bd (pu (6 : Int)) fun (x393 : Int) => pu x393) fun (x394 : Int) => F_law_draw ds x394) fun (kind_395 : Int) => (bd (bd (bd (pu many_386) fun (x396 : Int) => lf (rngO 0 x396)) fun (x398 : List Int) => lcM x398 (mapS x398 fun (v397 : Int) => (bd (bd (bd (pu most_392) fun (x399 : Int) => pu x399) fun (x400 : Int) => F_law_draw ds x400) fun (x403 : Int) => bd (bd (pu most_392) fun (x401 : Int) => bd (pu (2 : Int)) fun (x402 : Int) => lf (fdivO x401 x402)) fun (x404 : Int) => pu (x403 - x404)))) fun (row_405 : (List Int)) => (seqF (bd (bd (pu kind_395) fun (x406 : Int) => bd (pu (0 : Int)) fun (x407 : Int) => pu (decide (x406 = x407))) fun (c408 : Bool) => if c408 then (bd (bd (bd (pu row_405) fun (x410 : List Int) => pu (srt x410)) fun (x416 : (List Int)) => bd (bd (bd (bd (pu (1 : Int)) fun (x412 : Int) => bd (bd (pu (1 : Int)) fun (x413 : Int) => pu (-x413)) fun (x414 : Int) => pu ([x412, x414] : List Int)) fun (x415 : (List Int)) => pu x415) fun (x415 : (List Int)) => F_law_pick ds x415) fun (x417 : Int) => lf (stepO x416 x417)) fun (row_418 : (List Int)) => (pu (.nx row_418))) else (pu (.nx row_405))) fun (g409 : (List Int)) => (seqF (bd (bd (pu kind_395) fun (x419 : Int) => bd (pu (1 : Int)) fun (x420 : Int) => pu (decide (x419 = x420))) fun (c421 : Bool) => if c421 then (bd (bd (pu g409) fun (x424 : List Int) => lcM x424 (mapS x424 fun (v423 : Int) => (bd (bd (pu v423) fun (x425 : Int) => bd (pu (100000 : Int)) fun (x426 : Int) => lf (mulO x425 x426)) fun (x427 : Int) => bd (pu (7 : Int)) fun (x428 : Int) => pu (x427 + x428)))) fun (row_429 : (List Int)) => (pu (.nx row_429))) else (pu (.nx g409))) fun (g422 : (List Int)) => (seqF (bd (bd (pu kind_395) fun (x430 : Int) => bd (pu (2 : Int)) fun (x431 : Int) => pu (decide (x430 = x431))) fun (c432 : Bool) => if c432 then (bd (bd (pu g422) fun (x435 : List Int) => lcM x435 (mapS x435 fun (v434 : Int) => (bd (bd (pu (0 : Int)) fun (x437 : Int) => bd (bd (pu v434) fun (x436 : Int) => pu (if x436 < 0 then -x436 else x436)) fun (x438 : Int) => pu (x437 - x438)) fun (x439 : Int) => bd (pu (1 : Int)) fun (x440 : Int) => pu (x439 - x440)))) fun (row_441 : (List Int)) => (pu (.nx row_441))) else (pu (.nx g422))) fun (g433 : (List Int)) => (pu (.rt g433)))))))))
def F_law_numbers (ds : List Int) (a : Unit) : Int → Option ((List Int) × Int) := runS (m_law_numbers ds a)
def m_law_middle (a : (List Int)) : Unit → Option (Fl Unit Unit (Option (Int × Int)) × Unit) :=
  (bd (bd (pu a) fun (x442 : List Int) => pu (srt x442)) fun (row_443 : (List Int)) => (seqF (whileS (row_443 : (List Int)) (fun (b445 : (List Int)) => (bd (bd (pu b445) fun (x446 : (List Int)) => pu (x446.length : Int)) fun (x447 : Int) => bd (pu (2 : Int)) fun (x448 : Int) => pu (decide (x448 < x447)))) fun (b445 : (List Int)) => (bd (bd (pu b445) fun (x452 : (List Int)) => bd (bd (pu (1 : Int)) fun (x449 : Int) => pu (some x449)) fun (x453 : Option Int) => bd (bd (bd (pu (1 : Int)) fun (x450 : Int) => pu (-x450)) fun (x451 : Int) => pu (some x451)) fun (x454 : Option Int) => pu (cutA x452 x453 x454)) fun (row_455 : (List Int)) => (pu (.nx row_455)))) fun (b456 : (List Int)) => (bd (bd (bd (pu b456) fun (x457 : (List Int)) => bd (pu ([] : List Int)) fun (x458 : (List Int)) => pu (!decide (x457 = x458))) fun (c470 : Bool) => if c470 then (bd (bd (bd (bd (pu b456) fun (x464 : List Int) => pu x464.sum) fun (x465 : Int) => bd (bd (pu b456) fun (x466 : (List Int)) => pu (x466.length : Int)) fun (x467 : Int) => pu (x465, x467)) fun (x468 : (Int × Int)) => lf (F_law_low x468)) fun (x469 : (Int × Int)) => pu (some x469)) else (pu none)) fun (x471 : (Option (Int × Int))) => pu (.rt x471))))
def F_law_middle (a : (List Int)) : Option (Option (Int × Int)) := run0 (m_law_middle a) ()
def m_law_square (a : (List Int)) : Unit → Option (Fl Unit Unit (Int × Int) × Unit) :=
  (bd (bd (pu a) fun (x472 : (List Int)) => pu (x472.length : Int)) fun (many_473 : Int) => (bd (pu (0 : Int)) fun (found_474 : Int) => (bd (bd (pu many_473) fun (x475 : Int) => lf (rngO 0 x475)) fun (x511 : List Int) => seqF (loopS x511 (found_474 : Int) fun (b478 : Int) (v479 : Int) => (bd (bd (pu v479) fun (x480 : Int) => lf (rngO 0 x480)) fun (x503 : List Int) => seqF (loopS x503 (b478 : Int) fun (b483 : Int) (v484 : Int) => (bd (bd (pu b483) fun (x499 : Int) => bd (bd (bd (bd (pu a) fun (x485 : (List Int)) => bd (pu v479) fun (x486 : Int) => lf (atI x485 x486)) fun (x489 : Int) => bd (bd (pu a) fun (x487 : (List Int)) => bd (pu v484) fun (x488 : Int) => lf (atI x487 x488)) fun (x490 : Int) => pu (x489 - x490)) fun (x497 : Int) => bd (bd (bd (pu a) fun (x491 : (List Int)) => bd (pu v479) fun (x492 : Int) => lf (atI x491 x492)) fun (x495 : Int) => bd (bd (pu a) fun (x493 : (List Int)) => bd (pu v484) fun (x494 : Int) => lf (atI x493 x494)) fun (x496 : Int) => pu (x495 - x496)) fun (x498 : Int) => lf (mulO x497 x498)) fun (x500 : Int) => pu (x499 + x500)) fun (found_501 : Int) => (pu (.nx found_501)))) fun (b502 : Int) => (pu (.nx b502)))) fun (b504 : Int) => (bd (bd (bd (pu b504) fun (x505 : Int) => bd (bd (pu many_473) fun (x506 : Int) => bd (pu many_473) fun (x507 : Int) => lf (mulO x506 x507)) fun (x508 : Int) => pu (x505, x508)) fun (x509 : (Int × Int)) => lf (F_law_low x509)) fun (x510 : (Int × Int)) => pu (.rt x510)))))
def F_law_square (a : (List Int)) : Option (Int × Int) := run0 (m_law_square a) ()
def m_law_ranks (a : (List Int)) : Unit → Option (Fl Unit Unit (List (Int × Int)) × Unit) :=
  (bd (bd (pu a) fun (x512 : List Int) => pu (srt x512)) fun (row_513 : (List Int)) => (bd (pu ([] : List (Int × Int))) fun (found_514 : (List (Int × Int))) => (bd (pu a) fun (x542 : List Int) => seqF (loopS x542 (found_514 : (List (Int × Int))) fun (b517 : (List (Int × Int))) (v518 : Int) => (bd (bd (bd (bd (pu row_513) fun (x519 : (List Int)) => pu (x519.length : Int)) fun (x520 : Int) => lf (rngO 0 x520)) fun (x522 : List Int) => lcM x522 (fltS x522 (fun (v521 : Int) => (bd (bd (pu row_513) fun (x523 : (List Int)) => bd (pu v521) fun (x524 : Int) => lf (atI x523 x524)) fun (x525 : Int) => bd (pu v518) fun (x526 : Int) => pu (decide (x525 = x526)))) fun (v521 : Int) => (pu v521))) fun (places_527 : (List Int)) => (bd (bd (bd (bd (bd (bd (pu places_527) fun (x528 : (List Int)) => bd (pu (0 : Int)) fun (x529 : Int) => lf (atI x528 x529)) fun (x533 : Int) => bd (bd (pu places_527) fun (x531 : (List Int)) => bd (bd (pu (1 : Int)) fun (x530 : Int) => pu (-x530)) fun (x532 : Int) => lf (atI x531 x532)) fun (x534 : Int) => pu (x533 + x534)) fun (x535 : Int) => bd (pu (2 : Int)) fun (x536 : Int) => pu (x535 + x536)) fun (x537 : Int) => bd (pu (2 : Int)) fun (x538 : Int) => pu (x537, x538)) fun (x539 : (Int × Int)) => lf (F_law_low x539)) fun (x540 : (Int × Int)) => gd (b517.length < big) (pu (.nx (b517 ++ [x540])))))) fun (b541 : (List (Int × Int))) => (pu (.rt b541)))))
def F_law_ranks (a : (List Int)) : Option (List (Int × Int)) := run0 (m_law_ranks a) ()
def m_law_stretch (a : (List Int)) : Unit → Option (Fl Unit Unit (Option (Int × Int)) × Unit) :=
  (bd (bd (pu none) fun (x543 : (Option (Int × Int))) => bd (pu (0 : Int)) fun (x544 : Int) => pu (x543, x544)) fun (t545 : ((Option (Int × Int)) × Int)) => (bd (bd (bd (pu a) fun (x546 : (List Int)) => pu (x546.length : Int)) fun (x547 : Int) => lf (rngO 0 x547)) fun (x585 : List Int) => seqF (loopS x585 ((t545.1, t545.2) : (Option (Int × Int)) × Int) fun (b550 : (Option (Int × Int)) × Int) (v551 : Int) => (bd (pu (0 : Int)) fun (size_552 : Int) => (bd (bd (bd (pu v551) fun (x553 : Int) => bd (pu (1 : Int)) fun (x554 : Int) => pu (x553 + x554)) fun (x558 : Int) => bd (bd (bd (pu a) fun (x555 : (List Int)) => pu (x555.length : Int)) fun (x556 : Int) => bd (pu (1 : Int)) fun (x557 : Int) => pu (x556 + x557)) fun (x559 : Int) => lf (rngO x558 x559)) fun (x582 : List Int) => seqF (loopS x582 ((b550.1, b550.2, size_552) : (Option (Int × Int)) × Int × Int) fun (b562 : (Option (Int × Int)) × Int × Int) (v563 : Int) => (bd (bd (pu b562.2.2) fun (x568 : Int) => bd (bd (pu a) fun (x566 : (List Int)) => bd (bd (pu v563) fun (x564 : Int) => bd (pu (1 : Int)) fun (x565 : Int) => pu (x564 - x565)) fun (x567 : Int) => lf (atI x566 x567)) fun (x569 : Int) => pu (x568 + x569)) fun (size_570 : Int) => (bd (bd (bd (pu b562.1) fun (x571 : (Option (Int × Int))) => pu (x571.isNone)) fun (c574 : Bool) => if c574 then (pu true) else (bd (pu size_570) fun (x572 : Int) => bd (pu b562.2.1) fun (x573 : Int) => pu (decide (x573 < x572)))) fun (c575 : Bool) => if c575 then (bd (bd (bd (pu v551) fun (x576 : Int) => bd (pu v563) fun (x577 : Int) => pu (x576, x577)) fun (x578 : (Int × Int)) => pu (some x578)) fun (best_579 : (Option (Int × Int))) => bd (pu size_570) fun (most_580 : Int) => (pu (.nx (best_579, most_580, size_570)))) else (pu (.nx (b562.1, b562.2.1, size_570)))))) fun (b581 : (Option (Int × Int)) × Int × Int) => (pu (.nx (b581.1, b581.2.1)))))) fun (b583 : (Option (Int × Int)) × Int) => (bd (pu b583.1) fun (x584 : (Option (Int × Int))) => pu (.rt x584))))
def F_law_stretch (a : (List Int)) : Option (Option (Int × Int)) := run0 (m_law_stretch a) ()
def m_law_windows (a : (List Int) × Int) : Unit → Option (Fl Unit Unit (List Int) × Unit) :=
  (bd (pu ([] : List Int)) fun (found_586 : (List Int)) => (bd (bd (bd (pu a.1) fun (x587 : (List Int)) => pu (x587.length : Int)) fun (x588 : Int) => lf (rngO 0 x588)) fun (x621 : List Int) => seqF (loopS x621 (found_586 : (List Int)) fun (b591 : (List Int)) (v592 : Int) => (bd (bd (bd (pu v592) fun (x593 : Int) => bd (pu a.2) fun (x594 : Int) => pu (x593 + x594)) fun (x596 : Int) => bd (bd (pu a.1) fun (x595 : (List Int)) => pu (x595.length : Int)) fun (x597 : Int) => pu (decide (x596 ≤ x597))) fun (c598 : Bool) => if c598 then (bd (bd (pu a.1) fun (x599 : (List Int)) => bd (pu v592) fun (x600 : Int) => lf (atI x599 x600)) fun (top_601 : Int) => (bd (bd (pu a.1) fun (x606 : (List Int)) => bd (bd (pu v592) fun (x602 : Int) => pu (some x602)) fun (x607 : Option Int) => bd (bd (bd (pu v592) fun (x603 : Int) => bd (pu a.2) fun (x604 : Int) => pu (x603 + x604)) fun (x605 : Int) => pu (some x605)) fun (x608 : Option Int) => pu (cutA x606 x607 x608)) fun (x619 : List Int) => seqF (loopS x619 (top_601 : Int) fun (b611 : Int) (v612 : Int) => (bd (bd (pu v612) fun (x613 : Int) => bd (pu b611) fun (x614 : Int) => pu (decide (x614 < x613))) fun (c615 : Bool) => if c615 then (bd (pu v612) fun (top_616 : Int) => (pu (.nx top_616))) else (pu (.nx b611)))) fun (b617 : Int) => (bd (pu b617) fun (x618 : Int) => gd (b591.length < big) (pu (.nx (b591 ++ [x618])))))) else (pu (.nx b591)))) fun (b620 : (List Int)) => (pu (.rt b620))))
def F_law_windows (a : (List Int) × Int) : Option (List Int) := run0 (m_law_windows a) ()
def m_law_trend (a : (List Int)) : Unit → Option (Fl Unit Unit Int × Unit) :=
  (bd (pu (0 : Int)) fun (found_622 : Int) => (bd (bd (bd (pu a) fun (x623 : (List Int)) => pu (x623.length : Int)) fun (x624 : Int) => lf (rngO 0 x624)) fun (x657 : List Int) => seqF (loopS x657 (found_622 : Int) fun (b627 : Int) (v628 : Int) => (bd (bd (pu v628) fun (x629 : Int) => lf (rngO 0 x629)) fun (x654 : List Int) => seqF (loopS x654 (b627 : Int) fun (b632 : Int) (v633 : Int) => (bd (bd (bd (pu b632) fun (x641 : Int) => bd (bd (bd (bd (pu a) fun (x634 : (List Int)) => bd (pu v633) fun (x635 : Int) => lf (atI x634 x635)) fun (x638 : Int) => bd (bd (pu a) fun (x636 : (List Int)) => bd (pu v628) fun (x637 : Int) => lf (atI x636 x637)) fun (x639 : Int) => pu (decide (x638 < x639))) fun (x640 : Bool) => pu (if x640 then (1 : Int) else 0)) fun (x642 : Int) => pu (x641 + x642)) fun (x650 : Int) => bd (bd (bd (bd (pu a) fun (x643 : (List Int)) => bd (pu v633) fun (x644 : Int) => lf (atI x643 x644)) fun (x647 : Int) => bd (bd (pu a) fun (x645 : (List Int)) => bd (pu v628) fun (x646 : Int) => lf (atI x645 x646)) fun (x648 : Int) => pu (decide (x648 < x647))) fun (x649 : Bool) => pu (if x649 then (1 : Int) else 0)) fun (x651 : Int) => pu (x650 - x651)) fun (found_652 : Int) => (pu (.nx found_652)))) fun (b653 : Int) => (pu (.nx b653)))) fun (b655 : Int) => (bd (pu b655) fun (x656 : Int) => pu (.rt x656))))
def F_law_trend (a : (List Int)) : Option Int := run0 (m_law_trend a) ()
def m_law_records (a : (List Int)) : Unit → Option (Fl Unit Unit (List Int) × Unit) :=
  (bd (pu ([] : List Int)) fun (found_658 : (List Int)) => bd (pu none) fun (top_659 : (Option Int)) => (bd (bd (bd (pu a) fun (x660 : (List Int)) => pu (x660.length : Int)) fun (x661 : Int) => lf (rngO 0 x661)) fun (x680 : List Int) => seqF (loopS x680 ((found_658, top_659) : (List Int) × (Option Int)) fun (b664 : (List Int) × (Option Int)) (v665 : Int) => (bd (bd (bd (pu b664.2) fun (x666 : (Option Int)) => pu (x666.isNone)) fun (c672 : Bool) => if c672 then (pu true) else (bd (bd (pu a) fun (x667 : (List Int)) => bd (pu v665) fun (x668 : Int) => lf (atI x667 x668)) fun (x670 : Int) => bd (bd (pu b664.2) fun (x669 : (Option Int)) => lf x669) fun (x671 : Int) => pu (decide (x671 < x670)))) fun (c673 : Bool) => if c673 then (bd (pu v665) fun (x674 : Int) => gd (b664.1.length < big) (bd (bd (bd (pu a) fun (x675 : (List Int)) => bd (pu v665) fun (x676 : Int) => lf (atI x675 x676)) fun (x677 : Int) => pu (some x677)) fun (top_678 : (Option Int)) => (pu (.nx ((b664.1 ++ [x674]), top_678))))) else (pu (.nx (b664.1, b664.2))))) fun (b679 : (List Int) × (Option Int)) => (pu (.rt b679.1))))
def F_law_records (a : (List Int)) : Option (List Int) := run0 (m_law_records a) ()
def m_law_bounds (ds : List Int) (a : (List Int)) : Int → Option (Fl Unit Unit (List Int) × Int) :=
  (bd (pu ([] : List Int)) fun (row_681 : (List Int)) => (bd (bd (bd (bd (pu (6 : Int)) fun (x682 : Int) => pu x682) fun (x683 : Int) => F_law_draw ds x683) fun (x684 : Int) => lf (rngO 0 x684)) fun (x716 : List Int) => seqF (loopS x716 (row_681 : (List Int)) fun (b687 : (List Int)) (v688 : Int) => (bd (bd (bd (bd (pu (30 : Int)) fun (x689 : Int) => pu x689) fun (x690 : Int) => F_law_draw ds x690) fun (x691 : Int) => bd (pu (15 : Int)) fun (x692 : Int) => pu (x691 - x692)) fun (bound_693 : Int) => (seqF (bd (bd (bd (pu a) fun (x694 : (List Int)) => bd (pu ([] : List Int)) fun (x695 : (List Int)) => pu (!decide (x694 = x695))) fun (c700 : Bool) => if c700 then (bd (bd (bd (pu (2 : Int)) fun (x696 : Int) => pu x696) fun (x697 : Int) => F_law_draw ds x697) fun (x698 : Int) => bd (pu (0 : Int)) fun (x699 : Int) => pu (decide (x698 = x699))) else (pu false)) fun (c701 : Bool) => if c701 then (bd (bd (bd (bd (pu a) fun (x703 : (List Int)) => pu x703) fun (x703 : (List Int)) => F_law_pick ds x703) fun (x706 : Int) => bd (bd (bd (pu (2 : Int)) fun (x704 : Int) => pu x704) fun (x705 : Int) => F_law_draw ds x705) fun (x707 : Int) => pu (x706 + x707)) fun (bound_708 : Int) => (pu (.nx bound_708))) else (pu (.nx bound_693))) fun (g702 : Int) => (bd (bd (pu g702) fun (x709 : Int) => bd (pu b687) fun (x710 : (List Int)) => pu (!decide (x709 ∈ x710))) fun (c711 : Bool) => if c711 then (bd (pu g702) fun (x712 : Int) => gd (b687.length < big) (pu (.nx (b687 ++ [x712])))) else (pu (.nx b687)))))) fun (b713 : (List Int)) => (bd (bd (pu b713) fun (x714 : List Int) => pu (srt x714)) fun (x715 : (List Int)) => pu (.rt x715))))
def F_law_bounds (ds : List Int) (a : (List Int)) : Int → Option ((List Int) × Int) := runS (m_law_bounds ds a)
def m_law (a : (List Int)) : Int → Option (Fl Unit Unit Bool × Int) :=
  (bd (bd (bd (pu (0 : Int)) fun (x717 : Int) => bd (pu (12 : Int)) fun (x718 : Int) => pu (a, x717, x718)) fun (x719 : ((List Int) × Int × Int)) => lf (F_law_digits x719)) fun (ds720 : List Int) _ => (bd (bd (pu (4 : Int)) fun (x721 : Int) => lf (rngO 0 x721)) fun (x1101 : List Int) => seqF (loopS x1101 (() : Unit) fun (b724 : Unit) (v725 : Int) => (bd (bd (pu ()) fun (x726 : Unit) => F_law_numbers ds720 x726) fun (numbers_727 : (List Int)) => (bd (bd (pu numbers_727) fun (x728 : (List Int)) => pu x728) fun (handed_729 : (List Int)) => (bd (bd (bd (bd (bd (bd (bd (pu handed_729) fun (x732 : (List Int)) => pu x732) fun (x733 : (List Int)) => lf (F_median x733)) fun (x736 : (Option (Int × Int))) => bd (bd (bd (pu numbers_727) fun (x734 : (List Int)) => pu x734) fun (x735 : (List Int)) => lf (F_law_middle x735)) fun (x737 : (Option (Int × Int))) => pu (x736, x737)) fun (x738 : (Option (Int × Int)) × (Option (Int × Int))) => lf (F_law_same (rO (r2 rI rI)) x738)) fun (c739 : Bool) => pu (!c739)) fun (c742 : Bool) => if c742 then (pu true) else (bd (pu handed_729) fun (x740 : (List Int)) => bd (pu numbers_727) fun (x741 : (List Int)) => pu (!decide (x740 = x741)))) fun (c743 : Bool) => if c743 then (bd (pu false) fun (x744 : Bool) => pu (.rt x744)) else (bd (bd (bd (pu numbers_727) fun (x745 : (List Int)) => pu x745) fun (x746 : (List Int)) => lf (F_law_ranks x746)) fun (ranks_747 : (List (Int × Int))) => (bd (bd (bd (pu handed_729) fun (x748 : (List Int)) => pu x748) fun (x749 : (List Int)) => lf (F_ranked x749)) fun (told_750 : (List (Int × Int))) => (bd (bd (bd (bd (pu (told_750, ranks_747)) fun (x751 : (List (Int × Int)) × (List (Int × Int))) => lf (F_law_same (rL (r2 rI rI)) x751)) fun (c752 : Bool) => pu (!c752)) fun (c755 : Bool) => if c755 then (pu true) else (bd (pu handed_729) fun (x753 : (List Int)) => bd (pu numbers_727) fun (x754 : (List Int)) => pu (!decide (x753 = x754)))) fun (c756 : Bool) => if c756 then (bd (pu false) fun (x757 : Bool) => pu (.rt x757)) else (bd (bd (pu (1 : Int)) fun (x758 : Int) => bd (pu (1 : Int)) fun (x759 : Int) => pu (x758, x759)) fun (x760 : (Int × Int)) => gd (told_750.length < big) (bd (bd (bd (bd (bd (bd (bd (pu handed_729) fun (x761 : (List Int)) => pu x761) fun (x762 : (List Int)) => lf (F_ranked x762)) fun (x763 : (List (Int × Int))) => pu (x763, ranks_747)) fun (x764 : (List (Int × Int)) × (List (Int × Int))) => lf (F_law_same (rL (r2 rI rI)) x764)) fun (c765 : Bool) => pu (!c765)) fun (c777 : Bool) => if c777 then (pu true) else (bd (bd (bd (bd (bd (bd (pu handed_729) fun (x766 : (List Int)) => pu x766) fun (x767 : (List Int)) => lf (F_best_stretch x767)) fun (x770 : (Option (Int × Int))) => bd (bd (bd (pu numbers_727) fun (x768 : (List Int)) => pu x768) fun (x769 : (List Int)) => lf (F_law_stretch x769)) fun (x771 : (Option (Int × Int))) => pu (x770, x771)) fun (x772 : (Option (Int × Int)) × (Option (Int × Int))) => lf (F_law_same (rO (r2 rI rI)) x772)) fun (c773 : Bool) => pu (!c773)) fun (c776 : Bool) => if c776 then (pu true) else (bd (pu handed_729) fun (x774 : (List Int)) => bd (pu numbers_727) fun (x775 : (List Int)) => pu (!decide (x774 = x775))))) fun (c778 : Bool) => if c778 then (bd (pu false) fun (x779 : Bool) => pu (.rt x779)) else (bd (bd (bd (pu numbers_727) fun (x780 : (List Int)) => bd (pu ([] : List Int)) fun (x781 : (List Int)) => pu (!decide (x780 = x781))) fun (c793 : Bool) => if c793 then (bd (bd (bd (bd (bd (bd (pu handed_729) fun (x782 : (List Int)) => pu x782) fun (x783 : (List Int)) => lf (F_spread x783)) fun (x786 : (Int × Int)) => bd (bd (bd (pu numbers_727) fun (x784 : (List Int)) => pu x784) fun (x785 : (List Int)) => lf (F_law_square x785)) fun (x787 : (Int × Int)) => pu (x786, x787)) fun (x788 : (Int × Int) × (Int × Int)) => lf (F_law_same (r2 rI rI) x788)) fun (c789 : Bool) => pu (!c789)) fun (c792 : Bool) => if c792 then (pu true) else (bd (pu handed_729) fun (x790 : (List Int)) => bd (pu numbers_727) fun (x791 : (List Int)) => pu (!decide (x790 = x791)))) else (pu false)) fun (c794 : Bool) => if c794 then (bd (pu false) fun (x795 : Bool) => pu (.rt x795)) else (bd (bd (pu (1 : Int)) fun (x803 : Int) => bd (pu (2 : Int)) fun (x804 : Int) => bd (bd (pu (1 : Int)) fun (x807 : Int) => bd (bd (bd (pu (9 : Int)) fun (x805 : Int) => pu x805) fun (x806 : Int) => F_law_draw ds720 x806) fun (x808 : Int) => pu (x807 + x808)) fun (x809 : Int) => bd (bd (bd (pu numbers_727) fun (x810 : (List Int)) => pu (x810.length : Int)) fun (x811 : Int) => bd (pu (1 : Int)) fun (x812 : Int) => pu (x811 + x812)) fun (x813 : Int) => pu ([x803, x804, x809, x813] : List Int)) fun (x942 : List Int) => seqF (loopS x942 (() : Unit) fun (b816 : Unit) (v817 : Int) => (bd (bd (bd (bd (bd (bd (bd (pu handed_729) fun (x818 : (List Int)) => bd (pu v817) fun (x819 : Int) => pu (x818, x819)) fun (x820 : ((List Int) × Int)) => lf (F_moving_most x820)) fun (x824 : (List Int)) => bd (bd (bd (pu numbers_727) fun (x821 : (List Int)) => bd (pu v817) fun (x822 : Int) => pu (x821, x822)) fun (x823 : ((List Int) × Int)) => lf (F_law_windows x823)) fun (x825 : (List Int)) => pu (x824, x825)) fun (x826 : (List Int) × (List Int)) => lf (F_law_same (rL rI) x826)) fun (c827 : Bool) => pu (!c827)) fun (c830 : Bool) => if c830 then (pu true) else (bd (pu handed_729) fun (x828 : (List Int)) => bd (pu numbers_727) fun (x829 : (List Int)) => pu (!decide (x828 = x829)))) fun (c831 : Bool) => if c831 then (bd (pu false) fun (x832 : Bool) => pu (.rt x832)) else (pu (.nx ())))) fun (b833 : Unit) => (bd (bd (bd (pu handed_729) fun (x834 : (List Int)) => pu x834) fun (x835 : (List Int)) => lf (F_records x835)) fun (tops_836 : (List Int)) => (bd (bd (bd (bd (bd (bd (bd (pu numbers_727) fun (x837 : (List Int)) => pu x837) fun (x838 : (List Int)) => lf (F_law_records x838)) fun (x839 : (List Int)) => pu (tops_836, x839)) fun (x840 : (List Int) × (List Int)) => lf (F_law_same (rL rI) x840)) fun (c841 : Bool) => pu (!c841)) fun (c844 : Bool) => if c844 then (pu true) else (bd (pu handed_729) fun (x842 : (List Int)) => bd (pu numbers_727) fun (x843 : (List Int)) => pu (!decide (x842 = x843)))) fun (c845 : Bool) => if c845 then (bd (pu false) fun (x846 : Bool) => pu (.rt x846)) else (bd (pu (99 : Int)) fun (x847 : Int) => gd (tops_836.length < big) (bd (bd (bd (bd (bd (bd (bd (pu handed_729) fun (x848 : (List Int)) => pu x848) fun (x849 : (List Int)) => lf (F_records x849)) fun (x852 : (List Int)) => bd (bd (bd (pu numbers_727) fun (x850 : (List Int)) => pu x850) fun (x851 : (List Int)) => lf (F_law_records x851)) fun (x853 : (List Int)) => pu (x852, x853)) fun (x854 : (List Int) × (List Int)) => lf (F_law_same (rL rI) x854)) fun (c855 : Bool) => pu (!c855)) fun (c867 : Bool) => if c867 then (pu true) else (bd (bd (bd (bd (bd (bd (pu handed_729) fun (x856 : (List Int)) => pu x856) fun (x857 : (List Int)) => lf (F_trend x857)) fun (x860 : Int) => bd (bd (bd (pu numbers_727) fun (x858 : (List Int)) => pu x858) fun (x859 : (List Int)) => lf (F_law_trend x859)) fun (x861 : Int) => pu (x860, x861)) fun (x862 : Int × Int) => lf (F_law_same rI x862)) fun (c863 : Bool) => pu (!c863)) fun (c866 : Bool) => if c866 then (pu true) else (bd (pu handed_729) fun (x864 : (List Int)) => bd (pu numbers_727) fun (x865 : (List Int)) => pu (!decide (x864 = x865))))) fun (c868 : Bool) => if c868 then (bd (pu false) fun (x869 : Bool) => pu (.rt x869)) else (bd (bd (bd (pu numbers_727) fun (x870 : (List Int)) => pu x870) fun (x871 : (List Int)) => F_law_bounds ds720 x871) fun (bounds_872 : (List Int)) => (bd (bd (pu bounds_872) fun (x873 : (List Int)) => pu x873) fun (others_874 : (List Int)) => (bd (bd (bd (bd (bd (bd (bd (bd (pu numbers_727) fun (x883 : (List Int)) => bd (pu bounds_872) fun (x884 : (List Int)) => lf (catO x883 x884)) fun (x886 : (List Int)) => bd (bd (pu (0 : Int)) fun (x885 : Int) => pu ([x885] : List Int)) fun (x887 : (List Int)) => lf (catO x886 x887)) fun (x888 : List Int) => lf x888.min?) fun (x889 : Int) => bd (pu (1 : Int)) fun (x890 : Int) => pu (x889 - x890)) fun (x891 : Int) => pu ([x891] : List Int)) fun (x892 : (List Int)) => bd (pu bounds_872) fun (x893 : (List Int)) => lf (catO x892 x893)) fun (x903 : (List Int)) => bd (bd (bd (bd (bd (bd (pu numbers_727) fun (x894 : (List Int)) => bd (pu bounds_872) fun (x895 : (List Int)) => lf (catO x894 x895)) fun (x897 : (List Int)) => bd (bd (pu (0 : Int)) fun (x896 : Int) => pu ([x896] : List Int)) fun (x898 : (List Int)) => lf (catO x897 x898)) fun (x899 : List Int) => lf x899.max?) fun (x900 : Int) => bd (pu (1 : Int)) fun (x901 : Int) => pu (x900 + x901)) fun (x902 : Int) => pu ([x902] : List Int)) fun (x904 : (List Int)) => lf (catO x903 x904)) fun (edges_905 : (List Int)) => (bd (bd (bd (bd (bd (pu bounds_872) fun (x906 : (List Int)) => pu (x906.length : Int)) fun (x907 : Int) => bd (pu (1 : Int)) fun (x908 : Int) => pu (x907 + x908)) fun (x909 : Int) => lf (rngO 0 x909)) fun (x911 : List Int) => lcM x911 (mapS x911 fun (v910 : Int) => (bd (bd (pu numbers_727) fun (x913 : List Int) => lcM x913 (fltS x913 (fun (v912 : Int) => (bd (bd (bd (pu edges_905) fun (x914 : (List Int)) => bd (pu v910) fun (x915 : Int) => lf (atI x914 x915)) fun (x916 : Int) => bd (pu v912) fun (x917 : Int) => pu (decide (x916 ≤ x917))) fun (c924 : Bool) => if c924 then (bd (pu v912) fun (x922 : Int) => bd (bd (pu edges_905) fun (x920 : (List Int)) => bd (bd (pu v910) fun (x918 : Int) => bd (pu (1 : Int)) fun (x919 : Int) => pu (x918 + x919)) fun (x921 : Int) => lf (atI x920 x921)) fun (x923 : Int) => pu (decide (x922 < x923))) else (pu false))) fun (v912 : Int) => (pu v912))) fun (x925 : (List Int)) => pu (x925.length : Int)))) fun (due_926 : (List Int)) => (bd (bd (bd (bd (bd (bd (bd (pu handed_729) fun (x928 : (List Int)) => bd (pu others_874) fun (x929 : (List Int)) => pu (x928, x929)) fun (x930 : ((List Int) × (List Int))) => lf (F_by_class x930)) fun (x931 : (List Int)) => pu (x931, due_926)) fun (x932 : (List Int) × (List Int)) => lf (F_law_same (rL rI) x932)) fun (c933 : Bool) => pu (!c933)) fun (c939 : Bool) => if c939 then (pu true) else (bd (bd (pu handed_729) fun (x934 : (List Int)) => bd (pu numbers_727) fun (x935 : (List Int)) => pu (!decide (x934 = x935))) fun (c938 : Bool) => if c938 then (pu true) else (bd (pu others_874) fun (x936 : (List Int)) => bd (pu bounds_872) fun (x937 : (List Int)) => pu (!decide (x936 = x937))))) fun (c940 : Bool) => if c940 then (bd (pu false) fun (x941 : Bool) => pu (.rt x941)) else (pu (.nx ())))))))))))))))))))))) fun (b943 : Unit) => (bd (bd (bd (bd (bd (bd (bd (bd (pu (5 : Int)) fun (x944 : Int) => bd (pu (1 : Int)) fun (x945 : Int) => bd (pu (2 : Int)) fun (x946 : Int) => bd (pu (9 : Int)) fun (x947 : Int) => pu ([x944, x945, x946, x947] : List Int)) fun (x948 : (List Int)) => pu x948) fun (x949 : (List Int)) => lf (F_median x949)) fun (x955 : (Option (Int × Int))) => bd (bd (bd (pu (7 : Int)) fun (x952 : Int) => bd (pu (2 : Int)) fun (x953 : Int) => pu (x952, x953)) fun (x954 : (Int × Int)) => pu (some x954)) fun (x956 : (Option (Int × Int))) => pu (x955, x956)) fun (x957 : (Option (Int × Int)) × (Option (Int × Int))) => lf (F_law_same (rO (r2 rI rI)) x957)) fun (c958 : Bool) => pu (!c958)) fun (c974 : Bool) => if c974 then (pu true) else (bd (bd (bd (bd (pu ([] : List Int)) fun (x959 : (List Int)) => pu x959) fun (x960 : (List Int)) => lf (F_median x960)) fun (x961 : (Option (Int × Int))) => pu (!x961.isNone)) fun (c973 : Bool) => if c973 then (pu true) else (bd (bd (bd (bd (bd (bd (pu (1 : Int)) fun (x962 : Int) => bd (pu (2 : Int)) fun (x963 : Int) => bd (pu (4 : Int)) fun (x964 : Int) => pu ([x962, x963, x964] : List Int)) fun (x965 : (List Int)) => pu x965) fun (x966 : (List Int)) => lf (F_spread x966)) fun (x969 : (Int × Int)) => bd (bd (pu (14 : Int)) fun (x967 : Int) => bd (pu (9 : Int)) fun (x968 : Int) => pu (x967, x968)) fun (x970 : (Int × Int)) => pu (x969, x970)) fun (x971 : (Int × Int) × (Int × Int)) => lf (F_law_same (r2 rI rI) x971)) fun (c972 : Bool) => pu (!c972)))) fun (c975 : Bool) => if c975 then (bd (pu false) fun (x976 : Bool) => pu (.rt x976)) else (bd (bd (bd (bd (bd (bd (bd (bd (pu (5 : Int)) fun (x977 : Int) => bd (pu (1 : Int)) fun (x978 : Int) => bd (pu (5 : Int)) fun (x979 : Int) => pu ([x977, x978, x979] : List Int)) fun (x980 : (List Int)) => pu x980) fun (x981 : (List Int)) => lf (F_ranked x981)) fun (x997 : (List (Int × Int))) => bd (bd (bd (pu (5 : Int)) fun (x988 : Int) => bd (pu (2 : Int)) fun (x989 : Int) => pu (x988, x989)) fun (x990 : (Int × Int)) => bd (bd (pu (1 : Int)) fun (x991 : Int) => bd (pu (1 : Int)) fun (x992 : Int) => pu (x991, x992)) fun (x993 : (Int × Int)) => bd (bd (pu (5 : Int)) fun (x994 : Int) => bd (pu (2 : Int)) fun (x995 : Int) => pu (x994, x995)) fun (x996 : (Int × Int)) => pu ([x990, x993, x996] : List (Int × Int))) fun (x998 : (List (Int × Int))) => pu (x997, x998)) fun (x999 : (List (Int × Int)) × (List (Int × Int))) => lf (F_law_same (rL (r2 rI rI)) x999)) fun (c1000 : Bool) => pu (!c1000)) fun (c1022 : Bool) => if c1022 then (pu true) else (bd (bd (bd (bd (bd (bd (bd (bd (pu (3 : Int)) fun (x1001 : Int) => pu (-x1001)) fun (x1002 : Int) => bd (bd (pu (1 : Int)) fun (x1003 : Int) => pu (-x1003)) fun (x1004 : Int) => bd (bd (pu (1 : Int)) fun (x1005 : Int) => pu (-x1005)) fun (x1006 : Int) => pu ([x1002, x1004, x1006] : List Int)) fun (x1007 : (List Int)) => pu x1007) fun (x1008 : (List Int)) => lf (F_best_stretch x1008)) fun (x1014 : (Option (Int × Int))) => bd (bd (bd (pu (1 : Int)) fun (x1011 : Int) => bd (pu (2 : Int)) fun (x1012 : Int) => pu (x1011, x1012)) fun (x1013 : (Int × Int)) => pu (some x1013)) fun (x1015 : (Option (Int × Int))) => pu (x1014, x1015)) fun (x1016 : (Option (Int × Int)) × (Option (Int × Int))) => lf (F_law_same (rO (r2 rI rI)) x1016)) fun (c1017 : Bool) => pu (!c1017)) fun (c1021 : Bool) => if c1021 then (pu true) else (bd (bd (bd (pu ([] : List Int)) fun (x1018 : (List Int)) => pu x1018) fun (x1019 : (List Int)) => lf (F_best_stretch x1019)) fun (x1020 : (Option (Int × Int))) => pu (!x1020.isNone)))) fun (c1023 : Bool) => if c1023 then (bd (pu false) fun (x1024 : Bool) => pu (.rt x1024)) else (bd (bd (bd (bd (bd (bd (bd (bd (pu (2 : Int)) fun (x1025 : Int) => bd (bd (pu (2 : Int)) fun (x1026 : Int) => pu (-x1026)) fun (x1027 : Int) => bd (pu (2 : Int)) fun (x1028 : Int) => bd (pu (0 : Int)) fun (x1029 : Int) => pu ([x1025, x1027, x1028, x1029] : List Int)) fun (x1030 : (List Int)) => pu x1030) fun (x1031 : (List Int)) => lf (F_best_stretch x1031)) fun (x1037 : (Option (Int × Int))) => bd (bd (bd (pu (0 : Int)) fun (x1034 : Int) => bd (pu (1 : Int)) fun (x1035 : Int) => pu (x1034, x1035)) fun (x1036 : (Int × Int)) => pu (some x1036)) fun (x1038 : (Option (Int × Int))) => pu (x1037, x1038)) fun (x1039 : (Option (Int × Int)) × (Option (Int × Int))) => lf (F_law_same (rO (r2 rI rI)) x1039)) fun (c1040 : Bool) => pu (!c1040)) fun (c1065 : Bool) => if c1065 then (pu true) else (bd (bd (bd (bd (bd (bd (bd (pu (1 : Int)) fun (x1041 : Int) => bd (pu (3 : Int)) fun (x1042 : Int) => bd (pu (2 : Int)) fun (x1043 : Int) => pu ([x1041, x1042, x1043] : List Int)) fun (x1044 : (List Int)) => bd (pu (2 : Int)) fun (x1045 : Int) => pu (x1044, x1045)) fun (x1046 : ((List Int) × Int)) => lf (F_moving_most x1046)) fun (x1049 : (List Int)) => bd (bd (pu (3 : Int)) fun (x1047 : Int) => bd (pu (3 : Int)) fun (x1048 : Int) => pu ([x1047, x1048] : List Int)) fun (x1050 : (List Int)) => pu (x1049, x1050)) fun (x1051 : (List Int) × (List Int)) => lf (F_law_same (rL rI) x1051)) fun (c1052 : Bool) => pu (!c1052)) fun (c1064 : Bool) => if c1064 then (pu true) else (bd (bd (bd (bd (bd (bd (pu (2 : Int)) fun (x1053 : Int) => bd (pu (2 : Int)) fun (x1054 : Int) => bd (pu (3 : Int)) fun (x1055 : Int) => pu ([x1053, x1054, x1055] : List Int)) fun (x1056 : (List Int)) => pu x1056) fun (x1057 : (List Int)) => lf (F_records x1057)) fun (x1060 : (List Int)) => bd (bd (pu (0 : Int)) fun (x1058 : Int) => bd (pu (2 : Int)) fun (x1059 : Int) => pu ([x1058, x1059] : List Int)) fun (x1061 : (List Int)) => pu (x1060, x1061)) fun (x1062 : (List Int) × (List Int)) => lf (F_law_same (rL rI) x1062)) fun (c1063 : Bool) => pu (!c1063)))) fun (c1066 : Bool) => if c1066 then (bd (pu false) fun (x1067 : Bool) => pu (.rt x1067)) else (bd (bd (bd (bd (bd (bd (bd (pu (1 : Int)) fun (x1068 : Int) => bd (pu (2 : Int)) fun (x1069 : Int) => bd (pu (3 : Int)) fun (x1070 : Int) => bd (pu (3 : Int)) fun (x1071 : Int) => pu ([x1068, x1069, x1070, x1071] : List Int)) fun (x1072 : (List Int)) => bd (bd (pu (2 : Int)) fun (x1073 : Int) => bd (pu (3 : Int)) fun (x1074 : Int) => pu ([x1073, x1074] : List Int)) fun (x1075 : (List Int)) => pu (x1072, x1075)) fun (x1076 : ((List Int) × (List Int))) => lf (F_by_class x1076)) fun (x1080 : (List Int)) => bd (bd (pu (1 : Int)) fun (x1077 : Int) => bd (pu (1 : Int)) fun (x1078 : Int) => bd (pu (2 : Int)) fun (x1079 : Int) => pu ([x1077, x1078, x1079] : List Int)) fun (x1081 : (List Int)) => pu (x1080, x1081)) fun (x1082 : (List Int) × (List Int)) => lf (F_law_same (rL rI) x1082)) fun (c1099 : Bool) => if c1099 then (bd (bd (bd (bd (bd (pu ([] : List Int)) fun (x1083 : (List Int)) => bd (pu ([] : List Int)) fun (x1084 : (List Int)) => pu (x1083, x1084)) fun (x1085 : ((List Int) × (List Int))) => lf (F_by_class x1085)) fun (x1087 : (List Int)) => bd (bd (pu (0 : Int)) fun (x1086 : Int) => pu ([x1086] : List Int)) fun (x1088 : (List Int)) => pu (x1087, x1088)) fun (x1089 : (List Int) × (List Int)) => lf (F_law_same (rL rI) x1089)) fun (c1098 : Bool) => if c1098 then (bd (bd (bd (bd (bd (pu (1 : Int)) fun (x1090 : Int) => bd (pu (3 : Int)) fun (x1091 : Int) => bd (pu (2 : Int)) fun (x1092 : Int) => pu ([x1090, x1091, x1092] : List Int)) fun (x1093 : (List Int)) => pu x1093) fun (x1094 : (List Int)) => lf (F_trend x1094)) fun (x1095 : Int) => bd (pu (1 : Int)) fun (x1096 : Int) => pu (x1095, x1096)) fun (x1097 : Int × Int) => lf (F_law_same rI x1097)) else (pu false)) else (pu false)) fun (x1100 : Bool) => pu (.rt x1100)))))) 0)
def F_law (a : (List Int)) : Option Bool := run0 (m_law a) 0
end

theorem cell_eq (ns : List Int) (k : Int) (h : 0 ≤ k) : ∃ v, F_law_cell (ns, k) = some v := by
  unfold F_law_cell m_law_cell
  simp only [bdp]
  by_cases c : k < (ns.length : Int)
  · rw [if_pos (decide_eq_true c), atI_some h c]
    exact ⟨_, rfl⟩
  · rw [if_neg (by simpa using c)]
    exact ⟨_, rfl⟩
theorem digits_tot (ns : List Int) (lo hi : Int) (h0 : 0 ≤ lo) (hl : lo ≤ hi) (h1 : hi ≤ 1000) : ∃ ds, F_law_digits (ns, lo, hi) = some ds := by
  have nr := run0_mono (m := m_law_digits (ns, lo, hi)) (s := ()) (P := fun _ => True)
  unfold F_law_digits
  refine (nr ?_).imp fun _ h => h.1
  unfold m_law_digits
  simp (disch := first | decide | omega) only [bdp, bd_bd, mulO_l, mulO_r, modO_eq, fdivO_eq, powO_eq, rngO_eq, lfp]
  refine Tot.seqF (Tot.loop (I := fun rest b _ => b.length + 60 * rest.length ≤ 60000 ∧ ∀ x ∈ rest, 0 ≤ x) (fun x xs b s hI => ?_) (fun b s _ => ⟨_, rfl, .pu ⟨_, rfl, trivial⟩⟩) _ _ _ ⟨?_, fun x hx => ?_⟩)
  · obtain ⟨v, hv⟩ := cell_eq ns x (hI.2 x List.mem_cons_self)
    have hI2 : ∀ y ∈ xs, 0 ≤ y := fun y hy => hI.2 y (List.mem_cons_of_mem _ hy)
    have hI1 : b.length + 60 * (xs.length + 1) ≤ 60000 := hI.1
    refine Tot.some ⟨v, hv, ?_⟩
    have key : ∀ g : Int, ∃ c, (if decide (v < 0) = true then pu (Fl.nx (1 - 2 * v)) else pu (Fl.nx v) : Unit → Option (Fl Int (List Int) (List Int) × Unit)) = pu (Fl.nx c) := fun g => by
      split
      · exact ⟨_, rfl⟩
      · exact ⟨_, rfl⟩
    obtain ⟨c, hc⟩ := key 0
    rw [hc, seqn]
    refine Tot.ite (fun _ => ?_) (fun _ => ?_)
    · refine Tot.seqF (Tot.loop (I := fun rest q _ => q.1.length + rest.length + 60 * xs.length ≤ 60000) (fun y ys q s hJ => ?_) (fun q s hJ => ⟨_, rfl, .pu ⟨?_, hI2⟩⟩) _ _ _ ?_)
      · have hJ : q.1.length + (ys.length + 1) + 60 * xs.length ≤ 60000 := hJ
        refine Tot.ite (fun _ => ?_) (fun _ => ?_)
        · refine Tot.gd (by unfold big; omega) (.pu ?_)
          show (q.1 ++ _).length + ys.length + 60 * xs.length ≤ 60000
          rw [List.length_append, List.length_singleton]
          omega
        · exact .pu (by show q.1.length + ys.length + 60 * xs.length ≤ 60000; omega)
      · show b.length + (rng 0 60).length + 60 * xs.length ≤ 60000
        rw [rng_length]
        omega
      · have hJ : q.1.length + 0 + 60 * xs.length ≤ 60000 := hJ
        show q.1.length + 60 * xs.length ≤ 60000
        omega
    · refine Tot.seqF (Tot.loop (I := fun rest q _ => q.1.length + rest.length + 60 * xs.length ≤ 60000) (fun y ys q s hJ => ?_) (fun q s hJ => ⟨_, rfl, .pu ⟨?_, hI2⟩⟩) _ _ _ ?_)
      · have hJ : q.1.length + (ys.length + 1) + 60 * xs.length ≤ 60000 := hJ
        refine Tot.gd (by unfold big; omega) (.pu ?_)
        show (q.1 ++ _).length + ys.length + 60 * xs.length ≤ 60000
        rw [List.length_append, List.length_singleton]
        omega
      · show b.length + (rng 0 12).length + 60 * xs.length ≤ 60000
        rw [rng_length]
        omega
      · have hJ : q.1.length + 0 + 60 * xs.length ≤ 60000 := hJ
        show q.1.length + 60 * xs.length ≤ 60000
        omega
  · show 0 + 60 * (rng lo hi).length ≤ 60000
    rw [rng_length]
    omega
  · have := mem_rng.mp hx
    omega
theorem draw_tot (ds : List Int) (n s : Int) (hn : 0 < n) (hs : 0 ≤ s) : Tot (F_law_draw ds n) s fun v t => 0 ≤ v ∧ v < n ∧ 0 ≤ t := by
  unfold F_law_draw
  refine runS_tot ?_
  unfold m_law_draw
  simp (disch := first | decide | omega) only [bdp, bd_bd, mulO_l, mulO_r, modO_eq, lfp, bd_get]
  by_cases c : (ds.length : Int) < s + 1
  · have k := fmod_range (x := (s + 1) * 7 + 3) hn
    exact ⟨.rt _, s + 1, by simp only [bd, pu, lf, Option.bind, decide_eq_true c, if_true], _, rfl, k.1, k.2, by omega⟩
  · have e : atI ds (s + 1 - 1) = some (ds[(s + 1 - 1).toNat]'(by omega)) := atI_some (by omega) (by omega)
    have k := fmod_range (x := ds[(s + 1 - 1).toNat]'(by omega)) hn
    exact ⟨.rt _, s + 1, by simp only [bd, pu, lf, Option.bind, decide_eq_false c, Bool.false_eq_true, if_false, e, Option.map], _, rfl, k.1, k.2, by omega⟩
theorem pick_tot {α : Type} (ds : List Int) (row : List α) (s : Int) (hn : row ≠ []) (hs : 0 ≤ s) : Tot (F_law_pick ds row) s fun v t => v ∈ row ∧ 0 ≤ t := by
  have hl : 0 < row.length := List.length_pos_iff.mpr hn
  unfold F_law_pick
  refine runS_tot ?_
  unfold m_law_pick
  simp only [bdp, bd_bd]
  refine Tot.bind (draw_tot ds 1000 s (by decide) hs) fun v t h => ?_
  have k := fmod_range (x := v) (y := (row.length : Int)) (by omega)
  refine Tot.some ⟨_, modO_eq (by omega), ?_⟩
  refine Tot.some ⟨_, atI_some k.1 k.2, .pu ⟨_, rfl, List.getElem_mem _, h.2.2⟩⟩

/-! ### shares in lowest terms -/
def low (t b : Int) : Int × Int := (t.fdiv ((Nat.gcd t.natAbs b.natAbs : Nat) : Int), b.fdiv ((Nat.gcd t.natAbs b.natAbs : Nat) : Int))
theorem gcd_sm {t b : Int} (h : 0 < b) (h2 : b < 1073741824) : ((Nat.gcd t.natAbs b.natAbs : Nat) : Int) ≠ 0 ∧ ((Nat.gcd t.natAbs b.natAbs : Nat) : Int).natAbs < 1073741824 := by
  have h3 := Nat.gcd_le_right (m := t.natAbs) (n := b.natAbs) (by omega)
  have h4 := Nat.gcd_pos_of_pos_right (m := t.natAbs) (n := b.natAbs) (by omega)
  omega
theorem fraction_eq {t b : Int} (h : 0 < b) (h2 : b < 1073741824) : F_fraction (t, b) = some (low t b) := by
  unfold F_fraction m_fraction
  simp only [bdp, bd_bd]
  rw [if_neg (by simp; omega), seqn, fdivO_eq (gcd_sm h h2), lfp, bdp, fdivO_eq (gcd_sm h h2), lfp, bdp]
  rfl
theorem euclid : ∀ (n a b : Nat), b ≤ n → (whileS (((a : Nat) : Int), ((b : Nat) : Int)) (fun b359 : Int × Int => (pu (decide (0 < b359.snd)) : Unit → Option (Bool × Unit))) (fun b359 =>
        bd (lf (modO b359.fst b359.snd)) fun other_366 => pu (Fl.nx (b359.snd, other_366))) () : Option (Fl (Int × Int) Unit (Int × Int) × Unit)) = some (.nx (((Nat.gcd a b : Nat) : Int), 0), ()) := by
  intro n
  induction n with
  | zero =>
    intro a b h
    have : b = 0 := by omega
    subst this
    rw [Nat.gcd_zero_right]
    exact whileS_end rfl
  | succ n ih =>
    intro a b h
    by_cases c : b = 0
    · subst c
      rw [Nat.gcd_zero_right]
      exact whileS_end rfl
    · have e := ih b (a % b) (by have := Nat.mod_lt a (show b > 0 by omega); omega)
      have e2 : Nat.gcd b (a % b) = Nat.gcd a b := by
        rw [Nat.gcd_comm b, ← Nat.gcd_rec, Nat.gcd_comm]
      rw [e2] at e
      refine whileS_step (b' := ((b : Int), ((a % b : Nat) : Int))) (t := ()) (u := ()) ?_ ?_ e
      · show pu (decide (0 < (b : Int))) () = _
        rw [decide_eq_true (by omega)]
        rfl
      · show bd (lf (modO (a : Int) (b : Int))) _ _ = _
        rw [modO_eq (by omega), lfp, bdp, Int.fmod_eq_emod_of_nonneg _ (by omega)]
        rfl
theorem low_eq {t b : Int} (h : 0 < b) (h2 : b < 1073741824) : F_law_low (t, b) = some (low t b) := by
  unfold F_law_low m_law_low
  simp only [bdp, bd_bd]
  have e := euclid b.natAbs t.natAbs b.natAbs (Nat.le_refl _)
  have e1 : (if t < 0 then -t else t) = ((t.natAbs : Nat) : Int) := by split <;> omega
  have e2 : b = ((b.natAbs : Nat) : Int) := by omega
  refine run0_tot (Tot.seqF ⟨.nx (((Nat.gcd t.natAbs b.natAbs : Nat) : Int), 0), (), ?_, _, rfl, ?_⟩)
  · rw [e1, e2]
    exact e
  · show Tot (bd (lf (fdivO t ((Nat.gcd t.natAbs b.natAbs : Nat) : Int))) _) _ _
    rw [fdivO_eq (gcd_sm h h2), lfp, bdp, fdivO_eq (gcd_sm h h2), lfp, bdp]
    exact .pu rfl
theorem low_two (m : Int) : low (m + m) 2 = low m 1 := by
  unfold low
  have e1 : Nat.gcd (m + m).natAbs (2 : Int).natAbs = 2 := by
    rw [show (m + m).natAbs = 2 * m.natAbs by omega]
    exact Nat.gcd_eq_right (Nat.dvd_mul_right 2 _)
  have e2 : Nat.gcd m.natAbs (1 : Int).natAbs = 1 := Nat.gcd_one_right _
  rw [e1, e2, Int.fdiv_eq_ediv_of_nonneg _ (by omega), Int.fdiv_eq_ediv_of_nonneg _ (by omega), Int.fdiv_eq_ediv_of_nonneg _ (by omega), Int.fdiv_eq_ediv_of_nonneg _ (by omega)]
  refine Prod.ext ?_ ?_
  · show (m + m) / ((2 : Nat) : Int) = m / ((1 : Nat) : Int)
    omega
  · rfl
/-! ### the middle -/
def OkN (xs : List Int) : Prop := xs.length ≤ 1000
def medN (xs : List Int) : Option (Int × Int) := if xs.length = 0 then none else some (low (((srt xs)[(xs.length - 1) / 2]?).getD 0 + ((srt xs)[xs.length / 2]?).getD 0) 2)
theorem srt_len (xs : List Int) : (srt xs).length = xs.length := (srt_perm xs).length_eq
theorem srt_mem {xs : List Int} {x : Int} : x ∈ srt xs ↔ x ∈ xs := (srt_perm xs).mem_iff
theorem atI_get {xs : List Int} {i : Nat} (h : i < xs.length) : atI xs (i : Int) = some ((xs[i]?).getD 0) := by
  rw [atI_nat (by omega) (by omega), Int.toNat_natCast, List.getElem?_eq_getElem h]
  rfl
theorem median_eq (xs : List Int) : F_median xs = some (medN xs) := by
  unfold F_median m_median
  simp only [bdp, bd_bd]
  unfold medN
  rw [srt_len]
  by_cases c : xs.length = 0
  · rw [if_pos (by simpa using c), if_pos c]
    rfl
  · rw [if_neg (by simpa using c), if_neg c]
    have e1 : ((xs.length : Int) - 1).fdiv 2 = (((xs.length - 1) / 2 : Nat) : Int) := by
      rw [Int.fdiv_eq_ediv_of_nonneg _ (by omega)]
      omega
    have e2 : (xs.length : Int).fdiv 2 = ((xs.length / 2 : Nat) : Int) := by
      rw [Int.fdiv_eq_ediv_of_nonneg _ (by omega)]
      omega
    rw [fdivO_eq (by decide), lfp, bdp, e1, atI_get (by rw [srt_len]; omega), lfp, bdp, fdivO_eq (by decide), lfp, bdp, e2, atI_get (by rw [srt_len]; omega), lfp, bdp, fraction_eq (by omega) (by omega), lfp, bdp]
    rfl
def mid (row : List Int) : List Int := (row.drop ((row.length - 1) / 2)).take (2 - row.length % 2)
theorem cut_in {xs : List Int} (h : 2 < xs.length) : cutA xs (some 1) (some (-1)) = (xs.drop 1).take (xs.length - 2) := by
  unfold cutA
  have e1 : HT.sIx xs.length 0 (some 1) = 1 := by
    rw [sIx_pos (by omega)]
    omega
  have e2 : HT.sIx xs.length xs.length (some (-1)) = xs.length - 1 := by
    show (if (-1 : Int) < 0 then (-1 + (xs.length : Int)).toNat else min (-1 : Int).toNat xs.length) = _
    rw [if_pos (by omega)]
    omega
  rw [e1, e2]
  congr 1
theorem middle_run : ∀ (n : Nat) (row : List Int), row.length ≤ n → (whileS row (fun b445 : List Int => (pu (decide (2 < (b445.length : Int))) : Unit → Option (Bool × Unit))) (fun b445 =>
        pu (Fl.nx (cutA b445 (some 1) (some (-1))))) () : Option (Fl (List Int) Unit (Option (Int × Int)) × Unit)) = some (.nx (mid row), ()) := by
  intro n
  induction n with
  | zero =>
    intro row h
    have : row = [] := List.length_eq_zero_iff.mp (by omega)
    subst this
    exact whileS_end rfl
  | succ n ih =>
    intro row h
    by_cases c : 2 < row.length
    · have hl : ((row.drop 1).take (row.length - 2)).length = row.length - 2 := by
        rw [List.length_take, List.length_drop]
        omega
      have e := ih ((row.drop 1).take (row.length - 2)) (by omega)
      have em : mid ((row.drop 1).take (row.length - 2)) = mid row := by
        unfold mid
        rw [hl, List.drop_take, List.take_take, List.drop_drop]
        congr 1
        · omega
        · congr 1
          omega
      rw [em] at e
      refine whileS_step (b' := (row.drop 1).take (row.length - 2)) (t := ()) (u := ()) ?_ ?_ e
      · rw [decide_eq_true (by omega)]; rfl
      · rw [cut_in c]; rfl
    · have e : mid row = row := by
        unfold mid
        rw [show (row.length - 1) / 2 = 0 by omega, List.drop_zero]
        by_cases c2 : row.length = 0
        · rw [List.length_eq_zero_iff.mp c2]; rfl
        · exact List.take_of_length_le (by omega)
      rw [e]
      exact whileS_end (by rw [decide_eq_false (by omega)]; rfl)
theorem middle_eq (xs : List Int) : F_law_middle xs = some (medN xs) := by
  unfold F_law_middle m_law_middle
  simp only [bdp, bd_bd]
  refine run0_tot (Tot.seqF ⟨.nx (mid (srt xs)), (), middle_run _ _ (Nat.le_refl _), _, rfl, ?_⟩)
  have hl := srt_len xs
  unfold medN
  generalize srt xs = row at *
  by_cases c : xs.length = 0
  · have : row = [] := List.length_eq_zero_iff.mp (by omega)
    subst this
    rw [if_pos c]
    exact .pu rfl
  · rw [if_neg c]
    rw [← hl] at c ⊢
    obtain ⟨x, hx⟩ : ∃ x, row[(row.length - 1) / 2]? = some x := ⟨_, List.getElem?_eq_getElem (by omega)⟩
    obtain ⟨y, hy⟩ : ∃ y, row[row.length / 2]? = some y := ⟨_, List.getElem?_eq_getElem (by omega)⟩
    have hd : row.drop ((row.length - 1) / 2) = x :: row.drop ((row.length - 1) / 2 + 1) := by
      rw [List.drop_eq_getElem_cons (by omega)]
      congr 1
      rw [List.getElem?_eq_getElem (by omega)] at hx
      exact Option.some.inj hx
    by_cases o : row.length % 2 = 1
    · have e : mid row = [x] := by
        unfold mid
        rw [hd, o]
        rfl
      have exy : y = x := by
        rw [show row.length / 2 = (row.length - 1) / 2 by omega, hx] at hy
        exact (Option.some.inj hy).symm
      rw [e, if_pos (by simp), hx, hy, exy]
      show Tot (bd (bd (lf (F_law_low ([x].sum, (([x].length : Nat) : Int)))) _) _) _ _
      rw [show [x].sum = x by simp, show (([x].length : Nat) : Int) = 1 from rfl, low_eq (by omega) (by omega), lfp, bdp, bdp]
      refine .pu ?_
      show Fl.rt (some (low x 1)) = Fl.rt (some (low (x + x) 2))
      rw [low_two]
    · have hd2 : row.drop ((row.length - 1) / 2 + 1) = y :: row.drop ((row.length - 1) / 2 + 2) := by
        rw [List.drop_eq_getElem_cons (by omega)]
        congr 1
        rw [List.getElem?_eq_getElem (by omega)] at hy
        have := Option.some.inj hy
        rw [← this]
        congr 1
        omega
      have e : mid row = [x, y] := by
        unfold mid
        rw [hd, hd2, show 2 - row.length % 2 = 2 by omega]
        rfl
      rw [e, if_pos (by simp), hx, hy]
      show Tot (bd (bd (lf (F_law_low ([x, y].sum, (([x, y].length : Nat) : Int)))) _) _) _ _
      rw [show [x, y].sum = x + y by simp, show (([x, y].length : Nat) : Int) = 2 from rfl, low_eq (by omega) (by omega), lfp, bdp, bdp]
      exact .pu rfl

/-! ### sums over pairs -/
def triR (f : Int → Int → Int) : List Int → Int
  | [] => 0
  | y :: r => triR f r + (r.map (f y)).sum
/-- each with those ahead of it -/
def tri (f : Int → Int → Int) (xs : List Int) : Int := triR f xs.reverse
theorem sum_rev (xs : List Int) : xs.reverse.sum = xs.sum := by
  induction xs with
  | nil => rfl
  | cons x xs ih => rw [List.reverse_cons, List.sum_append, ih, List.sum_cons, List.sum_cons, List.sum_nil]; omega
theorem tri_snoc (f : Int → Int → Int) (xs : List Int) (y : Int) : tri f (xs ++ [y]) = tri f xs + (xs.map (f y)).sum := by
  unfold tri
  rw [List.reverse_append]
  show triR f xs.reverse + (xs.reverse.map (f y)).sum = _
  rw [List.map_reverse, sum_rev]
theorem foldl_sum {α : Type} (g : α → Int) : ∀ (xs : List α) (b : Int), xs.foldl (fun b x => b + g x) b = b + (xs.map g).sum
  | [], b => by simp
  | x :: xs, b => by rw [List.foldl_cons, foldl_sum g xs, List.map_cons, List.sum_cons]; omega
theorem take_map {β : Type} (xs : List Int) (g : Int → β) {m : Nat} (h : m ≤ xs.length) : (rng 0 (m : Int)).map (fun k : Int => g ((xs[k.toNat]?).getD 0)) = (xs.take m).map g := by
  rw [rng_nat, List.map_map]
  refine List.ext_getElem (by simp; omega) fun i h1 h2 => ?_
  simp only [List.getElem_map, List.getElem_range, Function.comp, Int.toNat_natCast, List.getElem_take]
  rw [List.getElem?_eq_getElem (by simp at h1; omega)]
  rfl
theorem rng_snoc {a b : Int} (h : a ≤ b) : rng a (b + 1) = rng a b ++ [b] := by
  unfold rng
  rw [show (b + 1 - a).toNat = (b - a).toNat + 1 by omega, List.range_succ, List.map_append, List.map_singleton]
  congr 2
  omega
theorem tri_fold (f : Int → Int → Int) (xs : List Int) : ∀ m : Nat, m ≤ xs.length → (rng 0 (m : Int)).foldl (fun b j => (rng 0 j).foldl (fun b k => b + f ((xs[j.toNat]?).getD 0) ((xs[k.toNat]?).getD 0)) b) 0 = tri f (xs.take m)
  | 0, _ => rfl
  | m + 1, h => by
    have e := tri_fold f xs m (by omega)
    rw [show ((m + 1 : Nat) : Int) = (m : Int) + 1 by omega, rng_snoc (by omega), List.foldl_append, e, List.foldl_cons, List.foldl_nil, foldl_sum]
    have e2 : xs.take (m + 1) = xs.take m ++ [(xs[m]?).getD 0] := by
      rw [List.take_succ]
      congr 1
      rw [List.getElem?_eq_getElem (by omega)]
      rfl
    rw [e2, tri_snoc, Int.toNat_natCast]
    congr 2
    exact take_map xs (f ((xs[m]?).getD 0)) (by omega)
theorem lagrange (r : List Int) : (r.length : Int) * (r.map fun x => x * x).sum - r.sum * r.sum = triR (fun a b => (a - b) * (a - b)) r := by
  induction r with
  | nil => rfl
  | cons y r ih =>
    have h : (r.map fun b => (y - b) * (y - b)).sum = (r.length : Int) * (y * y) - 2 * (y * r.sum) + (r.map fun x => x * x).sum := by
      clear ih
      induction r with
      | nil => simp
      | cons z r ih =>
        simp only [List.map_cons, List.sum_cons, List.length_cons, ih]
        rw [Int.natCast_add]
        grind
    show _ = triR _ r + (r.map fun b => (y - b) * (y - b)).sum
    rw [← ih, h]
    simp only [List.map_cons, List.sum_cons, List.length_cons]
    rw [Int.natCast_add]
    grind
def sqr (xs : List Int) : Int := tri (fun a b => (a - b) * (a - b)) xs
theorem sqr_eq (xs : List Int) : (xs.length : Int) * (xs.map fun x => x * x).sum - xs.sum * xs.sum = sqr xs := by
  have := lagrange xs.reverse
  rw [List.length_reverse, List.map_reverse, sum_rev, sum_rev] at this
  exact this
def OkX (xs : List Int) : Prop := (∀ x ∈ xs, -100000000 ≤ x ∧ x ≤ 100000000) ∧ xs.length ≤ 9
theorem sum_b {B : Int} (hB : 0 ≤ B) : ∀ {xs : List Int}, (∀ x ∈ xs, -B ≤ x ∧ x ≤ B) → -(xs.length * B) ≤ xs.sum ∧ xs.sum ≤ xs.length * B
  | [], _ => by simp
  | x :: xs, h => by
    have h1 := sum_b hB fun y hy => h y (List.mem_cons_of_mem _ hy)
    have h2 := h x List.mem_cons_self
    rw [List.sum_cons, List.length_cons, Int.natCast_add, Int.add_mul]
    omega
theorem OkX.sum {xs : List Int} (h : OkX xs) : -900000000 ≤ xs.sum ∧ xs.sum ≤ 900000000 := by
  have h1 := sum_b (B := 100000000) (by omega) h.1
  have := h.2
  omega
theorem sq_le {x B : Int} (h : -B ≤ x ∧ x ≤ B) : 0 ≤ x * x ∧ x * x ≤ B * B := by
  have h1 : (B - x) * (B + x) ≥ 0 := Int.mul_nonneg (by omega) (by omega)
  have h2 : 0 ≤ x * x := by
    rcases Int.le_total 0 x with c | c
    · exact Int.mul_nonneg c c
    · have := Int.mul_nonneg (show 0 ≤ -x by omega) (show 0 ≤ -x by omega)
      rw [Int.neg_mul_neg] at this
      exact this
  refine ⟨h2, ?_⟩
  grind
theorem OkX.squares {xs : List Int} (h : OkX xs) : 0 ≤ (xs.map fun x => x * x).sum ∧ (xs.map fun x => x * x).sum ≤ 90000000000000000 := by
  have h1 : ∀ ys : List Int, (∀ x ∈ ys, -100000000 ≤ x ∧ x ≤ 100000000) → 0 ≤ (ys.map fun x => x * x).sum ∧ (ys.map fun x => x * x).sum ≤ ys.length * 10000000000000000 := by
    intro ys
    induction ys with
    | nil => intro _; simp
    | cons y ys ih =>
      intro hy
      have h2 := ih fun x hx => hy x (List.mem_cons_of_mem _ hx)
      have h3 := sq_le (B := 100000000) (hy y List.mem_cons_self)
      simp only [List.map_cons, List.sum_cons, List.length_cons]
      rw [Int.natCast_add]
      omega
  have h2 := h1 xs h.1
  have := h.2
  omega
theorem spread_eq {xs : List Int} (h : OkX xs) (hn : xs ≠ []) : F_spread xs = some (low (sqr xs) (xs.length * xs.length)) := by
  have hl := h.2
  have hp : 0 < xs.length := List.length_pos_iff.mpr hn
  have hs := h.sum
  unfold F_spread m_spread
  simp only [bdp, bd_bd]
  have h4 := sq_le (x := (xs.length : Int)) (B := 9) (by omega)
  have h5 : 0 < (xs.length : Int) * xs.length := Int.mul_pos (by omega) (by omega)
  rw [lcM_eq (by unfold big; omega), mapS_pu (g := fun x => x * x) (fun x hx => ?_), bdp, mulO_l (by omega), lfp, bdp, mulO_l (by omega), lfp, bdp, mulO_l (by omega), lfp, bdp, sqr_eq, fraction_eq h5 (by omega), lfp, bdp]
  · rfl
  · have := h.1 x hx
    rw [mulO_l (by omega), lfp]
theorem square_eq {xs : List Int} (h : OkX xs) (hn : xs ≠ []) : F_law_square xs = some (low (sqr xs) (xs.length * xs.length)) := by
  have hl := h.2
  have hp : 0 < xs.length := List.length_pos_iff.mpr hn
  unfold F_law_square m_law_square
  simp only [bdp, bd_bd]
  have h4 := sq_le (x := (xs.length : Int)) (B := 9) (by omega)
  have h5 : 0 < (xs.length : Int) * xs.length := Int.mul_pos (by omega) (by omega)
  rw [rngO_eq (by omega) (by omega) (by omega) (by omega), lfp, bdp]
  rw [loop_pu (g := fun b j => (rng 0 j).foldl (fun b k => b + ((xs[j.toNat]?).getD 0 - (xs[k.toNat]?).getD 0) * ((xs[j.toNat]?).getD 0 - (xs[k.toNat]?).getD 0)) b) fun b j hj => ?_]
  · rw [seqn, tri_fold (fun a b => (a - b) * (a - b)) xs xs.length (Nat.le_refl _), List.take_length, mulO_l (by omega), lfp, bdp, low_eq h5 (by omega), lfp, bdp]
    rfl
  · have kj := mem_rng.mp hj
    rw [rngO_eq (by omega) (by omega) (by omega) (by omega), lfp, bdp]
    rw [loop_pu (g := fun b k => b + ((xs[j.toNat]?).getD 0 - (xs[k.toNat]?).getD 0) * ((xs[j.toNat]?).getD 0 - (xs[k.toNat]?).getD 0)) fun b k hk => ?_]
    · rfl
    · have kk := mem_rng.mp hk
      have ej : atI xs j = some ((xs[j.toNat]?).getD 0) := by
        have := atI_get (xs := xs) (i := j.toNat) (by omega)
        rw [Int.toNat_of_nonneg kj.1] at this
        exact this
      have ek : atI xs k = some ((xs[k.toNat]?).getD 0) := by
        have := atI_get (xs := xs) (i := k.toNat) (by omega)
        rw [Int.toNat_of_nonneg kk.1] at this
        exact this
      have bj : -100000000 ≤ (xs[j.toNat]?).getD 0 ∧ (xs[j.toNat]?).getD 0 ≤ 100000000 := by
        rw [List.getElem?_eq_getElem (by omega)]
        exact h.1 _ (List.getElem_mem _)
      have bk : -100000000 ≤ (xs[k.toNat]?).getD 0 ∧ (xs[k.toNat]?).getD 0 ≤ 100000000 := by
        rw [List.getElem?_eq_getElem (by omega)]
        exact h.1 _ (List.getElem_mem _)
      rw [ej, ek]
      simp only [lfp, bdp]
      rw [mulO_l (by omega), lfp, bdp]
/-! trend -/
def sgn (a b : Int) : Int := (if b < a then 1 else 0) - (if a < b then 1 else 0)
def trd : List Int → Int
  | [] => 0
  | x :: r => ((r.filter fun y => decide (x < y)).length : Int) - ((r.filter fun y => decide (y < x)).length : Int) + trd r
theorem trd_snoc (y : Int) : ∀ xs : List Int, trd (xs ++ [y]) = trd xs + (xs.map (sgn y)).sum
  | [] => rfl
  | x :: xs => by
    show (((xs ++ [y]).filter fun z => decide (x < z)).length : Int) - (((xs ++ [y]).filter fun z => decide (z < x)).length : Int) + trd (xs ++ [y]) = ((xs.filter fun z => decide (x < z)).length : Int) - ((xs.filter fun z => decide (z < x)).length : Int) + trd xs + (sgn y x + (xs.map (sgn y)).sum)
    rw [trd_snoc y xs, List.filter_append, List.filter_append, List.length_append, List.length_append]
    unfold sgn
    by_cases c1 : x < y
    · have c2 : ¬ y < x := by omega
      simp [c1, c2]
      omega
    · by_cases c2 : y < x
      · simp [c1, c2]
        omega
      · simp [c1, c2]
        omega
theorem trd_tri (xs : List Int) : ∀ m : Nat, m ≤ xs.length → trd (xs.take m) = tri sgn (xs.take m)
  | 0, _ => rfl
  | m + 1, h => by
    have e2 : xs.take (m + 1) = xs.take m ++ [(xs[m]?).getD 0] := by
      rw [List.take_succ]
      congr 1
      rw [List.getElem?_eq_getElem (by omega)]
      rfl
    rw [e2, trd_snoc, tri_snoc, trd_tri xs m (by omega)]
theorem trend_eq {xs : List Int} (h : xs.length ≤ 1000) : F_trend xs = some (trd xs) := by
  unfold F_trend m_trend
  simp only [bdp, bd_bd]
  have key : ∀ (ys : List Int) (k : Nat) (b : Int), xs.drop k = ys → ∃ c, (loopS (enumN k ys) b fun b184 v185 =>
        bd
          (lcM (cutA xs (some (v185.fst + 1)) none)
            (fltS (cutA xs (some (v185.fst + 1)) none) (fun v192 => pu (decide (v185.snd < v192))) fun v192 => pu 1))
          fun a_1 : List Int =>
          bd
            (lcM (cutA xs (some (v185.fst + 1)) none)
              (fltS (cutA xs (some (v185.fst + 1)) none) (fun v205 => pu (decide (v205 < v185.snd))) fun v205 => pu 1))
            fun a : List Int => pu (Fl.nx (b184 + ↑a_1.length - ↑a.length)) : Unit → Option (Fl Int Unit Int × Unit)) = pu (.nx c) ∧ c = b + trd ys := by
    intro ys
    induction ys with
    | nil => intro k b _; exact ⟨b, rfl, by show b = b + 0; omega⟩
    | cons y ys ih =>
      intro k b hk
      have h2 : xs.drop (k + 1) = ys := by
        rw [← List.drop_drop, hk]
        rfl
      have hl : ys.length ≤ 1000 := by
        rw [← h2, List.length_drop]
        omega
      obtain ⟨c, e1, e2⟩ := ih (k + 1) (b + ((ys.filter fun z => decide (y < z)).length : Int) - ((ys.filter fun z => decide (z < y)).length : Int)) h2
      refine ⟨c, ?_, by rw [e2]; show _ = b + (_ - _ + trd ys); omega⟩
      rw [enumN_cons, loop_cons_nx (b' := b + ((ys.filter fun z => decide (y < z)).length : Int) - ((ys.filter fun z => decide (z < y)).length : Int)) ?_]
      · exact e1
      · show bd (lcM (cutA xs (some ((k : Int) + 1)) none) _) _ = _
        have e3 : cutA xs (some ((k : Int) + 1)) none = ys := by
          rw [cutA_from (by omega), show ((k : Int) + 1).toNat = k + 1 by omega, h2]
        rw [e3, lcM_eq (by unfold big; omega), fltS_pu (q := fun z => decide (y < z)) (g := fun _ => (1 : Int)) (fun _ _ => rfl) (fun _ _ _ => rfl), bdp, lcM_eq (by unfold big; omega), fltS_pu (q := fun z => decide (z < y)) (g := fun _ => (1 : Int)) (fun _ _ => rfl) (fun _ _ _ => rfl), bdp, List.length_map, List.length_map]
  obtain ⟨c, e1, e2⟩ := key xs 0 0 rfl
  rw [enumL_eq]
  refine (congrArg (fun m => run0 (seqF m fun b212 => pu (Fl.rt b212)) ()) e1).trans ?_
  rw [e2, Int.zero_add]
  rfl
theorem law_trend_eq {xs : List Int} (h : xs.length ≤ 1000) : F_law_trend xs = some (trd xs) := by
  unfold F_law_trend m_law_trend
  simp only [bdp, bd_bd]
  rw [rngO_eq (by omega) (by omega) (by omega) (by omega), lfp, bdp]
  rw [loop_pu (g := fun b j => (rng 0 j).foldl (fun b k => b + sgn ((xs[j.toNat]?).getD 0) ((xs[k.toNat]?).getD 0)) b) fun b j hj => ?_]
  · rw [seqn, tri_fold sgn xs xs.length (Nat.le_refl _), ← trd_tri xs xs.length (Nat.le_refl _), List.take_length]
    rfl
  · have kj := mem_rng.mp hj
    rw [rngO_eq (by omega) (by omega) (by omega) (by omega), lfp, bdp]
    rw [loop_pu (g := fun b k => b + sgn ((xs[j.toNat]?).getD 0) ((xs[k.toNat]?).getD 0)) fun b k hk => ?_]
    · rfl
    · have kk := mem_rng.mp hk
      have ej : atI xs j = some ((xs[j.toNat]?).getD 0) := by
        have := atI_get (xs := xs) (i := j.toNat) (by omega)
        rw [Int.toNat_of_nonneg kj.1] at this
        exact this
      have ek : atI xs k = some ((xs[k.toNat]?).getD 0) := by
        have := atI_get (xs := xs) (i := k.toNat) (by omega)
        rw [Int.toNat_of_nonneg kk.1] at this
        exact this
      rw [ej, ek]
      simp only [lfp, bdp]
      congr 2
      unfold sgn
      simp only [decide_eq_true_eq]
      omega

/-! ### ranks -/
theorem split3 (v : Int) : ∀ {row : List Int}, row.Pairwise (· ≤ ·) → row = row.filter (fun x => decide (x < v)) ++ (row.filter (fun x => decide (x = v)) ++ row.filter (fun x => decide (v < x)))
  | [], _ => rfl
  | x :: r, h => by
    have ih := split3 v (List.pairwise_cons.mp h).2
    have hx := (List.pairwise_cons.mp h).1
    by_cases c1 : x < v
    · rw [List.filter_cons_of_pos (by simpa using c1), List.filter_cons_of_neg (by simp; omega), List.filter_cons_of_neg (by simp; omega), List.cons_append, ← ih]
    · have n1 : r.filter (fun x => decide (x < v)) = [] := List.filter_eq_nil_iff.mpr fun y hy => by
        have := hx y hy
        simp
        omega
      by_cases c2 : x = v
      · rw [List.filter_cons_of_neg (by simpa using c1), List.filter_cons_of_pos (by simpa using c2), List.filter_cons_of_neg (by simp; omega), n1]
        rw [n1] at ih
        rw [List.nil_append, List.cons_append]
        rw [List.nil_append] at ih
        rw [← ih]
      · have n2 : r.filter (fun x => decide (x = v)) = [] := List.filter_eq_nil_iff.mpr fun y hy => by
          have := hx y hy
          simp
          omega
        rw [List.filter_cons_of_neg (by simpa using c1), List.filter_cons_of_neg (by simpa using c2), List.filter_cons_of_pos (by simp; omega), n1, n2]
        rw [n1, n2] at ih
        rw [List.nil_append, List.nil_append]
        rw [List.nil_append, List.nil_append] at ih
        rw [← ih]
def les (xs : List Int) (v : Int) : Nat := (xs.filter fun x => decide (x < v)).length
def eqs (xs : List Int) (v : Int) : Nat := (xs.filter fun x => decide (x = v)).length
def rankN (xs : List Int) : List (Int × Int) := xs.map fun v => low (2 * (les xs v : Int) + (eqs xs v : Int) + 1) 2
theorem ranked_eq {xs : List Int} (h : xs.length ≤ 1000) : F_ranked xs = some (rankN xs) := by
  unfold F_ranked m_ranked
  simp only [bdp, bd_bd]
  rw [loop_app (g := fun v => low (2 * (les xs v : Int) + (eqs xs v : Int) + 1) 2) (fun b hb v hv => ?_) (by unfold big; show 0 + _ ≤ _; omega)]
  · rw [seqn, run0_pu]
    rfl
  · rw [lcM_eq (by unfold big; omega), fltS_pu (q := fun z => decide (z < v)) (g := fun _ => (1 : Int)) (fun _ _ => rfl) (fun _ _ _ => rfl), bdp, lcM_eq (by unfold big; omega), fltS_pu (q := fun z => decide (z = v)) (g := fun _ => (1 : Int)) (fun _ _ => rfl) (fun _ _ _ => rfl), bdp, List.length_map, List.length_map, mulO_l (by decide)]
    simp only [lfp, bdp]
    rw [fraction_eq (by omega) (by omega), lfp, bdp, gd_pos hb]
    rfl
theorem les_srt (xs : List Int) (v : Int) : les (srt xs) v = les xs v := ((srt_perm xs).filter _).length_eq
theorem eqs_srt (xs : List Int) (v : Int) : eqs (srt xs) v = eqs xs v := ((srt_perm xs).filter _).length_eq
theorem get3' {v : Int} {A B C : List Int} (hA : ∀ x ∈ A, x < v) (hB : ∀ x ∈ B, x = v) (hC : ∀ x ∈ C, v < x) {i : Nat} (hi : i < (A ++ (B ++ C)).length) : ((A ++ (B ++ C))[i]?).getD 0 = v ↔ A.length ≤ i ∧ i < A.length + B.length := by
  rw [List.length_append, List.length_append] at hi
  by_cases c1 : i < A.length
  · rw [List.getElem?_append_left c1, List.getElem?_eq_getElem c1, Option.getD_some]
    have := hA _ (List.getElem_mem c1)
    omega
  · rw [List.getElem?_append_right (by omega)]
    by_cases c2 : i - A.length < B.length
    · rw [List.getElem?_append_left c2, List.getElem?_eq_getElem c2, Option.getD_some]
      have := hB _ (List.getElem_mem c2)
      omega
    · rw [List.getElem?_append_right (by omega), List.getElem?_eq_getElem (show i - A.length - B.length < C.length by omega), Option.getD_some]
      have := hC _ (List.getElem_mem (show i - A.length - B.length < C.length by omega))
      omega
theorem get3 {row : List Int} (hp : row.Pairwise (· ≤ ·)) (v : Int) {i : Nat} (hi : i < row.length) : (row[i]?).getD 0 = v ↔ les row v ≤ i ∧ i < les row v + eqs row v := by
  have e := split3 v hp
  have k := get3' (v := v) (A := row.filter fun x => decide (x < v)) (B := row.filter fun x => decide (x = v)) (C := row.filter fun x => decide (v < x)) (fun x hx => by simpa using (List.mem_filter.mp hx).2) (fun x hx => by simpa using (List.mem_filter.mp hx).2) (fun x hx => by simpa using (List.mem_filter.mp hx).2) (i := i) (by rw [← e]; exact hi)
  rw [← e] at k
  exact k
theorem places {xs : List Int} {v : Int} (hv : v ∈ xs) (h : xs.length ≤ 1000) : ∃ a z : Int, atI ((rng 0 (srt xs).length).filter fun k => decide (((srt xs)[k.toNat]?).getD 0 = v)) 0 = some a ∧ atI ((rng 0 (srt xs).length).filter fun k => decide (((srt xs)[k.toNat]?).getD 0 = v)) (-1) = some z ∧ a + z + 2 = 2 * (les xs v : Int) + (eqs xs v : Int) + 1 := by
  rw [← les_srt, ← eqs_srt]
  have hv : v ∈ srt xs := srt_mem.mpr hv
  have hp := srt_pw xs
  generalize srt xs = row at *
  generalize e : (rng 0 row.length).filter (fun k => decide ((row[k.toNat]?).getD 0 = v)) = r
  have hr : ∀ k, k ∈ r ↔ (0 ≤ k ∧ k < row.length) ∧ (row[k.toNat]?).getD 0 = v := fun k => by
    rw [← e, List.mem_filter, mem_rng, decide_eq_true_iff]
  have hq : r.Pairwise (· < ·) := by rw [← e]; exact (rng_pw _ _).filter _
  have h0 : 0 < eqs row v := List.length_pos_iff.mpr fun e => by
    have : v ∈ row.filter fun x => decide (x = v) := List.mem_filter.mpr ⟨hv, by simp⟩
    rw [e] at this
    cases this
  have hle : les row v + eqs row v ≤ row.length := by
    have := congrArg List.length (split3 v hp)
    rw [List.length_append, List.length_append] at this
    unfold les eqs
    omega
  have m1 : ((les row v : Nat) : Int) ∈ r := (hr _).mpr ⟨by omega, by rw [Int.toNat_natCast]; exact (get3 hp v (by omega)).mpr (by omega)⟩
  have m2 : ((les row v + eqs row v - 1 : Nat) : Int) ∈ r := (hr _).mpr ⟨by omega, by rw [Int.toNat_natCast]; exact (get3 hp v (by omega)).mpr (by omega)⟩
  obtain ⟨a, ha, ha1, ha2⟩ := head_pw hq (List.ne_nil_of_mem m1)
  obtain ⟨z, hz, hz1, hz2⟩ := last_pw hq (List.ne_nil_of_mem m1)
  refine ⟨a, z, ha, hz, ?_⟩
  have b1 := ha2 _ m1
  have b2 := hz2 _ m2
  obtain ⟨c1, c2⟩ := (hr a).mp ha1
  obtain ⟨c3, c4⟩ := (hr z).mp hz1
  have d1 := (get3 hp v (i := a.toNat) (by omega)).mp c2
  have d2 := (get3 hp v (i := z.toNat) (by omega)).mp c4
  omega
theorem law_ranks_eq {xs : List Int} (h : xs.length ≤ 1000) : F_law_ranks xs = some (rankN xs) := by
  unfold F_law_ranks m_law_ranks
  simp only [bdp, bd_bd]
  rw [loop_app (g := fun v => low (2 * (les xs v : Int) + (eqs xs v : Int) + 1) 2) (fun b hb v hv => ?_) (by unfold big; show 0 + _ ≤ _; omega)]
  · rw [seqn, run0_pu]
    rfl
  · have hl := srt_len xs
    rw [rngO_eq (by omega) (by omega) (by omega) (by omega), lfp, bdp, lcM_eq (by rw [rng_length]; unfold big; omega)]
    rw [fltS_pu (q := fun k : Int => decide (((srt xs)[k.toNat]?).getD 0 = v)) (g := fun k => k) (fun w hw => ?_) (fun _ _ _ => rfl)]
    · obtain ⟨a, z, e1, e2, e3⟩ := places hv h
      rw [List.map_id', bdp, e1, lfp, bdp, e2, lfp, bdp, e3, low_eq (by omega) (by omega), lfp, bdp, gd_pos hb]
    · have kw := mem_rng.mp hw
      have ew : atI (srt xs) w = some (((srt xs)[w.toNat]?).getD 0) := by
        have := atI_get (xs := srt xs) (i := w.toNat) (by omega)
        rw [Int.toNat_of_nonneg kw.1] at this
        exact this
      rw [ew, lfp, bdp]

/-! ### the best stretch -/
def sm (xs : List Int) (s e : Int) : Int := (cutA xs (some s) (some e)).sum
theorem cut_se {xs : List Int} {s e : Int} (h1 : 0 ≤ s) (h2 : s ≤ e) (h3 : e ≤ xs.length) : cutA xs (some s) (some e) = (xs.drop s.toNat).take (e.toNat - s.toNat) := by
  unfold cutA
  rw [sIx_pos h1, sIx_pos (by omega), show min s.toNat xs.length = s.toNat by omega, show min e.toNat xs.length = e.toNat by omega]
theorem sm_step {xs : List Int} {s e : Int} (h1 : 0 ≤ s) (h2 : s < e) (h3 : e ≤ xs.length) : sm xs s e = sm xs s (e - 1) + (xs[(e - 1).toNat]?).getD 0 := by
  unfold sm
  rw [cut_se h1 (by omega) h3, cut_se h1 (by omega) (by omega)]
  rw [show e.toNat - s.toNat = ((e - 1).toNat - s.toNat) + 1 by omega, List.take_succ, List.sum_append, List.getElem?_drop, show s.toNat + ((e - 1).toNat - s.toNat) = (e - 1).toNat by omega]
  congr 1
  rw [List.getElem?_eq_getElem (by omega)]
  simp
theorem sm_nil {xs : List Int} {s : Int} (h1 : 0 ≤ s) (h3 : s ≤ xs.length) : sm xs s s = 0 := by
  unfold sm
  rw [cut_se h1 (by omega) h3, Nat.sub_self]
  rfl
abbrev Best := Option (Int × Int × Int)
def sP (xs : List Int) (v : Int) (b : Best) (m : Int) : Best := if b.isNone || HT.lexLt [-sm xs v m, v, m] [(b.getD (0, 0, 0)).1, (b.getD (0, 0, 0)).2.1, (b.getD (0, 0, 0)).2.2] then some (-sm xs v m, v, m) else b
def sL (xs : List Int) (v : Int) (b : Best) (m : Int) : Best := if b.isNone || decide (-(b.getD (0, 0, 0)).1 < sm xs v m) then some (-sm xs v m, v, m) else b
def mostP (xs : List Int) : Best := (rng 0 xs.length).foldl (fun q v => (rng (v + 1) (xs.length + 1)).foldl (sP xs v) q) none
def mostL (xs : List Int) : Best := (rng 0 xs.length).foldl (fun q v => (rng (v + 1) (xs.length + 1)).foldl (sL xs v) q) none
def strN (xs : List Int) : Option (Int × Int) := (mostL xs).map fun q => (q.2.1, q.2.2)
theorem most_same (xs : List Int) : mostP xs = mostL xs := by
  have inner : ∀ (v : Int) (ms : List Int) (q : Best), ms.Pairwise (· < ·) → (∀ m ∈ ms, ∀ p, q = some p → p.2.1 < v ∨ (p.2.1 = v ∧ p.2.2 < m)) → (∀ p, q = some p → p.2.1 ≤ v) →
      ms.foldl (sP xs v) q = ms.foldl (sL xs v) q ∧ ∀ p, ms.foldl (sL xs v) q = some p → p.2.1 ≤ v := by
    intro v ms
    induction ms with
    | nil => intro q _ _ h; exact ⟨rfl, h⟩
    | cons m ms ih =>
      intro q hp ha hle
      have hs : sP xs v q m = sL xs v q m := by
        unfold sP sL
        cases q with
        | none => rfl
        | some p =>
          have e : HT.lexLt [-sm xs v m, v, m] [p.1, p.2.1, p.2.2] = decide (-p.1 < sm xs v m) := by
            rw [HT.lexLt_cons, HT.lexLt_cons, HT.lexLt_cons, HT.lexLt_nil_nil]
            have := ha m List.mem_cons_self p rfl
            by_cases c : -sm xs v m = p.1
            · rw [if_pos c, decide_eq_false (p := -p.1 < sm xs v m) (by omega)]
              by_cases c2 : v = p.2.1
              · rw [if_pos c2, if_neg (by omega)]
                exact decide_eq_false (by omega)
              · rw [if_neg c2]
                exact decide_eq_false (by omega)
            · rw [if_neg c]
              congr 1
              apply propext
              omega
          show (if (false || HT.lexLt [-sm xs v m, v, m] [p.1, p.2.1, p.2.2]) = true then _ else _) = (if (false || decide (-p.1 < sm xs v m)) = true then _ else _)
          rw [e]
      have hq : ∀ p, sL xs v q m = some p → (p.2.1 < v ∨ (p.2.1 = v ∧ p.2.2 < m)) ∨ (p.2.1 = v ∧ p.2.2 = m) := by
        intro p e
        unfold sL at e
        split at e
        · cases e; exact .inr ⟨rfl, rfl⟩
        · exact .inl (ha m List.mem_cons_self p e)
      have := ih (sL xs v q m) (List.pairwise_cons.mp hp).2 (fun m2 h2 p e => by
        have h3 := (List.pairwise_cons.mp hp).1 m2 h2
        rcases hq p e with (h4 | h4) | h4
        · exact .inl h4
        · exact .inr ⟨h4.1, by omega⟩
        · exact .inr ⟨h4.1, by omega⟩) (fun p e => by
        rcases hq p e with (h4 | h4) | h4 <;> omega)
      rw [List.foldl_cons, List.foldl_cons, hs]
      exact this
  have outer : ∀ (vs : List Int) (q : Best), vs.Pairwise (· < ·) → (∀ v ∈ vs, ∀ p, q = some p → p.2.1 < v) →
      vs.foldl (fun q v => (rng (v + 1) (xs.length + 1)).foldl (sP xs v) q) q = vs.foldl (fun q v => (rng (v + 1) (xs.length + 1)).foldl (sL xs v) q) q := by
    intro vs
    induction vs with
    | nil => intro q _ _; rfl
    | cons v vs ih =>
      intro q hp ha
      obtain ⟨e1, e2⟩ := inner v (rng (v + 1) (xs.length + 1)) q (rng_pw _ _) (fun m _ p e => .inl (ha v List.mem_cons_self p e)) (fun p e => by
        have := ha v List.mem_cons_self p e
        omega)
      rw [List.foldl_cons, List.foldl_cons, e1]
      exact ih _ (List.pairwise_cons.mp hp).2 fun v2 h2 p e => by
        have h3 := (List.pairwise_cons.mp hp).1 v2 h2
        have := e2 p e
        omega
  exact outer _ none (rng_pw _ _) (fun v _ p e => nomatch e)
theorem best_eq {xs : List Int} (h : xs.length ≤ 1000) : F_best_stretch xs = some (strN xs) := by
  unfold F_best_stretch m_best_stretch
  simp only [bdp, bd_bd]
  rw [rngO_eq (by omega) (by omega) (by omega) (by omega), lfp, bdp]
  rw [loop_pu (g := fun q v => (rng (v + 1) (xs.length + 1)).foldl (sP xs v) q) fun q v hv => ?_]
  · rw [seqn]
    unfold strN
    rw [← most_same]
    show run0 (bd (if (!(mostP xs).isNone) = true then bd (lf (mostP xs)) fun a => bd (lf (mostP xs)) fun a_1 => pu (some (a.snd.fst, a_1.snd.snd)) else pu none) fun x165 => pu (Fl.rt x165)) () = _
    generalize mostP xs = z
    cases z <;> rfl
  · have k := mem_rng.mp hv
    rw [rngO_eq (by omega) (by omega) (by omega) (by omega), lfp, bdp]
    rw [loop_pu (g := sP xs v) fun q m hm => ?_]
    · rfl
    · unfold sP
      cases q with
      | none => rfl
      | some q =>
        rw [if_neg (show ¬ ((some q).isNone = true) by simp), lfp, bdp, bdp]
        show (if HT.lexLt [-sm xs v m, v, m] [q.1, q.2.1, q.2.2] = true then _ else _) = pu (Fl.nx (if (false || HT.lexLt [-sm xs v m, v, m] [q.1, q.2.1, q.2.2]) = true then _ else _))
        rw [Bool.false_or]
        split <;> rfl
/-- what the law keeps -/
def keep (b : Best) : Option (Int × Int) × Int := (b.map fun q => (q.2.1, q.2.2), -(b.getD (0, 0, 0)).1)
theorem law_stretch_eq {xs : List Int} (h : xs.length ≤ 1000) : F_law_stretch xs = some (strN xs) := by
  unfold F_law_stretch m_law_stretch
  simp only [bdp, bd_bd]
  rw [rngO_eq (by omega) (by omega) (by omega) (by omega), lfp, bdp]
  have inner : ∀ (v : Int), 0 ≤ v → v < xs.length → ∀ (n : Nat) (lo : Int), v < lo → lo ≤ (xs.length : Int) + 1 → ((xs.length : Int) + 1 - lo).toNat = n → ∀ b : Best, ∃ z, (loopS (rng lo (xs.length + 1)) ((keep b).1, (keep b).2, sm xs v (lo - 1)) fun (b562 : Option (Int × Int) × Int × Int) v563 =>
                bd (lf (atI xs (v563 - 1))) fun a =>
                  bd (if b562.fst.isNone = true then pu true else pu (decide (b562.snd.fst < b562.snd.snd + a)))
                    fun c575 =>
                    if c575 = true then pu (Fl.nx (some (v, v563), b562.snd.snd + a, b562.snd.snd + a))
                    else pu (Fl.nx (b562.fst, b562.snd.fst, b562.snd.snd + a)) : Unit → Option (Fl (Option (Int × Int) × Int × Int) (Option (Int × Int) × Int) (Option (Int × Int)) × Unit)) = pu (.nx ((keep ((rng lo (xs.length + 1)).foldl (sL xs v) b)).1, (keep ((rng lo (xs.length + 1)).foldl (sL xs v) b)).2, z)) := by
    intro v hv1 hv2 n
    induction n with
    | zero =>
      intro lo h1 h2 h3 b
      rw [rng_nil (by omega)]
      exact ⟨_, rfl⟩
    | succ n ih =>
      intro lo h1 h2 h3 b
      obtain ⟨z, e⟩ := ih (lo + 1) (by omega) (by omega) (by omega) (sL xs v b lo)
      refine ⟨z, ?_⟩
      rw [rng_cons (by omega), List.foldl_cons]
      refine Eq.trans (loop_cons_nx ?_) e
      have ea : atI xs (lo - 1) = some ((xs[(lo - 1).toNat]?).getD 0) := by
        have := atI_get (xs := xs) (i := (lo - 1).toNat) (by omega)
        rw [Int.toNat_of_nonneg (by omega)] at this
        exact this
      rw [ea, lfp, bdp, Int.add_sub_cancel]
      have es := sm_step hv1 h1 (show lo ≤ xs.length by omega)
      show bd (if (keep b).1.isNone = true then pu true else pu (decide ((keep b).2 < sm xs v (lo - 1) + _))) (fun c575 => if c575 = true then pu (Fl.nx (some (v, lo), sm xs v (lo - 1) + _, sm xs v (lo - 1) + _)) else pu (Fl.nx ((keep b).1, (keep b).2, sm xs v (lo - 1) + _))) = _
      rw [← es]
      unfold sL
      cases b with
      | none =>
        show pu (Fl.nx (some (v, lo), sm xs v lo, sm xs v lo)) = pu (Fl.nx (some (v, lo), - -sm xs v lo, sm xs v lo))
        rw [Int.neg_neg]
      | some p =>
        show (if decide (-p.1 < sm xs v lo) = true then _ else _) = _
        by_cases c : -p.1 < sm xs v lo
        · rw [if_pos (decide_eq_true c), if_pos (by simpa using c)]
          show pu (Fl.nx (some (v, lo), sm xs v lo, sm xs v lo)) = pu (Fl.nx (some (v, lo), - -sm xs v lo, sm xs v lo))
          rw [Int.neg_neg]
        · rw [if_neg (by simpa using c), if_neg (by simpa using c)]
  have outer : ∀ (vs : List Int) (b : Best), (∀ v ∈ vs, 0 ≤ v ∧ v < xs.length) → (loopS vs (keep b) fun (b550 : Option (Int × Int) × Int) v551 =>
          bd (lf (rngO (v551 + 1) (↑xs.length + 1))) fun x582 =>
            seqF
              (loopS x582 (b550.fst, b550.snd, 0) fun b562 v563 =>
                bd (lf (atI xs (v563 - 1))) fun a =>
                  bd (if b562.fst.isNone = true then pu true else pu (decide (b562.snd.fst < b562.snd.snd + a)))
                    fun c575 =>
                    if c575 = true then pu (Fl.nx (some (v551, v563), b562.snd.snd + a, b562.snd.snd + a))
                    else pu (Fl.nx (b562.fst, b562.snd.fst, b562.snd.snd + a)))
              fun b581 => pu (Fl.nx (b581.fst, b581.snd.fst)) : Unit → Option (Fl (Option (Int × Int) × Int) Unit (Option (Int × Int)) × Unit)) = pu (.nx (keep (vs.foldl (fun q v => (rng (v + 1) (xs.length + 1)).foldl (sL xs v) q) b))) := by
    intro vs
    induction vs with
    | nil => intro b _; rfl
    | cons v vs ih =>
      intro b hv
      have k := hv v List.mem_cons_self
      obtain ⟨z, e⟩ := inner v k.1 k.2 _ (v + 1) (by omega) (by omega) rfl b
      rw [List.foldl_cons, ← ih _ fun w hw => hv w (List.mem_cons_of_mem _ hw)]
      refine loop_cons_nx ?_
      rw [rngO_eq (by omega) (by omega) (by omega) (by omega), lfp, bdp]
      rw [Int.add_sub_cancel, sm_nil k.1 (by omega)] at e
      rw [e, seqn]
  have e := outer (rng 0 xs.length) none (fun v hv => mem_rng.mp hv)
  refine (congrArg (fun m => run0 (seqF m fun b583 => pu (Fl.rt b583.1)) ()) e).trans ?_
  rfl

/-! ### windows -/
def topV : List Int → Int
  | [] => 0
  | x :: r => r.foldl (fun b v => if b < v then v else b) x
theorem fold_max : ∀ (r : List Int) (x : Int), (x ∈ r ∨ True) ∧ (r.foldl (fun b v => if b < v then v else b) x ∈ x :: r) ∧ ∀ y ∈ x :: r, y ≤ r.foldl (fun b v => if b < v then v else b) x
  | [], x => ⟨.inr trivial, List.mem_cons_self, fun y hy => by
    rcases List.mem_cons.mp hy with rfl | hy
    · exact Int.le_refl _
    · cases hy⟩
  | v :: r, x => by
    obtain ⟨_, h1, h2⟩ := fold_max r (if x < v then v else x)
    rw [List.foldl_cons]
    refine ⟨.inr trivial, ?_, fun y hy => ?_⟩
    · rcases List.mem_cons.mp h1 with h | h
      · rw [h]
        split
        · exact List.mem_cons_of_mem _ List.mem_cons_self
        · exact List.mem_cons_self
      · exact List.mem_cons_of_mem _ (List.mem_cons_of_mem _ h)
    · have h3 := h2 _ List.mem_cons_self
      have h4 : x ≤ (if x < v then v else x) := by split <;> omega
      have h5 : v ≤ (if x < v then v else x) := by split <;> omega
      rcases List.mem_cons.mp hy with rfl | hy
      · exact Int.le_trans h4 h3
      · rcases List.mem_cons.mp hy with rfl | hy
        · exact Int.le_trans h5 h3
        · exact h2 y (List.mem_cons_of_mem _ hy)
theorem top_max {ys : List Int} (h : ys ≠ []) : ys.max? = some (topV ys) := by
  cases ys with
  | nil => exact absurd rfl h
  | cons x r =>
    obtain ⟨_, h1, h2⟩ := fold_max r x
    exact List.max?_eq_some_iff.mpr ⟨h1, h2⟩
theorem fold_same (x : Int) (r : List Int) : (x :: r).foldl (fun b v => if b < v then v else b) x = topV (x :: r) := by
  rw [List.foldl_cons, if_neg (by omega)]
  rfl
def winN (xs : List Int) (size : Int) : List Int := (rng 0 (xs.length - size + 1)).map fun a => topV (cutA xs (some a) (some (a + size)))
theorem cut_ne {xs : List Int} {s size : Int} (h1 : 0 ≤ s) (h2 : 0 < size) (h3 : s + size ≤ xs.length) : ∃ r, cutA xs (some s) (some (s + size)) = (xs[s.toNat]?).getD 0 :: r := by
  rw [cut_se h1 (by omega) h3, List.drop_eq_getElem_cons (by omega), show (s + size).toNat - s.toNat = ((s + size).toNat - s.toNat - 1) + 1 by omega, List.take_succ_cons, List.getElem?_eq_getElem (by omega)]
  exact ⟨_, rfl⟩
theorem moving_eq {xs : List Int} {size : Int} (h : xs.length ≤ 1000) (h1 : 0 < size) (h2 : size ≤ 100000) : F_moving_most (xs, size) = some (winN xs size) := by
  unfold F_moving_most m_moving_most
  simp only [bdp, bd_bd]
  rw [rngO_eq (by omega) (by omega) (by omega) (by omega), lfp, bdp, lcM_eq (by rw [rng_length]; unfold big; omega)]
  rw [mapS_pu (g := fun a => topV (cutA xs (some a) (some (a + size)))) fun a ha => ?_, bdp]
  · rfl
  · have k := mem_rng.mp ha
    obtain ⟨r, e⟩ := cut_ne (xs := xs) k.1 h1 (by omega)
    rw [top_max (by rw [e]; simp), lfp]
theorem rng_filter {n c : Int} (h : c ≤ n) : (rng 0 n).filter (fun v => decide (v < c)) = rng 0 c := by
  by_cases hc : c ≤ 0
  · rw [rng_nil hc]
    refine List.filter_eq_nil_iff.mpr fun v hv => ?_
    have := mem_rng.mp hv
    simp
    omega
  · obtain ⟨m, rfl⟩ := Int.eq_ofNat_of_zero_le (show 0 ≤ c by omega)
    obtain ⟨k, rfl⟩ := Int.eq_ofNat_of_zero_le (show 0 ≤ n by omega)
    have hk : m ≤ k := by omega
    clear h hc
    induction k with
    | zero =>
      have : m = 0 := by omega
      subst this
      rfl
    | succ k ih =>
      rw [show ((k + 1 : Nat) : Int) = (k : Int) + 1 by omega, rng_snoc (by omega), List.filter_append]
      by_cases c : m ≤ k
      · rw [ih c, List.filter_cons_of_neg (by simp; omega), List.filter_nil, List.append_nil]
      · have : m = k + 1 := by omega
        subst this
        rw [List.filter_cons_of_pos (by simp; omega), List.filter_nil, show ((k + 1 : Nat) : Int) = (k : Int) + 1 by omega, rng_snoc (by omega)]
        congr 1
        exact List.filter_eq_self.mpr fun v hv => by
          have := mem_rng.mp hv
          simp
          omega
theorem windows_eq {xs : List Int} {size : Int} (h : xs.length ≤ 1000) (h1 : 0 < size) (h2 : size ≤ 100000) : F_law_windows (xs, size) = some (winN xs size) := by
  unfold F_law_windows m_law_windows
  simp only [bdp, bd_bd]
  rw [rngO_eq (by omega) (by omega) (by omega) (by omega), lfp, bdp]
  rw [loop_flt (q := fun v => decide (v < (xs.length : Int) - size + 1)) (g := fun a => topV (cutA xs (some a) (some (a + size)))) (fun b hb v hv => ?_) (by rw [rng_length]; unfold big; show 0 + _ ≤ _; omega)]
  · rw [seqn, run0_pu, rng_filter (by omega)]
    rfl
  · have k := mem_rng.mp hv
    by_cases c : v + size ≤ xs.length
    · have e0 : atI xs v = some ((xs[v.toNat]?).getD 0) := by
        have := atI_get (xs := xs) (i := v.toNat) (by omega)
        rw [Int.toNat_of_nonneg k.1] at this
        exact this
      obtain ⟨r, e⟩ := cut_ne (xs := xs) k.1 h1 c
      rw [if_pos (decide_eq_true c), e0, lfp, bdp, loop_pu (g := fun b v => if b < v then v else b) fun b w _ => by
        by_cases c : b < w
        · rw [if_pos (decide_eq_true c), if_pos c]
        · rw [if_neg (by simpa using c), if_neg c]]
      rw [seqn, gd_pos hb, if_pos (by simp; omega), e, fold_same]
    · rw [if_neg (by simpa using c), if_neg (by simp; omega)]
/-! records -/
/-- the places that are above all ahead of them -/
def rcd : Nat → Option Int → List Int → List Int
  | _, _, [] => []
  | k, t, x :: r => if t.isNone || decide (t.getD 0 < x) then (k : Int) :: rcd (k + 1) (some x) r else rcd (k + 1) t r
def IsTop (pre : List Int) (t : Option Int) : Prop := (t = none ↔ pre = []) ∧ ∀ x, t = some x → x ∈ pre ∧ ∀ y ∈ pre, y ≤ x
theorem IsTop.test {pre : List Int} {t : Option Int} (h : IsTop pre t) (x : Int) : (pre.map fun y => decide (y < x)).all id = (t.isNone || decide (t.getD 0 < x)) := by
  cases t with
  | none =>
    rw [h.1.mp rfl]
    rfl
  | some z =>
    obtain ⟨h1, h2⟩ := h.2 z rfl
    show _ = (false || decide (z < x))
    rw [Bool.false_or, Bool.eq_iff_iff, List.all_eq_true, decide_eq_true_iff]
    constructor
    · intro q
      have := q _ (List.mem_map_of_mem h1)
      simpa using this
    · intro q b hb
      obtain ⟨y, hy, rfl⟩ := List.mem_map.mp hb
      have := h2 y hy
      exact decide_eq_true (by omega)
theorem IsTop.up {pre : List Int} {t : Option Int} (h : IsTop pre t) {x : Int} (c : (t.isNone || decide (t.getD 0 < x)) = true) : IsTop (pre ++ [x]) (some x) := by
  refine ⟨by simp, fun z e => ?_⟩
  cases e
  refine ⟨by simp, fun y hy => ?_⟩
  rcases List.mem_append.mp hy with hy | hy
  · cases t with
    | none => rw [h.1.mp rfl] at hy; cases hy
    | some z =>
      have c : (false || decide (z < x)) = true := c
      have := (h.2 z rfl).2 y hy
      simp at c
      omega
  · rw [List.mem_singleton] at hy
    omega
theorem IsTop.stay {pre : List Int} {t : Option Int} (h : IsTop pre t) {x : Int} (c : ¬ (t.isNone || decide (t.getD 0 < x)) = true) : IsTop (pre ++ [x]) t := by
  cases t with
  | none => simp at c
  | some z =>
    obtain ⟨h1, h2⟩ := h.2 z rfl
    refine ⟨by simp, fun w e => ?_⟩
    cases e
    refine ⟨List.mem_append_left _ h1, fun y hy => ?_⟩
    rcases List.mem_append.mp hy with hy | hy
    · exact h2 y hy
    · rw [List.mem_singleton] at hy
      have c : ¬ (false || decide (z < x)) = true := c
      simp at c
      omega
theorem rcd_flt {xs : List Int} : ∀ (ys : List Int) (k : Nat) (t : Option Int), xs.drop k = ys → k ≤ xs.length → IsTop (xs.take k) t →
    ((enumN k ys).filter fun q => ((xs.take q.1.toNat).map fun y => decide (y < q.2)).all id).map (·.1) = rcd k t ys
  | [], _, _, _, _, _ => rfl
  | y :: ys, k, t, hk, hl, ht => by
    have h1 : xs[k]? = some y := by
      have := congrArg (fun l => l[0]?) hk
      simp only [List.getElem?_drop, Nat.add_zero, List.getElem?_cons_zero] at this
      exact this
    have h2 : xs.drop (k + 1) = ys := by
      rw [← List.drop_drop, hk]
      rfl
    have h3 : xs.take (k + 1) = xs.take k ++ [y] := by
      rw [List.take_succ, h1]
      rfl
    have h4 : k < xs.length := by
      rcases Nat.lt_or_ge k xs.length with q | q
      · exact q
      · rw [List.getElem?_eq_none q] at h1; cases h1
    have et := ht.test y
    rw [enumN_cons]
    unfold rcd
    by_cases c : (t.isNone || decide (t.getD 0 < y)) = true
    · rw [if_pos c, List.filter_cons_of_pos (by rw [Int.toNat_natCast, et]; exact c), List.map_cons, rcd_flt ys (k + 1) (some y) h2 (by omega) (by rw [h3]; exact ht.up c)]
    · rw [if_neg c, List.filter_cons_of_neg (by rw [Int.toNat_natCast, et]; exact c), rcd_flt ys (k + 1) t h2 (by omega) (by rw [h3]; exact ht.stay c)]
theorem enumN_mem {k : Nat} {xs : List Int} {q : Int × Int} (h : q ∈ enumN k xs) : 0 ≤ q.1 := by
  unfold enumN at h
  obtain ⟨p, _, rfl⟩ := List.mem_map.mp h
  show (0 : Int) ≤ (p.2 : Int)
  omega
theorem enumN_length (k : Nat) (xs : List Int) : (enumN k xs).length = xs.length := by simp [enumN]
theorem records_eq {xs : List Int} (h : xs.length ≤ 1000) : F_records xs = some (rcd 0 none xs) := by
  unfold F_records m_records
  simp only [bdp, bd_bd]
  rw [enumL_eq, lcM_eq (by rw [enumN_length]; unfold big; omega)]
  rw [fltS_pu (q := fun q => ((xs.take q.1.toNat).map fun y => decide (y < q.2)).all id) (g := fun q : Int × Int => q.1) (fun q hq => ?_) (fun _ _ _ => rfl), bdp, run0_pu]
  · congr 1
    exact rcd_flt xs 0 none rfl (Nat.zero_le _) ⟨by simp, fun x e => nomatch e⟩
  · have := enumN_mem hq
    rw [cutA_to this, lcM_eq (by unfold big; rw [List.length_take]; omega), mapS_pu (g := fun y => decide (y < q.2)) (fun _ _ => rfl), bdp]
theorem law_records_eq {xs : List Int} (h : xs.length ≤ 1000) : F_law_records xs = some (rcd 0 none xs) := by
  unfold F_law_records m_law_records
  simp only [bdp, bd_bd]
  rw [rngO_eq (by omega) (by omega) (by omega) (by omega), lfp, bdp]
  have key : ∀ (ys : List Int) (k : Nat) (f : List Int) (t : Option Int), xs.drop k = ys → k ≤ xs.length → f.length ≤ k → ∃ t', (loopS (rng (k : Int) xs.length) (f, t) fun (b664 : List Int × Option Int) v665 =>
          bd
            (if b664.snd.isNone = true then pu true
            else bd (lf (atI xs v665)) fun x670 => bd (lf b664.snd) fun x671 => pu (decide (x671 < x670)))
            fun c673 =>
            if c673 = true then
              gd (b664.fst.length < big) (bd (lf (atI xs v665)) fun a => pu (Fl.nx (b664.fst ++ [v665], some a)))
            else pu (Fl.nx (b664.fst, b664.snd)) : Unit → Option (Fl (List Int × Option Int) Unit (List Int) × Unit)) = pu (.nx (f ++ rcd k t ys, t')) := by
    intro ys
    induction ys with
    | nil =>
      intro k f t hk hl _
      have : xs.length ≤ k := List.drop_eq_nil_iff.mp hk
      rw [rng_nil (by omega)]
      exact ⟨t, by show _ = pu (Fl.nx (f ++ [], t)); rw [List.append_nil]; rfl⟩
    | cons y ys ih =>
      intro k f t hk hl hf
      have h1 : xs[k]? = some y := by
        have := congrArg (fun l => l[0]?) hk
        simp only [List.getElem?_drop, Nat.add_zero, List.getElem?_cons_zero] at this
        exact this
      have h2 : xs.drop (k + 1) = ys := by
        rw [← List.drop_drop, hk]
        rfl
      have h4 : k < xs.length := by
        rcases Nat.lt_or_ge k xs.length with q | q
        · exact q
        · rw [List.getElem?_eq_none q] at h1; cases h1
      have ea : atI xs (k : Int) = some y := by
        rw [atI_get h4, h1]
        rfl
      rw [rng_cons (by omega)]
      unfold rcd
      by_cases c : (t.isNone || decide (t.getD 0 < y)) = true
      · obtain ⟨t', e⟩ := ih (k + 1) (f ++ [(k : Int)]) (some y) h2 (by omega) (by rw [List.length_append, List.length_singleton]; omega)
        refine ⟨t', ?_⟩
        rw [if_pos c]
        rw [List.append_assoc] at e
        refine Eq.trans (loop_cons_nx ?_) e
        cases t with
        | none =>
          show gd (f.length < big) _ = _
          rw [gd_pos (by unfold big; omega), ea, lfp, bdp]
        | some z =>
          have c : (false || decide (z < y)) = true := c
          rw [Bool.false_or] at c
          rw [if_neg (show ¬ ((some z).isNone = true) by simp), ea, lfp, bdp]
          show bd (bd (pu z) _) _ = _
          rw [bdp, bdp, if_pos c, bdp, gd_pos (by unfold big; show f.length < _; omega)]
      · obtain ⟨t', e⟩ := ih (k + 1) f t h2 (by omega) (by omega)
        refine ⟨t', ?_⟩
        rw [if_neg c]
        refine Eq.trans (loop_cons_nx ?_) e
        cases t with
        | none => simp at c
        | some z =>
          have c : ¬ (false || decide (z < y)) = true := c
          rw [Bool.false_or] at c
          rw [if_neg (show ¬ ((some z).isNone = true) by simp), ea, lfp, bdp]
          show bd (bd (pu z) _) _ = _
          rw [bdp, bdp, if_neg c]
  obtain ⟨t', e⟩ := key xs 0 [] none rfl (Nat.zero_le _) (Nat.le_refl _)
  refine (congrArg (fun m => run0 (seqF m fun b583 => pu (Fl.rt b583.1)) ()) e).trans ?_
  rfl

/-! ### classes -/
def cnt (bs : List Int) (v : Int) : Nat := (bs.filter fun b => decide (b ≤ v)).length
def clsN (xs bs : List Int) : List Int := (List.range (bs.length + 1)).map fun k => ((xs.filter fun v => decide (cnt bs v = k)).length : Int)
theorem cnt_le (bs : List Int) (v : Int) : cnt bs v ≤ bs.length := List.length_filter_le _ _
theorem by_class_eq {xs bs : List Int} (hb : bs.length ≤ 1000) : F_by_class (xs, bs) = some (clsN xs bs) := by
  unfold F_by_class m_by_class
  simp only [bdp, bd_bd]
  rw [lcM_eq (by unfold big; omega), mapS_pu (g := fun _ => (0 : Int)) (fun _ _ => rfl), bdp, catO_eq (by unfold big; rw [List.length_map, List.length_singleton]; omega), lfp, bdp]
  have key : ∀ (ys : List Int) (f : List Int), f.length = bs.length + 1 → ∃ f', (loopS ys f fun (b223 : List Int) v224 =>
            bd (lcM bs (fltS bs (fun v225 => pu (decide (v225 ≤ v224))) fun v225 => pu (1 : Int))) fun a =>
              bd (lf (ixN b223.length ↑a.length)) fun n232 =>
                bd (lf b223[n232]?) fun x233 => pu (Fl.nx (b223.set n232 (x233 + 1))) : Unit → Option (Fl (List Int) Unit (List Int) × Unit)) = pu (.nx f') ∧ f'.length = bs.length + 1 ∧ ∀ k, k < bs.length + 1 → (f'[k]?).getD 0 = (f[k]?).getD 0 + ((ys.filter fun v => decide (cnt bs v = k)).length : Int) := by
    intro ys
    induction ys with
    | nil => intro f hf; exact ⟨f, rfl, hf, fun k _ => by simp⟩
    | cons y ys ih =>
      intro f hf
      have hc := cnt_le bs y
      obtain ⟨f', e1, e2, e3⟩ := ih (f.set (cnt bs y) ((f[cnt bs y]?).getD 0 + 1)) (by rw [List.length_set]; exact hf)
      refine ⟨f', ?_, e2, fun k hk => ?_⟩
      · refine Eq.trans (loop_cons_nx ?_) e1
        rw [lcM_eq (by unfold big; omega), fltS_pu (q := fun b => decide (b ≤ y)) (g := fun _ => (1 : Int)) (fun _ _ => rfl) (fun _ _ _ => rfl), bdp, List.length_map]
        show bd (lf (ixN f.length ((cnt bs y : Nat) : Int))) _ = _
        rw [ixN_nat (by omega) (by omega), lfp, bdp, Int.toNat_natCast, List.getElem?_eq_getElem (by omega), lfp, bdp]
        rfl
      · rw [e3 k hk, List.filter_cons]
        by_cases c : cnt bs y = k
        · subst c
          rw [if_pos (by simp), List.getElem?_set_self (by omega), List.length_cons]
          simp
          omega
        · rw [if_neg (by simpa using c), List.getElem?_set_ne c]
  obtain ⟨f', e1, e2, e3⟩ := key xs (bs.map (fun _ => 0) ++ [0]) (by simp)
  refine (congrArg (fun m => run0 (seqF m fun b583 => pu (Fl.rt b583)) ()) e1).trans ?_
  show some f' = _
  congr 1
  refine List.ext_getElem (by unfold clsN; simp [e2]) fun i h1 h2 => ?_
  have := e3 i (by omega)
  rw [List.getElem?_eq_getElem h1, Option.getD_some] at this
  have cg : (clsN xs bs)[i]? = some ((xs.filter fun v => decide (cnt bs v = i)).length : Int) := by
    unfold clsN
    rw [List.getElem?_map, List.getElem?_range (by omega)]
    rfl
  rw [List.getElem?_eq_getElem h2] at cg
  rw [this, Option.some.inj cg]
  have z : ((bs.map (fun _ => (0 : Int)) ++ [0])[i]?).getD 0 = 0 := by
    rw [List.getElem?_append]
    split
    · rw [List.getElem?_map]
      cases bs[i]? <;> rfl
    · cases i - (bs.map fun _ => (0 : Int)).length <;> rfl
  omega
theorem cnt_at : ∀ {bs : List Int} (v : Int) {i : Nat}, bs.Pairwise (· < ·) → (h : i < bs.length) → (bs[i] ≤ v ↔ i < cnt bs v)
  | b :: r, v, i, hp, h => by
    have h1 := (List.pairwise_cons.mp hp).1
    have h2 := (List.pairwise_cons.mp hp).2
    unfold cnt
    by_cases c : b ≤ v
    · rw [List.filter_cons_of_pos (by simpa using c), List.length_cons]
      cases i with
      | zero => simp; exact c
      | succ i =>
        have := cnt_at (bs := r) v (i := i) h2 (by simpa using h)
        unfold cnt at this
        rw [List.getElem_cons_succ]
        omega
    · have n1 : r.filter (fun b => decide (b ≤ v)) = [] := List.filter_eq_nil_iff.mpr fun y hy => by
        have := h1 y hy
        simp
        omega
      rw [List.filter_cons_of_neg (by simpa using c), n1]
      cases i with
      | zero => simp; omega
      | succ i =>
        have := h1 _ (List.getElem_mem (show i < r.length by simpa using h))
        rw [List.getElem_cons_succ]
        simp
        omega
/-- between two edges -/
theorem edge {bs : List Int} {lo hi v : Int} (hp : bs.Pairwise (· < ·)) (h1 : lo ≤ v) (h2 : v < hi) {k : Nat} (hk : k < bs.length + 1) : ∃ a b : Int, atI ([lo] ++ bs ++ [hi]) (k : Int) = some a ∧ atI ([lo] ++ bs ++ [hi]) ((k : Int) + 1) = some b ∧ ((a ≤ v ∧ v < b) ↔ cnt bs v = k) := by
  have hl : ([lo] ++ bs ++ [hi]).length = bs.length + 2 := by simp
  have hc := cnt_le bs v
  refine ⟨_, _, atI_some (by omega) (by omega), atI_some (by omega) (by omega), ?_⟩
  have g1 : ([lo] ++ bs ++ [hi])[((k : Int)).toNat]'(by omega) ≤ v ↔ k ≤ cnt bs v := by
    cases k with
    | zero => simp; exact h1
    | succ k =>
      have := cnt_at v (i := k) hp (by omega)
      have e : ([lo] ++ bs ++ [hi])[((k + 1 : Nat) : Int).toNat]'(by omega) = bs[k]'(by omega) := by
        simp only [Int.toNat_natCast, List.cons_append, List.nil_append, List.getElem_cons_succ]
        rw [List.getElem_append_left]
      rw [e]
      omega
  have g2 : v < ([lo] ++ bs ++ [hi])[((k : Int) + 1).toNat]'(by omega) ↔ cnt bs v ≤ k := by
    have e0 : ((k : Int) + 1).toNat = k + 1 := by omega
    by_cases c : k < bs.length
    · have := cnt_at v (i := k) hp c
      have e : ([lo] ++ bs ++ [hi])[((k : Int) + 1).toNat]'(by omega) = bs[k]'(by omega) := by
        simp only [e0, List.cons_append, List.nil_append, List.getElem_cons_succ]
        rw [List.getElem_append_left]
      rw [e]
      omega
    · have : k = bs.length := by omega
      subst this
      have e : ([lo] ++ bs ++ [hi])[((bs.length : Int) + 1).toNat]'(by omega) = hi := by
        simp only [e0, List.cons_append, List.nil_append, List.getElem_cons_succ]
        rw [List.getElem_append_right (by omega)]
        simp
      rw [e]
      omega
  rw [g1, g2]
  omega
/-! drawn -/
theorem numbers_tot (ds : List Int) (s : Int) (hs : 0 ≤ s) : Tot (F_law_numbers ds ()) s fun xs t => OkX xs ∧ 0 ≤ t := by
  unfold F_law_numbers
  refine runS_tot ?_
  unfold m_law_numbers
  simp only [bdp, bd_bd]
  refine Tot.bind (pick_tot ds [9, 8, 7, 6, 5, 4, 3, 2, 1, 0] s (by simp) hs) fun many s1 h1 => ?_
  have hm : 0 ≤ many ∧ many ≤ 9 := by
    have := h1.1
    simp only [List.mem_cons, List.not_mem_nil, or_false] at this
    omega
  refine Tot.bind (pick_tot ds [20, 4, 900, 2] s1 (by simp) h1.2) fun most s2 h2 => ?_
  have hmo : 0 < most ∧ most ≤ 900 := by
    have := h2.1
    simp only [List.mem_cons, List.not_mem_nil, or_false] at this
    omega
  refine Tot.bind (draw_tot ds 6 s2 (by omega) h2.2) fun kind s3 h3 => ?_
  refine Tot.some ⟨_, rngO_eq (by omega) (by omega) (by omega) (by omega), ?_⟩
  rw [lcM_eq (by rw [rng_length]; unfold big; omega)]
  refine Tot.bind (Tot.mapS (I := fun s => 0 ≤ s) (R := fun _ v => -900 ≤ v ∧ v ≤ 900) (rng 0 many) s3 h3.2.2 fun v _ s hs => ?_) fun row s4 h4 => ?_
  · refine Tot.bind (draw_tot ds most s hmo.1 hs) fun a t q => ?_
    refine Tot.some ⟨_, fdivO_eq (by decide), .pu ⟨?_, q.2.2⟩⟩
    rw [Int.fdiv_eq_ediv_of_nonneg _ (by omega)]
    omega
  have r1 : ∀ x ∈ row, -900 ≤ x ∧ x ≤ 900 := h4.1.all fun _ _ y hy => hy
  have r2 : row.length ≤ 9 := by
    have := h4.1.length
    rw [rng_length] at this
    omega
  refine Tot.seqF (Tot.mono (P := fun (fl : Fl (List Int) Unit (List Int)) (t : Int) => ∃ g, fl = .nx g ∧ ((∀ x ∈ g, -900 ≤ x ∧ x ≤ 900) ∧ g.length ≤ 9) ∧ 0 ≤ t) ?_ ?_)
  · refine Tot.ite (fun _ => ?_) (fun _ => .pu ⟨_, rfl, ⟨r1, r2⟩, h4.2⟩)
    refine Tot.bind (pick_tot ds [1, -1] s4 (by simp) h4.2) fun a t6 h6 => ?_
    have ha : a = 1 ∨ a = -1 ∨ a = 2 := by
      have := h6.1
      simp only [List.mem_cons, List.not_mem_nil, or_false] at this
      omega
    obtain ⟨y1, e1, m1, l1⟩ := stepO_sub (xs := srt row) (c := a) ha (by rw [srt_len]; unfold big; omega)
    rw [srt_len] at l1
    exact Tot.some ⟨y1, e1, .pu ⟨_, rfl, ⟨fun x hx => r1 x (srt_mem.mp (m1 x hx)), by omega⟩, h6.2⟩⟩
  · rintro fl t5 ⟨g, rfl, ⟨g1, g2⟩, ht5⟩
    refine ⟨g, rfl, ?_⟩
    refine Tot.seqF (Tot.mono (P := fun (fl : Fl (List Int) Unit (List Int)) (t : Int) => ∃ g, fl = .nx g ∧ ((∀ x ∈ g, -90000007 ≤ x ∧ x ≤ 90000007) ∧ g.length ≤ 9) ∧ 0 ≤ t) ?_ ?_)
    · refine Tot.ite (fun _ => ?_) (fun _ => .pu ⟨_, rfl, ⟨fun x hx => by have := g1 x hx; omega, g2⟩, ht5⟩)
      rw [lcM_eq (by unfold big; omega), mapS_pu (g := fun v => v * 100000 + 7) fun v hv => by rw [mulO_r (by decide), lfp, bdp], bdp]
      refine .pu ⟨_, rfl, ⟨fun x hx => ?_, by rw [List.length_map]; exact g2⟩, ht5⟩
      obtain ⟨y, hy, rfl⟩ := List.mem_map.mp hx
      have := g1 y hy
      omega
    · rintro fl t6 ⟨g, rfl, ⟨g1, g2⟩, ht6⟩
      refine ⟨g, rfl, ?_⟩
      refine Tot.seqF (Tot.mono (P := fun (fl : Fl (List Int) Unit (List Int)) (t : Int) => ∃ g, fl = .nx g ∧ OkX g ∧ 0 ≤ t) ?_ ?_)
      · refine Tot.ite (fun _ => ?_) (fun _ => .pu ⟨_, rfl, ⟨fun x hx => by have := g1 x hx; omega, g2⟩, ht6⟩)
        rw [lcM_eq (by unfold big; omega), mapS_pu (g := fun v => (0 - if v < 0 then -v else v) - 1) (fun v hv => rfl), bdp]
        refine .pu ⟨_, rfl, ⟨fun x hx => ?_, by rw [List.length_map]; exact g2⟩, ht6⟩
        obtain ⟨y, hy, rfl⟩ := List.mem_map.mp hx
        have := g1 y hy
        split <;> omega
      · rintro fl t7 ⟨g, rfl, hg, ht7⟩
        exact ⟨g, rfl, .pu ⟨_, rfl, hg, ht7⟩⟩
def OkB (bs : List Int) : Prop := bs.Pairwise (· < ·) ∧ (∀ b ∈ bs, -200000000 ≤ b ∧ b ≤ 200000000) ∧ bs.length ≤ 5
theorem srt_lt {bs : List Int} (h : bs.Nodup) : (srt bs).Pairwise (· < ·) := by
  have h1 := srt_pw bs
  have h2 : (srt bs).Nodup := (srt_perm bs).nodup_iff.mpr h
  exact (h1.and h2).imp fun h => by omega
theorem bounds_tot (ds : List Int) {xs : List Int} (hx : OkX xs) (s : Int) (hs : 0 ≤ s) : Tot (F_law_bounds ds xs) s fun bs t => OkB bs ∧ 0 ≤ t := by
  unfold F_law_bounds
  refine runS_tot ?_
  unfold m_law_bounds
  simp only [bdp, bd_bd]
  refine Tot.bind (draw_tot ds 6 s (by omega) hs) fun n s1 h1 => ?_
  refine Tot.some ⟨_, rngO_eq (by omega) (by omega) (by omega) (by omega), ?_⟩
  refine Tot.seqF (Tot.loop (I := fun rest (b : List Int) (s : Int) => (b.Nodup ∧ (∀ x ∈ b, -200000000 ≤ x ∧ x ≤ 200000000) ∧ b.length + rest.length ≤ 5) ∧ 0 ≤ s) (fun v rest b s hI => ?_) (fun b s hI => ⟨b, rfl, .pu ⟨_, rfl, ⟨srt_lt hI.1.1, fun x hx => hI.1.2.1 x (srt_mem.mp hx), by rw [srt_len]; have := hI.1.2.2; simp at this; omega⟩, hI.2⟩⟩) _ _ _ ⟨⟨List.nodup_nil, (fun x hx => nomatch hx), by show 0 + (rng 0 n).length ≤ 5; rw [rng_length]; omega⟩, h1.2.2⟩)
  obtain ⟨⟨i1, i2, i3⟩, i4⟩ := hI
  rw [List.length_cons] at i3
  refine Tot.bind (draw_tot ds 30 s (by omega) i4) fun d s2 h2 => ?_
  refine Tot.seqF (Tot.mono (P := fun (fl : Fl Int (List Int) (List Int)) (t : Int) => ∃ g, fl = .nx g ∧ (-200000000 ≤ g ∧ g ≤ 200000000) ∧ 0 ≤ t) ?_ ?_)
  · refine Tot.bind (Q := fun (c : Bool) (t : Int) => (c = true → xs ≠ []) ∧ 0 ≤ t) (Tot.ite (fun c => ?_) fun _ => .pu ⟨fun z => (nomatch z), h2.2.2⟩) fun c s3 h3 => ?_
    · have hn : xs ≠ [] := by simpa using c
      exact Tot.bind (draw_tot ds 2 s2 (by omega) h2.2.2) fun e t q => .pu ⟨fun _ => hn, q.2.2⟩
    · refine Tot.ite (fun c => ?_) (fun _ => .pu ⟨_, rfl, by omega, h3.2⟩)
      refine Tot.bind (pick_tot ds xs s3 (h3.1 c) h3.2) fun a t h4 => ?_
      refine Tot.bind (draw_tot ds 2 t (by omega) h4.2) fun e t2 h5 => ?_
      have := hx.1 a h4.1
      exact .pu ⟨_, rfl, by omega, h5.2.2⟩
  · rintro fl t3 ⟨g, rfl, hg, ht3⟩
    refine ⟨g, rfl, ?_⟩
    refine Tot.ite (fun c => ?_) (fun _ => .pu ⟨⟨i1, i2, by omega⟩, ht3⟩)
    have hn : g ∉ b := by simpa using c
    refine Tot.gd (by unfold big; omega) (.pu ⟨⟨?_, fun x hx => ?_, by rw [List.length_append, List.length_singleton]; omega⟩, ht3⟩)
    · exact List.nodup_append.mpr ⟨i1, by simp, fun a ha c hc => by rw [List.mem_singleton] at hc; subst hc; exact fun z => hn (z ▸ ha)⟩
    · rcases List.mem_append.mp hx with hx | hx
      · exact i2 x hx
      · rw [List.mem_singleton] at hx
        omega

/-! ### the same, told and due -/
theorem same_int {x : Int} (h : -(10 ^ 18) ≤ x ∧ x ≤ 10 ^ 18) : F_law_same rI (x, x) = some true := same_of (log_ok h)
theorem same_ints {xs : List Int} (h : ∀ x ∈ xs, -(10 ^ 18) ≤ x ∧ x ≤ 10 ^ 18) (hl : xs.length ≤ big) : F_law_same (rL rI) (xs, xs) = some true := same_of ⟨by rw [List.length_map]; exact hl, fun d hd => by
  obtain ⟨x, hx, rfl⟩ := List.mem_map.mp hd
  exact log_ok (h x hx)⟩
def OkP (p : Int × Int) : Prop := (-(10 ^ 18) ≤ p.1 ∧ p.1 ≤ 10 ^ 18) ∧ (-(10 ^ 18) ≤ p.2 ∧ p.2 ≤ 10 ^ 18)
theorem ok_pair {p : Int × Int} (h : OkP p) (n : Nat) : okD (n + 1) (r2 rI rI p) := by
  obtain ⟨h1, h2⟩ := h
  refine ⟨by show 2 ≤ big; decide, fun d hd => ?_⟩
  rcases List.mem_cons.mp hd with rfl | hd
  · cases n <;> exact log_ok h1
  · rcases List.mem_cons.mp hd with rfl | hd
    · cases n <;> exact log_ok h2
    · cases hd
theorem same_rat {p : Int × Int} (h : OkP p) : F_law_same (r2 rI rI) (p, p) = some true := same_of (ok_pair h 6)
theorem same_orat {b : Option (Int × Int)} (h : ∀ p, b = some p → OkP p) : F_law_same (rO (r2 rI rI)) (b, b) = some true := by
  cases b with
  | none => exact same_of trivial
  | some p => exact same_of (ok_pair (h p rfl) 6)
theorem same_rats {xs : List (Int × Int)} (h : ∀ x ∈ xs, OkP x) (hl : xs.length ≤ big) : F_law_same (rL (r2 rI rI)) (xs, xs) = some true := same_of ⟨by rw [List.length_map]; exact hl, fun d hd => by
  obtain ⟨x, hx, rfl⟩ := List.mem_map.mp hd
  exact ok_pair (h x hx) 5⟩
theorem div_b {t g B : Int} (hg : 0 < g) (hB : 0 ≤ B) (h : -B ≤ t ∧ t ≤ B) : -B ≤ t / g ∧ t / g ≤ B := by
  have h1 : B * 1 ≤ B * g := Int.mul_le_mul_of_nonneg_left (by omega) hB
  refine ⟨Int.le_ediv_of_mul_le hg ?_, Int.ediv_le_of_le_mul hg ?_⟩
  · rw [Int.neg_mul]
    omega
  · omega
theorem low_ok {t b : Int} (h : 0 < b) (h2 : b < 1073741824) (ht : -(10 ^ 18) ≤ t ∧ t ≤ 10 ^ 18) : OkP (low t b) := by
  have hg := (gcd_sm (t := t) h h2).1
  have hg2 : 0 < ((Nat.gcd t.natAbs b.natAbs : Nat) : Int) := by omega
  unfold low
  rw [Int.fdiv_eq_ediv_of_nonneg _ (by omega), Int.fdiv_eq_ediv_of_nonneg _ (by omega)]
  exact ⟨div_b hg2 (by omega) ht, div_b hg2 (by omega) (by omega)⟩
theorem getD_b {xs : List Int} {B : Int} (hB : 0 ≤ B) (h : ∀ x ∈ xs, -B ≤ x ∧ x ≤ B) (i : Nat) : -B ≤ (xs[i]?).getD 0 ∧ (xs[i]?).getD 0 ≤ B := by
  cases e : xs[i]? with
  | none => show -B ≤ 0 ∧ 0 ≤ B; omega
  | some y => exact h y (List.mem_of_getElem? e)
theorem med_ok {xs : List Int} (h : OkX xs) : ∀ p, medN xs = some p → OkP p := by
  intro p e
  unfold medN at e
  split at e
  · cases e
  · cases e
    have h1 := getD_b (B := 100000000) (by omega) (fun x hx => h.1 x (srt_mem.mp hx)) ((xs.length - 1) / 2)
    have h2 := getD_b (B := 100000000) (by omega) (fun x hx => h.1 x (srt_mem.mp hx)) (xs.length / 2)
    exact low_ok (by omega) (by omega) (by omega)
theorem rank_ok {xs : List Int} (h : OkX xs) : ∀ p ∈ rankN xs, OkP p := by
  intro p hp
  obtain ⟨v, _, rfl⟩ := List.mem_map.mp hp
  have h1 : les xs v ≤ xs.length := List.length_filter_le _ _
  have h2 : eqs xs v ≤ xs.length := List.length_filter_le _ _
  have := h.2
  exact low_ok (by omega) (by omega) (by omega)
theorem sqr_b {xs : List Int} (h : OkX xs) : -(10 ^ 18) ≤ sqr xs ∧ sqr xs ≤ 10 ^ 18 := by
  rw [← sqr_eq]
  have h1 := h.squares
  have h2 := h.sum
  have h3 := sq_le (x := xs.sum) (B := 900000000) (by omega)
  have h4 := h.2
  have h5 : 0 ≤ (xs.length : Int) * (xs.map fun x => x * x).sum := Int.mul_nonneg (by omega) h1.1
  have h6 : (xs.length : Int) * (xs.map fun x => x * x).sum ≤ 9 * (xs.map fun x => x * x).sum := Int.mul_le_mul_of_nonneg_right (by omega) h1.1
  omega
theorem sq_ok {xs : List Int} (h : OkX xs) (hn : xs ≠ []) : OkP (low (sqr xs) (xs.length * xs.length)) := by
  have hp : 0 < xs.length := List.length_pos_iff.mpr hn
  have hl := h.2
  have h4 := sq_le (x := (xs.length : Int)) (B := 9) (by omega)
  exact low_ok (Int.mul_pos (by omega) (by omega)) (by omega) (sqr_b h)
theorem foldl_inv {α β : Type} {P : β → Prop} {f : β → α → β} : ∀ {xs : List α} {b : β}, P b → (∀ b, ∀ x ∈ xs, P b → P (f b x)) → P (xs.foldl f b)
  | [], _, h, _ => h
  | x :: xs, b, h, k => foldl_inv (xs := xs) (k b x List.mem_cons_self h) fun c y hy => k c y (List.mem_cons_of_mem _ hy)
theorem str_ok {xs : List Int} (h : xs.length ≤ 1000) : ∀ p, strN xs = some p → OkP p := by
  have key : ∀ q, mostL xs = some q → (0 ≤ q.2.1 ∧ q.2.1 ≤ 2000) ∧ (0 ≤ q.2.2 ∧ q.2.2 ≤ 2000) := by
    unfold mostL
    refine foldl_inv (P := fun b : Best => ∀ q, b = some q → (0 ≤ q.2.1 ∧ q.2.1 ≤ 2000) ∧ (0 ≤ q.2.2 ∧ q.2.2 ≤ 2000)) (fun p e => nomatch e) fun b v hv hb => ?_
    refine foldl_inv (P := fun b : Best => ∀ q, b = some q → (0 ≤ q.2.1 ∧ q.2.1 ≤ 2000) ∧ (0 ≤ q.2.2 ∧ q.2.2 ≤ 2000)) hb fun b m hm hb q e => ?_
    have kv := mem_rng.mp hv
    have km := mem_rng.mp hm
    unfold sL at e
    split at e
    · cases e
      exact ⟨⟨by show 0 ≤ v; omega, by show v ≤ _; omega⟩, by show 0 ≤ m; omega, by show m ≤ _; omega⟩
    · exact hb q e
  intro p e
  unfold strN at e
  cases c : mostL xs with
  | none => rw [c] at e; cases e
  | some q =>
    rw [c] at e
    cases e
    have := key q c
    exact ⟨⟨by show _ ≤ q.2.1; omega, by show q.2.1 ≤ _; omega⟩, by show _ ≤ q.2.2; omega, by show q.2.2 ≤ _; omega⟩
theorem top_b {xs : List Int} {B : Int} (hB : 0 ≤ B) (h : ∀ x ∈ xs, -B ≤ x ∧ x ≤ B) : -B ≤ topV xs ∧ topV xs ≤ B := by
  cases c : xs with
  | nil => show -B ≤ 0 ∧ 0 ≤ B; omega
  | cons x r =>
    rw [← c]
    exact h _ (List.max?_eq_some_iff.mp (top_max (ys := xs) (by rw [c]; simp))).1
theorem win_ok {xs : List Int} (h : OkX xs) (size : Int) : ∀ x ∈ winN xs size, -(10 ^ 18) ≤ x ∧ x ≤ 10 ^ 18 := by
  intro x hx
  obtain ⟨a, _, rfl⟩ := List.mem_map.mp hx
  have := top_b (xs := cutA xs (some a) (some (a + size))) (B := 100000000) (by omega) fun y hy => h.1 y (cutA_sub.1 y hy)
  omega
theorem win_len {xs : List Int} {size : Int} (h : OkX xs) (hs : 0 < size) : (winN xs size).length ≤ big := by
  unfold winN
  rw [List.length_map, rng_length]
  have := h.2
  unfold big
  omega
theorem rcd_ok : ∀ (ys : List Int) (k : Nat) (t : Option Int), (rcd k t ys).length ≤ ys.length ∧ ∀ p ∈ rcd k t ys, 0 ≤ p ∧ p < (k + ys.length : Nat)
  | [], _, _ => ⟨Nat.le_refl _, fun p h => nomatch h⟩
  | y :: ys, k, t => by
    have h1 := rcd_ok ys (k + 1) (some y)
    have h2 := rcd_ok ys (k + 1) t
    unfold rcd
    rw [List.length_cons]
    split
    · refine ⟨by rw [List.length_cons]; omega, fun p hp => ?_⟩
      rcases List.mem_cons.mp hp with rfl | hp
      · omega
      · have := h1.2 p hp
        omega
    · refine ⟨by omega, fun p hp => ?_⟩
      have := h2.2 p hp
      omega
theorem trd_b : ∀ xs : List Int, -((xs.length * xs.length : Nat) : Int) ≤ trd xs ∧ trd xs ≤ ((xs.length * xs.length : Nat) : Int)
  | [] => ⟨by decide, by decide⟩
  | x :: r => by
    have h := trd_b r
    have h1 : (r.filter fun y => decide (x < y)).length ≤ r.length := List.length_filter_le _ _
    have h2 : (r.filter fun y => decide (y < x)).length ≤ r.length := List.length_filter_le _ _
    have e : (x :: r).length * (x :: r).length = r.length * r.length + 2 * r.length + 1 := by
      rw [List.length_cons]
      grind
    rw [e]
    show -_ ≤ _ - _ + trd r ∧ _ - _ + trd r ≤ _
    omega
theorem cls_ok {xs bs : List Int} (h : OkX xs) : ∀ x ∈ clsN xs bs, -(10 ^ 18) ≤ x ∧ x ≤ 10 ^ 18 := by
  intro x hx
  obtain ⟨k, _, rfl⟩ := List.mem_map.mp hx
  have h1 : (xs.filter fun v => decide (cnt bs v = k)).length ≤ xs.length := List.length_filter_le _ _
  have := h.2
  omega
theorem law_end (s : Int) : Tot (
            bd (lf (F_median [5, 1, 2, 9])) fun a =>
              bd (lf (F_law_same (rO (r2 rI rI)) (a, some (7, 2)))) fun a =>
                bd
                  (if (!a) = true then pu true
                  else
                    bd (lf (F_median [])) fun a =>
                      if (!a.isNone) = true then pu true
                      else
                        bd (lf (F_spread [1, 2, 4])) fun a =>
                          bd (lf (F_law_same (r2 rI rI) (a, 14, 9))) fun c972 => pu !c972)
                  fun c975 =>
                  if c975 = true then pu (Fl.rt false)
                  else
                    bd (lf (F_ranked [5, 1, 5])) fun a =>
                      bd (lf (F_law_same (rL (r2 rI rI)) (a, [(5, 2), (1, 1), (5, 2)]))) fun a =>
                        bd
                          (if (!a) = true then pu true
                          else
                            bd (lf (F_best_stretch [-3, -1, -1])) fun a =>
                              bd (lf (F_law_same (rO (r2 rI rI)) (a, some (1, 2)))) fun a =>
                                if (!a) = true then pu true
                                else bd (lf (F_best_stretch [])) fun x1020 => pu !x1020.isNone)
                          fun c1023 =>
                          if c1023 = true then pu (Fl.rt false)
                          else
                            bd (lf (F_best_stretch [2, -2, 2, 0])) fun a =>
                              bd (lf (F_law_same (rO (r2 rI rI)) (a, some (0, 1)))) fun a =>
                                bd
                                  (if (!a) = true then pu true
                                  else
                                    bd (lf (F_moving_most ([1, 3, 2], 2))) fun a =>
                                      bd (lf (F_law_same (rL rI) (a, [3, 3]))) fun a =>
                                        if (!a) = true then pu true
                                        else
                                          bd (lf (F_records [2, 2, 3])) fun a =>
                                            bd (lf (F_law_same (rL rI) (a, [0, 2]))) fun c1063 => pu !c1063)
                                  fun c1066 =>
                                  if c1066 = true then pu (Fl.rt false)
                                  else
                                    bd (lf (F_by_class ([1, 2, 3, 3], [2, 3]))) fun a =>
                                      bd (lf (F_law_same (rL rI) (a, [1, 1, 2]))) fun a =>
                                        bd
                                          (if a = true then
                                            bd (lf (F_by_class ([], []))) fun a =>
                                              bd (lf (F_law_same (rL rI) (a, [0]))) fun c1098 =>
                                                if c1098 = true then
                                                  bd (lf (F_trend [1, 3, 2])) fun a => lf (F_law_same rI (a, 1))
                                                else pu false
                                          else pu false)
                                          fun x1100 => pu (Fl.rt x1100)) s fun (fl : Fl Unit Unit Bool) (_ : Int) => fl = .rt true := by
  have e0 : srt [5, 1, 2, 9] = [1, 2, 5, 9] := (srt_eq (by decide) (by decide)).symm
  have e1 : medN [5, 1, 2, 9] = some (7, 2) := by
    unfold medN
    rw [e0]
    decide +kernel
  have e2 : medN [] = none := by decide +kernel
  have e3 : low (sqr [1, 2, 4]) (([1, 2, 4] : List Int).length * ([1, 2, 4] : List Int).length) = (14, 9) := by decide +kernel
  have e4 : rankN [5, 1, 5] = [(5, 2), (1, 1), (5, 2)] := by decide +kernel
  have e5 : strN [-3, -1, -1] = some (1, 2) := by decide +kernel
  have e6 : strN [] = none := by decide +kernel
  have e7 : strN [2, -2, 2, 0] = some (0, 1) := by decide +kernel
  have e8 : winN [1, 3, 2] 2 = [3, 3] := by decide +kernel
  have e9 : rcd 0 none [2, 2, 3] = [0, 2] := by decide +kernel
  have e10 : clsN [1, 2, 3, 3] [2, 3] = [1, 1, 2] := by decide +kernel
  have e11 : clsN [] [] = [0] := by decide +kernel
  have e12 : trd [1, 3, 2] = 1 := by decide +kernel
  have ok : OkX [1, 2, 4] := ⟨fun x hx => by simp only [List.mem_cons, List.not_mem_nil, or_false] at hx; omega, by decide⟩
  have s1 := same_orat (b := some (7, 2)) (fun p e => by cases e; exact ⟨by decide, by decide⟩)
  have s2 := same_rat (p := (14, 9)) ⟨by decide, by decide⟩
  have s3 := same_rats (xs := [(5, 2), (1, 1), (5, 2)]) (fun x hx => by
    simp only [List.mem_cons, List.not_mem_nil, or_false] at hx
    rcases hx with rfl | rfl | rfl <;> exact ⟨by decide, by decide⟩) (by decide)
  have s4 := same_orat (b := some (1, 2)) (fun p e => by cases e; exact ⟨by decide, by decide⟩)
  have s5 := same_orat (b := some (0, 1)) (fun p e => by cases e; exact ⟨by decide, by decide⟩)
  have s6 := same_ints (xs := [3, 3]) (fun x hx => by simp only [List.mem_cons, List.not_mem_nil, or_false] at hx; omega) (by decide)
  have s7 := same_ints (xs := [0, 2]) (fun x hx => by simp only [List.mem_cons, List.not_mem_nil, or_false] at hx; omega) (by decide)
  have s8 := same_ints (xs := [1, 1, 2]) (fun x hx => by simp only [List.mem_cons, List.not_mem_nil, or_false] at hx; omega) (by decide)
  have s9 := same_ints (xs := [0]) (fun x hx => by simp only [List.mem_cons, List.not_mem_nil, or_false] at hx; omega) (by decide)
  have s10 := same_int (x := 1) (by omega)
  have b0 := best_eq (xs := []) (by decide)
  have b1 := best_eq (xs := [-3, -1, -1]) (by decide)
  have b2 := best_eq (xs := [2, -2, 2, 0]) (by decide)
  have b3 := spread_eq ok (by simp)
  have b4 := ranked_eq (xs := [5, 1, 5]) (by decide)
  have b5 := moving_eq (xs := [1, 3, 2]) (size := 2) (by decide) (by omega) (by omega)
  have b6 := records_eq (xs := [2, 2, 3]) (by decide)
  have b7 := by_class_eq (xs := [1, 2, 3, 3]) (bs := [2, 3]) (by decide)
  have b8 := by_class_eq (xs := []) (bs := []) (by decide)
  have b9 := trend_eq (xs := [1, 3, 2]) (by decide)
  rw [e6] at b0
  rw [e5] at b1
  rw [e7] at b2
  rw [e3] at b3
  rw [e4] at b4
  rw [e8] at b5
  rw [e9] at b6
  rw [e10] at b7
  rw [e11] at b8
  rw [e12] at b9
  simp only [median_eq, e1, e2, b0, b1, b2, b3, b4, b5, b6, b7, b8, b9, s1, s2, s3, s4, s5, s6, s7, s8, s9, s10, lfp, bdp, Bool.not_true, Bool.not_false, Bool.false_eq_true, if_false, if_true, Option.isNone_none]
  exact .pu rfl
set_option maxHeartbeats 0 in
theorem law_true (ns : List Int) (hns : ns.length ≤ 63) : F_law ns = some true := by
  unfold F_law
  refine run0_tot ?_
  unfold m_law
  simp (maxSteps := 4000000) (disch := first | decide | omega) only [bdp, bd_bd, mulO_l, mulO_r, modO_eq, lfp, bd_get, decide_true, Bool.not_true]
  obtain ⟨ds, hds⟩ := digits_tot ns 0 12 (by omega) (by omega) (by omega)
  refine Tot.some ⟨ds, hds, ?_⟩
  refine Tot.some (s := 0) ⟨_, rngO_eq (by omega) (by omega) (by omega) (by omega), ?_⟩
  refine Tot.seqF (Tot.mono (Tot.loopU (I := fun s : Int => 0 ≤ s) _ _ (Int.le_refl _) fun turn _ s hs => ?_) fun fl t q => ⟨(), q.1, law_end t⟩)
  refine Tot.bind (numbers_tot ds s hs) fun xs t h => ?_
  obtain ⟨h, ht⟩ := h
  have hl := h.2
  have hl3 : xs.length ≤ 1000 := by omega
  have s1 := same_orat (med_ok h)
  have s2 := same_rats (rank_ok h) (by unfold rankN; rw [List.length_map]; unfold big; omega)
  have s3 := same_orat (str_ok hl3)
  have s4 := same_ints (xs := rcd 0 none xs) (fun x hx => by have := (rcd_ok xs 0 none).2 x hx; omega) (by have := (rcd_ok xs 0 none).1; unfold big; omega)
  have s5 := same_int (x := trd xs) (by
    have := trd_b xs
    have h2 := sq_le (x := (xs.length : Int)) (B := 9) (by omega)
    rw [Int.natCast_mul] at this
    omega)
  simp only [median_eq, middle_eq, law_ranks_eq hl3, ranked_eq hl3, best_eq hl3, law_stretch_eq hl3, records_eq hl3, law_records_eq hl3, trend_eq hl3, law_trend_eq hl3, lfp, bdp, s1, s2, s3, s4, s5, Bool.not_true, Bool.false_eq_true, if_false]
  refine Tot.gd (by unfold rankN; rw [List.length_map]; unfold big; omega) ?_
  have sp : (if (!decide (xs = [])) = true then bd (lf (F_spread xs)) fun a => bd (lf (F_law_square xs)) fun a_2 => bd (lf (F_law_same (r2 rI rI) (a, a_2))) fun a => if (!a) = true then pu true else pu false else pu false : Int → Option (Bool × Int)) = pu false := by
    by_cases c : xs = []
    · rw [if_neg (by simpa using c)]
    · rw [if_pos (by simpa using c), spread_eq h c, lfp, bdp, square_eq h c, lfp, bdp, same_rat (sq_ok h c), lfp, bdp]
      rfl
  rw [sp, bdp, if_neg (by simp)]
  refine Tot.bind (draw_tot ds 9 t (by omega) ht) fun w t1 h1 => ?_
  refine Tot.seqF (Tot.mono (Tot.loopU (I := fun s : Int => 0 ≤ s) [1, 2, 1 + w, (xs.length : Int) + 1] t1 h1.2.2 fun size hsz s hs => ?_) fun fl t2 q => ⟨(), q.1, ?_⟩)
  · have hs1 : 0 < size ∧ size ≤ 100000 := by
      simp only [List.mem_cons, List.not_mem_nil, or_false] at hsz
      omega
    rw [moving_eq hl3 hs1.1 hs1.2, lfp, bdp, windows_eq hl3 hs1.1 hs1.2, lfp, bdp, same_ints (win_ok h size) (win_len h hs1.1), lfp, bdp]
    exact .pu ⟨rfl, hs⟩
  · obtain ⟨rfl, ht2⟩ := q
    refine Tot.gd (by have := (rcd_ok xs 0 none).1; unfold big; omega) ?_
    refine Tot.bind (bounds_tot ds h t2 ht2) fun bs t3 h3 => ?_
    obtain ⟨⟨hb1, hb2, hb3⟩, ht3⟩ := h3
    have hl0 : (xs ++ bs).length ≤ 14 := by rw [List.length_append]; omega
    refine Tot.some ⟨_, catO_eq (by unfold big; omega), ?_⟩
    refine Tot.some ⟨_, catO_eq (by unfold big; rw [List.length_singleton]; omega), ?_⟩
    have hne : xs ++ bs ++ [0] ≠ [] := by simp
    obtain ⟨mn, hmn⟩ : ∃ m, (xs ++ bs ++ [0]).min? = some m := by
      cases e : (xs ++ bs ++ [0]).min? with
      | none => exact absurd (List.min?_eq_none_iff.mp e) hne
      | some m => exact ⟨m, rfl⟩
    obtain ⟨mx, hmx⟩ : ∃ m, (xs ++ bs ++ [0]).max? = some m := by
      cases e : (xs ++ bs ++ [0]).max? with
      | none => exact absurd (List.max?_eq_none_iff.mp e) hne
      | some m => exact ⟨m, rfl⟩
    obtain ⟨_, hmn2⟩ := List.min?_eq_some_iff.mp hmn
    obtain ⟨_, hmx2⟩ := List.max?_eq_some_iff.mp hmx
    refine Tot.some ⟨mn, hmn, ?_⟩
    refine Tot.some ⟨_, catO_eq (by unfold big; rw [List.length_singleton]; omega), ?_⟩
    refine Tot.some ⟨_, catO_eq (by unfold big; omega), ?_⟩
    refine Tot.some ⟨_, catO_eq (by unfold big; rw [List.length_singleton]; omega), ?_⟩
    refine Tot.some ⟨mx, hmx, ?_⟩
    refine Tot.some ⟨_, catO_eq (by unfold big; rw [List.length_append, List.length_singleton, List.length_singleton]; omega), ?_⟩
    refine Tot.some ⟨_, rngO_eq (by omega) (by omega) (by omega) (by omega), ?_⟩
    rw [lcM_eq (by rw [rng_length]; unfold big; omega)]
    rw [mapS_pu (g := fun k : Int => ((xs.filter fun v => decide (cnt bs v = k.toNat)).length : Int)) fun k hk => ?_, bdp]
    · have e : (rng 0 ((bs.length : Int) + 1)).map (fun k : Int => ((xs.filter fun v => decide (cnt bs v = k.toNat)).length : Int)) = clsN xs bs := by
        rw [show (bs.length : Int) + 1 = ((bs.length + 1 : Nat) : Int) by omega, rng_nat, List.map_map]
        rfl
      rw [e, by_class_eq (by omega), lfp, bdp, same_ints (cls_ok h) (by unfold clsN; rw [List.length_map, List.length_range]; unfold big; omega), lfp, bdp]
      exact .pu ⟨rfl, ht3⟩
    · have kk := mem_rng.mp hk
      rw [lcM_eq (by unfold big; omega), fltS_pu (q := fun v => decide (cnt bs v = k.toNat)) (g := fun v => v) (fun v hv => ?_) (fun _ _ _ => rfl), bdp, List.map_id']
      have m1 := hmn2 v (by simp [hv])
      have m2 := hmx2 v (by simp [hv])
      obtain ⟨a, b, e1, e2, e3⟩ := edge (bs := bs) (lo := mn - 1) (hi := mx + 1) (v := v) hb1 (by omega) (by omega) (k := k.toNat) (by omega)
      rw [Int.toNat_of_nonneg kk.1] at e1 e2
      rw [e1, lfp, bdp, e2, lfp, bdp]
      by_cases c : a ≤ v
      · rw [if_pos (decide_eq_true c)]
        congr 1
        rw [Bool.eq_iff_iff, decide_eq_true_iff, decide_eq_true_iff]
        exact ⟨fun q => e3.mp ⟨c, q⟩, fun q => (e3.mpr q).2⟩
      · rw [if_neg (by simpa using c), decide_eq_false fun q => c (e3.mpr q).1]

set_option maxHeartbeats 4000000
/-! ### the text -/
def top (i : Nat) : Stmt := PySem.Challenge.pw_firelands_k65_whole_numbers_reported.main.body.getD i (.Pass ⟨0, 0, 0, 0⟩)
abbrev s_fraction : Stmt := top 2
abbrev N_fraction : List Str := ["top", "bottom", "share"]
theorem sc_fraction : FnScope N_fraction ["top", "bottom"] (defScope s_fraction) := ⟨rfl, rfl, rfl, by decide +kernel, rfl, by decide +kernel, by decide +kernel⟩
abbrev s_median : Stmt := top 4
abbrev N_median : List Str := ["numbers", "row", "many"]
theorem sc_median : FnScope N_median ["numbers"] (defScope s_median) := ⟨rfl, rfl, rfl, by decide +kernel, rfl, by decide +kernel, by decide +kernel⟩
abbrev s_spread : Stmt := top 5
abbrev N_spread : List Str := ["numbers", "many", "whole", "squares", "number"]
theorem sc_spread : FnScope N_spread ["numbers"] (defScope s_spread) := ⟨rfl, rfl, rfl, by decide +kernel, rfl, by decide +kernel, by decide +kernel⟩
abbrev s_ranked : Stmt := top 6
abbrev N_ranked : List Str := ["numbers", "found", "number", "less", "alike", "far"]
theorem sc_ranked : FnScope N_ranked ["numbers"] (defScope s_ranked) := ⟨rfl, rfl, rfl, by decide +kernel, rfl, by decide +kernel, by decide +kernel⟩
abbrev s_moving_most : Stmt := top 7
abbrev N_moving_most : List Str := ["numbers", "size", "at"]
theorem sc_moving_most : FnScope N_moving_most ["numbers", "size"] (defScope s_moving_most) := ⟨rfl, rfl, rfl, by decide +kernel, rfl, by decide +kernel, by decide +kernel⟩
abbrev s_best_stretch : Stmt := top 8
abbrev N_best_stretch : List Str := ["numbers", "best", "start", "end", "entry"]
theorem sc_best_stretch : FnScope N_best_stretch ["numbers"] (defScope s_best_stretch) := ⟨rfl, rfl, rfl, by decide +kernel, rfl, by decide +kernel, by decide +kernel⟩
abbrev s_records : Stmt := top 9
abbrev N_records : List Str := ["numbers", "place", "number", "far"]
theorem sc_records : FnScope N_records ["numbers"] (defScope s_records) := ⟨rfl, rfl, rfl, by decide +kernel, rfl, by decide +kernel, by decide +kernel⟩
abbrev s_trend : Stmt := top 10
abbrev N_trend : List Str := ["numbers", "found", "place", "one", "other"]
theorem sc_trend : FnScope N_trend ["numbers"] (defScope s_trend) := ⟨rfl, rfl, rfl, by decide +kernel, rfl, by decide +kernel, by decide +kernel⟩
abbrev s_by_class : Stmt := top 11
abbrev N_by_class : List Str := ["numbers", "bounds", "found", "number", "bound"]
theorem sc_by_class : FnScope N_by_class ["numbers", "bounds"] (defScope s_by_class) := ⟨rfl, rfl, rfl, by decide +kernel, rfl, by decide +kernel, by decide +kernel⟩
abbrev s__law_cell : Stmt := top 13
abbrev N__law_cell : List Str := ["script", "k"]
theorem sc__law_cell : FnScope N__law_cell ["script", "k"] (defScope s__law_cell) := ⟨rfl, rfl, rfl, by decide +kernel, rfl, by decide +kernel, by decide +kernel⟩
abbrev s__law_digits : Stmt := top 14
abbrev N__law_digits : List Str := ["script", "first", "last", "digits", "k", "cell", "turn", "seed"]
theorem sc__law_digits : FnScope N__law_digits ["script", "first", "last"] (defScope s__law_digits) := ⟨rfl, rfl, rfl, by decide +kernel, rfl, by decide +kernel, by decide +kernel⟩
abbrev s__law_draw : Stmt := top 15
abbrev N__law_draw : List Str := ["box", "many"]
theorem sc__law_draw : FnScope N__law_draw ["box", "many"] (defScope s__law_draw) := ⟨rfl, rfl, rfl, by decide +kernel, rfl, by decide +kernel, by decide +kernel⟩
abbrev s__law_pick : Stmt := top 16
abbrev N__law_pick : List Str := ["box", "row"]
theorem sc__law_pick : FnScope N__law_pick ["box", "row"] (defScope s__law_pick) := ⟨rfl, rfl, rfl, by decide +kernel, rfl, by decide +kernel, by decide +kernel⟩
abbrev s__law_low : Stmt := top 18
abbrev N__law_low : List Str := ["top", "bottom", "one", "other"]
theorem sc__law_low : FnScope N__law_low ["top", "bottom"] (defScope s__law_low) := ⟨rfl, rfl, rfl, by decide +kernel, rfl, by decide +kernel, by decide +kernel⟩
abbrev s__law_numbers : Stmt := top 19
abbrev N__law_numbers : List Str := ["box", "many", "most", "kind", "row", "k", "number"]
theorem sc__law_numbers : FnScope N__law_numbers ["box"] (defScope s__law_numbers) := ⟨rfl, rfl, rfl, by decide +kernel, rfl, by decide +kernel, by decide +kernel⟩
abbrev s__law_middle : Stmt := top 20
abbrev N__law_middle : List Str := ["numbers", "row"]
theorem sc__law_middle : FnScope N__law_middle ["numbers"] (defScope s__law_middle) := ⟨rfl, rfl, rfl, by decide +kernel, rfl, by decide +kernel, by decide +kernel⟩
abbrev s__law_square : Stmt := top 21
abbrev N__law_square : List Str := ["numbers", "many", "found", "j", "k"]
theorem sc__law_square : FnScope N__law_square ["numbers"] (defScope s__law_square) := ⟨rfl, rfl, rfl, by decide +kernel, rfl, by decide +kernel, by decide +kernel⟩
abbrev s__law_ranks : Stmt := top 22
abbrev N__law_ranks : List Str := ["numbers", "row", "found", "number", "places", "k"]
theorem sc__law_ranks : FnScope N__law_ranks ["numbers"] (defScope s__law_ranks) := ⟨rfl, rfl, rfl, by decide +kernel, rfl, by decide +kernel, by decide +kernel⟩
abbrev s__law_stretch : Stmt := top 23
abbrev N__law_stretch : List Str := ["numbers", "start", "best", "most", "size", "end"]
theorem sc__law_stretch : FnScope N__law_stretch ["numbers"] (defScope s__law_stretch) := ⟨rfl, rfl, rfl, by decide +kernel, rfl, by decide +kernel, by decide +kernel⟩
abbrev s__law_windows : Stmt := top 24
abbrev N__law_windows : List Str := ["numbers", "size", "found", "at", "top", "number"]
theorem sc__law_windows : FnScope N__law_windows ["numbers", "size"] (defScope s__law_windows) := ⟨rfl, rfl, rfl, by decide +kernel, rfl, by decide +kernel, by decide +kernel⟩
abbrev s__law_trend : Stmt := top 25
abbrev N__law_trend : List Str := ["numbers", "found", "j", "k"]
theorem sc__law_trend : FnScope N__law_trend ["numbers"] (defScope s__law_trend) := ⟨rfl, rfl, rfl, by decide +kernel, rfl, by decide +kernel, by decide +kernel⟩
abbrev s__law_records : Stmt := top 26
abbrev N__law_records : List Str := ["numbers", "place", "found", "top"]
theorem sc__law_records : FnScope N__law_records ["numbers"] (defScope s__law_records) := ⟨rfl, rfl, rfl, by decide +kernel, rfl, by decide +kernel, by decide +kernel⟩
abbrev s__law_bounds : Stmt := top 27
abbrev N__law_bounds : List Str := ["box", "numbers", "row", "k", "bound"]
theorem sc__law_bounds : FnScope N__law_bounds ["box", "numbers"] (defScope s__law_bounds) := ⟨rfl, rfl, rfl, by decide +kernel, rfl, by decide +kernel, by decide +kernel⟩
abbrev s_law : Stmt := top 28
abbrev N_law : List Str := ["script", "box", "turn", "numbers", "handed", "ranks", "told", "size", "tops", "bounds", "others", "edges", "due", "k", "number"]
theorem sc_law : FnScope N_law ["script"] (defScope s_law) := ⟨rfl, rfl, rfl, by decide +kernel, rfl, by decide +kernel, by decide +kernel⟩
abbrev s__law_same : Stmt := top 17
abbrev N__law_same : List Str := ["told", "due", "k"]
theorem sc__law_same : FnScope N__law_same ["told", "due"] (defScope s__law_same) := ⟨rfl, rfl, rfl, by decide +kernel, rfl, by decide +kernel, by decide +kernel⟩
structure Bi (mg : Str → Option Value) : Prop where
  abs : mg "abs" = none
  all_ : mg "all" = none
  bool : mg "bool" = none
  enumerate : mg "enumerate" = none
  gcd : mg "gcd" = some (.builtin "math.gcd")
  int : mg "int" = none
  isinstance : mg "isinstance" = none
  len : mg "len" = none
  list : mg "list" = none
  max : mg "max" = none
  min : mg "min" = none
  range : mg "range" = none
  repr : mg "repr" = none
  sorted : mg "sorted" = none
  str : mg "str" = none
  sum : mg "sum" = none
  tuple : mg "tuple" = none
section
variable {P : Program} {w : World} {K : Frag} {mg : Str → Option Value} {base : Heap}
theorem w_fraction (T : Bi mg)  {f : Addr} {fd : FuncData} (Fn : Fun K "fraction" "fraction" s_fraction f fd) (hx : mg "fraction" = some (.ref f)) : FnA P w K mg base 1 "fraction" (spV K (fun a : Int × Int => [.val (rI a.1), .val (rI a.2)]) F_fraction (.val (r2 rI rI))) := by
  refine fnV (mf := m_fraction) (s0 := ()) (ps := ["top", "bottom"]) (on := fun (_ : Unit) _ => never) (ob := fun (_ : Unit) _ => never) Fn sc_fraction hx (Fn.binds fun _ _ _ _ _ _ us hl => match us, hl with | [_, _], _ => rfl) (fun cdv A outer s H E a hr => ?_) (fun a b h => run0_some h)
  exact (Ds.asg 2 (Dx.gcd T.gcd (Dx.name (d := rI) 0) (Dx.name (d := rI) 1)) (fun share_3 => (Ds.ite (on1 := (fun (g7 : Int) => (fun (s : Unit) => ([.val (rI a.1), .val (rI a.2), .val (rI g7)] : Sl)))) (Tx.lt (Dx.name (d := rI) 1) Dx.int) (Ds.asg 2 (Dx.neg (Dx.name (d := rI) 2)) (fun share_9 => (Ds.nil (g := share_9) (fun _ => .cons (.rfl _) (.cons (.rfl _) (.cons (.rfl _) (.nil)))))) sc_fraction.nd) (Ds.nil (g := share_3) (fun _ => .cons (.rfl _) (.cons (.rfl _) (.cons (.rfl _) (.nil))))) (fun g7 => (Ds.ret (Dx.tup (out := (fun p : (Int × Int) => ([rI p.1, rI p.2] : List D))) (Ak.cons (Dx.fdiv (Dx.name (d := rI) 0) (Dx.name (d := rI) 2)) (fun _ => (Ak.cons (Dx.fdiv (Dx.name (d := rI) 1) (Dx.name (d := rI) 2)) (fun _ => Ak.nil))))) (fun _ => .cons (.un _) (.cons (.un _) (.cons (.un _) (.nil)))))))) sc_fraction.nd)
theorem w_median (T : Bi mg) (g_fraction : FnA P w K mg base 1 "fraction" (spV K (fun a : Int × Int => [.val (rI a.1), .val (rI a.2)]) F_fraction (.val (r2 rI rI)))) {f : Addr} {fd : FuncData} (Fn : Fun K "median" "median" s_median f fd) (hx : mg "median" = some (.ref f)) : FnA P w K mg base 2 "median" (spV K (fun a : (List Int) => [.val ((rL rI) a)]) F_median (.val (rO (r2 rI rI)))) := by
  refine fnV (mf := m_median) (s0 := ()) (ps := ["numbers"]) (on := fun (_ : Unit) _ => never) (ob := fun (_ : Unit) _ => never) Fn sc_median hx (Fn.binds fun _ _ _ _ _ _ us hl => match us, hl with | [_], _ => rfl) (fun cdv A outer s H E a hr => ?_) (fun a b h => run0_some h)
  exact (Ds.new 1 (Fx.sorted T.sorted (Dx.list (Dx.name (d := (rL rI)) 0))) (fun row_18 => (Ds.asg 2 (Bx.len T.len (Bx.own (r := rI) (xs := row_18) 1)) (fun many_20 => (Ds.ifx (Tx.eq hr (Dx.name (d := rI) 2) Dx.int) (Ds.ret Dx.noneO (fun _ => .cons (.un _) (.cons (.un _) (.cons (.un _) (.nil))))) (Ds.ret (Dx.someO (Dx.call (L := []) g_fraction (hr.mono (by decide)) (Ck.cons (Dx.add (Bx.ix (Bx.own (r := rI) (xs := row_18) 1) (Dx.fdiv (Dx.sub (Dx.name (d := rI) 2) Dx.int) Dx.int)) (Bx.ix (Bx.own (r := rI) (xs := row_18) 1) (Dx.fdiv (Dx.name (d := rI) 2) Dx.int))) (fun _ => (Ck.cons Dx.int (fun _ => Ck.nil)))) (Or.inl rfl))) (fun _ => .cons (.un _) (.cons (.un _) (.cons (.un _) (.nil))))))) sc_median.nd)) sc_median.nd)
theorem w_spread (T : Bi mg) (g_fraction : FnA P w K mg base 1 "fraction" (spV K (fun a : Int × Int => [.val (rI a.1), .val (rI a.2)]) F_fraction (.val (r2 rI rI)))) {f : Addr} {fd : FuncData} (Fn : Fun K "spread" "spread" s_spread f fd) (hx : mg "spread" = some (.ref f)) : FnA P w K mg base 2 "spread" (spV K (fun a : (List Int) => [.val ((rL rI) a)]) F_spread (.val (r2 rI rI))) := by
  refine fnV (mf := m_spread) (s0 := ()) (ps := ["numbers"]) (on := fun (_ : Unit) _ => never) (ob := fun (_ : Unit) _ => never) Fn sc_spread hx (Fn.binds fun _ _ _ _ _ _ us hl => match us, hl with | [_], _ => rfl) (fun cdv A outer s H E a hr => ?_) (fun a b h => run0_some h)
  exact (Ds.asg 1 (Bx.len T.len (Dx.list (Dx.name (d := (rL rI)) 0))) (fun many_43 => (Ds.asg 2 (Bx.sum rfl T.sum (Dx.list (Dx.name (d := (rL rI)) 0))) (fun whole_45 => (Ds.asg 3 (Bx.sum rfl T.sum (Fx.bx (FxW.fx (comp0 [("number", 4)] (Ix.list (Dx.lx (Dx.name (d := (rL rI)) 0))) (fun _ => (Gx.name 4 sc_spread.nd)) (fun _ v46 => (Dx.mul (Dx.name (d := rI) 4) (Dx.name (d := rI) 4)))) (pe_c0 rfl sc_spread.nd (blkOk_by (N := N_spread) (sc := defScope s_spread) (own := [("number", 4)]) (by decide +kernel)))))) (fun squares_51 => (Ds.ret (Dx.call (L := []) g_fraction (hr.mono (by decide)) (Ck.cons (Dx.sub (Dx.mul (Dx.name (d := rI) 1) (Dx.name (d := rI) 3)) (Dx.mul (Dx.name (d := rI) 2) (Dx.name (d := rI) 2))) (fun _ => (Ck.cons (Dx.mul (Dx.name (d := rI) 1) (Dx.name (d := rI) 1)) (fun _ => Ck.nil)))) (Or.inl rfl)) (fun _ => .cons (.un _) (.cons (.un _) (.cons (.un _) (.cons (.un _) (.cons (.un _) (.nil)))))))) sc_spread.nd)) sc_spread.nd)) sc_spread.nd)
theorem w_ranked (T : Bi mg) (g_fraction : FnA P w K mg base 1 "fraction" (spV K (fun a : Int × Int => [.val (rI a.1), .val (rI a.2)]) F_fraction (.val (r2 rI rI)))) {f : Addr} {fd : FuncData} (Fn : Fun K "ranked" "ranked" s_ranked f fd) (hx : mg "ranked" = some (.ref f)) : FnA P w K mg base 2 "ranked" (spV K (fun a : (List Int) => [.val ((rL rI) a)]) F_ranked (.cell (cL (r2 rI rI)))) := by
  refine fnV (mf := m_ranked) (s0 := ()) (ps := ["numbers"]) (on := fun (_ : Unit) _ => never) (ob := fun (_ : Unit) _ => never) Fn sc_ranked hx (Fn.binds fun _ _ _ _ _ _ us hl => match us, hl with | [_], _ => rfl) (fun cdv A outer s H E a hr => ?_) (fun a b h => run0_some h)
  exact (Ds.new 1 (Fx.lst (r := (r2 rI rI)) Ak.nil) (fun found_64 => (Ds.for' (oj := (fun (b67 : (List (Int × Int))) => (fun (s : Unit) => ([.val ((rL rI) a), .own (cL (r2 rI rI) b67), .un, .un, .un, .un] : Sl)))) (b0 := found_64) PassesOwn.never rfl (Ix.list (Dx.lx (Dx.name (d := (rL rI)) 0))) (Gx.name 2 sc_ranked.nd) (fun _ => .cons (.rfl _) (.cons (.rfl _) (.cons (.un _) (.cons (.un _) (.cons (.un _) (.cons (.un _) (.nil))))))) (fun b67 v68 => (Ds.asg 3 (Bx.len T.len (Fx.bx (FxW.fx (comp1 [("far", 5)] (Ix.list (Dx.lx (Dx.name (d := (rL rI)) 0))) (fun _ => (Gx.name 5 sc_ranked.nd)) (fun _ v69 => (Tx.lt (Dx.name (d := rI) 5) (Dx.name (d := rI) 2))) (fun _ v69 => Dx.int)) (pe_c1 rfl sc_ranked.nd (blkOk_by (N := N_ranked) (sc := defScope s_ranked) (own := [("far", 5)]) (by decide +kernel)))))) (fun less_74 => (Ds.asg 4 (Bx.len T.len (Fx.bx (FxW.fx (comp1 [("far", 5)] (Ix.list (Dx.lx (Dx.name (d := (rL rI)) 0))) (fun _ => (Gx.name 5 sc_ranked.nd)) (fun _ v75 => (Tx.eq hr (Dx.name (d := rI) 5) (Dx.name (d := rI) 2))) (fun _ v75 => Dx.int)) (pe_c1 rfl sc_ranked.nd (blkOk_by (N := N_ranked) (sc := defScope s_ranked) (own := [("far", 5)]) (by decide +kernel)))))) (fun alike_80 => (Ds.app 1 (xs := b67) (Dx.call (L := []) g_fraction (hr.mono (by decide)) (Ck.cons (Dx.add (Dx.add (Dx.mul Dx.int (Dx.name (d := rI) 3)) (Dx.name (d := rI) 4)) Dx.int) (fun _ => (Ck.cons Dx.int (fun _ => Ck.nil)))) (Or.inl rfl)) (fun x90 => (Ds.nil (g := (b67 ++ [x90])) (fun _ => .cons (.rfl _) (.cons (.rfl _) (.cons (.un _) (.cons (.un _) (.cons (.un _) (.cons (.un _) (.nil))))))))))) sc_ranked.nd)) sc_ranked.nd)) (fun b91 => (Ds.retO 1 (a := b91) (cl := cL (r2 rI rI)) (by intro _; rfl) (fun _ => .cons (.un _) (.cons (.un _) (.cons (.un _) (.cons (.un _) (.cons (.un _) (.cons (.un _) (.nil))))))))))) sc_ranked.nd)
theorem w_moving_most (T : Bi mg)  {f : Addr} {fd : FuncData} (Fn : Fun K "moving_most" "moving_most" s_moving_most f fd) (hx : mg "moving_most" = some (.ref f)) : FnA P w K mg base 1 "moving_most" (spV K (fun a : (List Int) × Int => [.val ((rL rI) a.1), .val (rI a.2)]) F_moving_most (.cell (cL rI))) := by
  refine fnV (mf := m_moving_most) (s0 := ()) (ps := ["numbers", "size"]) (on := fun (_ : Unit) _ => never) (ob := fun (_ : Unit) _ => never) Fn sc_moving_most hx (Fn.binds fun _ _ _ _ _ _ us hl => match us, hl with | [_, _], _ => rfl) (fun cdv A outer s H E a hr => ?_) (fun a b h => run0_some h)
  exact (Ds.retF (FxW.fx (comp0 [("at", 2)] (Ix.range1 T.range (Dx.add (Dx.sub (Bx.len T.len (Dx.list (Dx.name (d := (rL rI)) 0))) (Dx.name (d := rI) 1)) Dx.int)) (fun _ => (Gx.name 2 sc_moving_most.nd)) (fun _ v99 => (Bx.max rfl T.max (Fx.bx (Fx.slice (Dx.list (Dx.name (d := (rL rI)) 0)) (Ox.some (Dx.name (d := rI) 2)) (Ox.some (Dx.add (Dx.name (d := rI) 2) (Dx.name (d := rI) 1)))))))) (pe_c0 rfl sc_moving_most.nd (blkOk_by (N := N_moving_most) (sc := defScope s_moving_most) (own := [("at", 2)]) (by decide +kernel)))) (fun _ => .cons (.un _) (.cons (.un _) (.cons (.un _) (.nil)))))
theorem w_best_stretch (T : Bi mg)  {f : Addr} {fd : FuncData} (Fn : Fun K "best_stretch" "best_stretch" s_best_stretch f fd) (hx : mg "best_stretch" = some (.ref f)) : FnA P w K mg base 1 "best_stretch" (spV K (fun a : (List Int) => [.val ((rL rI) a)]) F_best_stretch (.val (rO (r2 rI rI)))) := by
  refine fnV (mf := m_best_stretch) (s0 := ()) (ps := ["numbers"]) (on := fun (_ : Unit) _ => never) (ob := fun (_ : Unit) _ => never) Fn sc_best_stretch hx (Fn.binds fun _ _ _ _ _ _ us hl => match us, hl with | [_], _ => rfl) (fun cdv A outer s H E a hr => ?_) (fun a b h => run0_some h)
  exact (Ds.asg 1 Dx.noneO (fun best_110 => (Ds.for' (oj := (fun (b115 : (Option (Int × Int × Int))) => (fun (s : Unit) => ([.val ((rL rI) a), .val ((rO (r3 rI rI rI)) b115), .un, .un, .un] : Sl)))) (b0 := best_110) PassesOwn.never rfl (Ix.range1 T.range (Bx.len T.len (Dx.list (Dx.name (d := (rL rI)) 0)))) (Gx.name 2 sc_best_stretch.nd) (fun _ => .cons (.rfl _) (.cons (.rfl _) (.cons (.un _) (.cons (.un _) (.cons (.un _) (.nil)))))) (fun b115 v116 => (Ds.for' (oj := (fun (b126 : (Option (Int × Int × Int))) => (fun (s : Unit) => ([.val ((rL rI) a), .val ((rO (r3 rI rI rI)) b126), .val (rI v116), .un, .un] : Sl)))) (b0 := b115) PassesOwn.never rfl (Ix.range2 T.range (Dx.add (Dx.name (d := rI) 2) Dx.int) (Dx.add (Bx.len T.len (Dx.list (Dx.name (d := (rL rI)) 0))) Dx.int)) (Gx.name 3 sc_best_stretch.nd) (fun _ => .cons (.rfl _) (.cons (.rfl _) (.cons (.rfl _) (.cons (.un _) (.cons (.un _) (.nil)))))) (fun b126 v127 => (Ds.asg 4 (Dx.tup (out := (fun p : (Int × Int × Int) => ([rI p.1, rI p.2.1, rI p.2.2] : List D))) (Ak.cons (Dx.neg (Bx.sum rfl T.sum (Fx.bx (Fx.slice (Dx.list (Dx.name (d := (rL rI)) 0)) (Ox.some (Dx.name (d := rI) 2)) (Ox.some (Dx.name (d := rI) 3)))))) (fun _ => (Ak.cons (Dx.name (d := rI) 2) (fun _ => (Ak.cons (Dx.name (d := rI) 3) (fun _ => Ak.nil))))))) (fun entry_138 => (Ds.ife (Wx.tx (Wx.or (Tx.isN (Dx.name (d := (rO (r3 rI rI rI))) 1)) (Wx.or1 (Tx.ltT hr (Dx.name (d := (r3 rI rI rI)) 4) (Dx.unO (Dx.name (d := (rO (r3 rI rI rI))) 1)))))) (Ds.asg 1 (Dx.someO (Dx.name (d := (r3 rI rI rI)) 4)) (fun best_146 => (Ds.nil (g := best_146) (fun _ => .cons (.rfl _) (.cons (.rfl _) (.cons (.rfl _) (.cons (.un _) (.cons (.un _) (.nil)))))))) sc_best_stretch.nd) (Ds.nil (g := b126) (fun _ => .cons (.rfl _) (.cons (.rfl _) (.cons (.rfl _) (.cons (.un _) (.cons (.un _) (.nil))))))))) sc_best_stretch.nd)) (fun b147 => (Ds.nil (g := b147) (fun _ => .cons (.rfl _) (.cons (.rfl _) (.cons (.un _) (.cons (.un _) (.cons (.un _) (.nil)))))))))) (fun b149 => (Ds.ret (Dx.ite (Tx.notN (Dx.name (d := (rO (r3 rI rI rI))) 1)) (Dx.someO (Dx.tup (out := (fun p : (Int × Int) => ([rI p.1, rI p.2] : List D))) (Ak.cons (Dx.proj (f := fun q : (Int × Int × Int) => q.2.1) (rb := rI) (fun q : (Int × Int × Int) => ([rI q.1, rI q.2.1, rI q.2.2] : List D)) (Dx.unO (Dx.name (d := (rO (r3 rI rI rI))) 1)) Dx.int) (fun _ => (Ak.cons (Dx.proj (f := fun q : (Int × Int × Int) => q.2.2) (rb := rI) (fun q : (Int × Int × Int) => ([rI q.1, rI q.2.1, rI q.2.2] : List D)) (Dx.unO (Dx.name (d := (rO (r3 rI rI rI))) 1)) Dx.int) (fun _ => Ak.nil)))))) Dx.noneO) (fun _ => .cons (.un _) (.cons (.un _) (.cons (.un _) (.cons (.un _) (.cons (.un _) (.nil)))))))))) sc_best_stretch.nd)
theorem w_records (T : Bi mg)  {f : Addr} {fd : FuncData} (Fn : Fun K "records" "records" s_records f fd) (hx : mg "records" = some (.ref f)) : FnA P w K mg base 1 "records" (spV K (fun a : (List Int) => [.val ((rL rI) a)]) F_records (.cell (cL rI))) := by
  refine fnV (mf := m_records) (s0 := ()) (ps := ["numbers"]) (on := fun (_ : Unit) _ => never) (ob := fun (_ : Unit) _ => never) Fn sc_records hx (Fn.binds fun _ _ _ _ _ _ us hl => match us, hl with | [_], _ => rfl) (fun cdv A outer s H E a hr => ?_) (fun a b h => run0_some h)
  exact (Ds.retF (FxW.fx (comp1 [("place", 1), ("number", 2)] (Ix.enum T.enumerate (Dx.lx (Dx.name (d := (rL rI)) 0))) (fun _ => (Gx.two rfl (Gx.name 1 sc_records.nd) (Gx.name 2 sc_records.nd))) (fun _ v168 => (Tx.val (Bx.all rfl T.all_ (Fx.bx (FxW.fx (comp0 [("far", 3)] (Ix.list (Dx.lx (Fx.list (Fx.slice (Dx.list (Dx.name (d := (rL rI)) 0)) Ox.none (Ox.some (Dx.name (d := rI) 1)))))) (fun _ => (Gx.name 3 sc_records.nd)) (fun _ v174 => (Dx.lt (Dx.name (d := rI) 3) (Dx.name (d := rI) 2)))) (pe_c0n rfl sc_records.nd (blkOk_by (N := N_records) (own := [("far", 3)]) (by decide +kernel)))))))) (fun _ v168 => (Dx.name (d := rI) 1))) (pe_c1 rfl sc_records.nd (blkOk_by (N := N_records) (sc := defScope s_records) (own := [("place", 1), ("number", 2)]) (by decide +kernel)))) (fun _ => .cons (.un _) (.cons (.un _) (.cons (.un _) (.cons (.un _) (.nil))))))
theorem w_trend (T : Bi mg)  {f : Addr} {fd : FuncData} (Fn : Fun K "trend" "trend" s_trend f fd) (hx : mg "trend" = some (.ref f)) : FnA P w K mg base 1 "trend" (spV K (fun a : (List Int) => [.val ((rL rI) a)]) F_trend (.val rI)) := by
  refine fnV (mf := m_trend) (s0 := ()) (ps := ["numbers"]) (on := fun (_ : Unit) _ => never) (ob := fun (_ : Unit) _ => never) Fn sc_trend hx (Fn.binds fun _ _ _ _ _ _ us hl => match us, hl with | [_], _ => rfl) (fun cdv A outer s H E a hr => ?_) (fun a b h => run0_some h)
  exact (Ds.asg 1 Dx.int (fun found_180 => (Ds.for' (oj := (fun (b184 : Int) => (fun (s : Unit) => ([.val ((rL rI) a), .val (rI b184), .un, .un, .un] : Sl)))) (b0 := found_180) PassesOwn.never rfl (Ix.enum T.enumerate (Dx.lx (Dx.name (d := (rL rI)) 0))) (Gx.two rfl (Gx.name 2 sc_trend.nd) (Gx.name 3 sc_trend.nd)) (fun _ => .cons (.rfl _) (.cons (.rfl _) (.cons (.un _) (.cons (.un _) (.cons (.un _) (.nil)))))) (fun b184 v185 => (Ds.aug (g := (fun i j => i + j)) 1 (z := b184) (ip_add) (Bx.len T.len (Fx.bx (FxW.fx (comp1 [("other", 4)] (Ix.list (Dx.lx (Fx.list (Fx.slice (Dx.list (Dx.name (d := (rL rI)) 0)) (Ox.some (Dx.add (Dx.name (d := rI) 2) Dx.int)) Ox.none)))) (fun _ => (Gx.name 4 sc_trend.nd)) (fun _ v192 => (Tx.gt (Dx.name (d := rI) 4) (Dx.name (d := rI) 3))) (fun _ v192 => Dx.int)) (pe_c1 rfl sc_trend.nd (blkOk_by (N := N_trend) (sc := defScope s_trend) (own := [("other", 4)]) (by decide +kernel)))))) (fun found_198 => (Ds.aug (g := (fun i j => i - j)) 1 (z := found_198) (ip_sub) (Bx.len T.len (Fx.bx (FxW.fx (comp1 [("other", 4)] (Ix.list (Dx.lx (Fx.list (Fx.slice (Dx.list (Dx.name (d := (rL rI)) 0)) (Ox.some (Dx.add (Dx.name (d := rI) 2) Dx.int)) Ox.none)))) (fun _ => (Gx.name 4 sc_trend.nd)) (fun _ v205 => (Tx.lt (Dx.name (d := rI) 4) (Dx.name (d := rI) 3))) (fun _ v205 => Dx.int)) (pe_c1 rfl sc_trend.nd (blkOk_by (N := N_trend) (sc := defScope s_trend) (own := [("other", 4)]) (by decide +kernel)))))) (fun found_211 => (Ds.nil (g := found_211) (fun _ => .cons (.rfl _) (.cons (.rfl _) (.cons (.un _) (.cons (.un _) (.cons (.un _) (.nil)))))))) sc_trend.nd)) sc_trend.nd)) (fun b212 => (Ds.ret (Dx.name (d := rI) 1) (fun _ => .cons (.un _) (.cons (.un _) (.cons (.un _) (.cons (.un _) (.cons (.un _) (.nil)))))))))) sc_trend.nd)
theorem w_by_class (T : Bi mg)  {f : Addr} {fd : FuncData} (Fn : Fun K "by_class" "by_class" s_by_class f fd) (hx : mg "by_class" = some (.ref f)) : FnA P w K mg base 1 "by_class" (spV K (fun a : (List Int) × (List Int) => [.val ((rL rI) a.1), .val ((rL rI) a.2)]) F_by_class (.cell (cL rI))) := by
  refine fnV (mf := m_by_class) (s0 := ()) (ps := ["numbers", "bounds"]) (on := fun (_ : Unit) _ => never) (ob := fun (_ : Unit) _ => never) Fn sc_by_class hx (Fn.binds fun _ _ _ _ _ _ us hl => match us, hl with | [_, _], _ => rfl) (fun cdv A outer s H E a hr => ?_) (fun a b h => run0_some h)
  exact (Ds.new 2 (Fx.cat (Fx.bx (FxW.fx (comp0 [("bound", 4)] (Ix.list (Dx.lx (Dx.name (d := (rL rI)) 1))) (fun _ => (Gx.name 4 sc_by_class.nd)) (fun _ v215 => Dx.int)) (pe_c0 rfl sc_by_class.nd (blkOk_by (N := N_by_class) (sc := defScope s_by_class) (own := [("bound", 4)]) (by decide +kernel))))) (Fx.bx (Fx.lst (r := rI) (Ak.cons Dx.int (fun _ => Ak.nil))))) (fun found_220 => (Ds.for' (oj := (fun (b223 : (List Int)) => (fun (s : Unit) => ([.val ((rL rI) a.1), .val ((rL rI) a.2), .own (cL rI b223), .un, .un] : Sl)))) (b0 := found_220) PassesOwn.never rfl (Ix.list (Dx.lx (Dx.name (d := (rL rI)) 0))) (Gx.name 3 sc_by_class.nd) (fun _ => .cons (.rfl _) (.cons (.rfl _) (.cons (.rfl _) (.cons (.un _) (.cons (.un _) (.nil)))))) (fun b223 v224 => (Ds.augix (g := (fun i j => i + j)) 2 (xs := b223) (ip_add) Dx.int (Bx.len T.len (Fx.bx (FxW.fx (comp1 [("bound", 4)] (Ix.list (Dx.lx (Dx.name (d := (rL rI)) 1))) (fun _ => (Gx.name 4 sc_by_class.nd)) (fun _ v225 => (Tx.le (Dx.name (d := rI) 4) (Dx.name (d := rI) 3))) (fun _ v225 => Dx.int)) (pe_c1 rfl sc_by_class.nd (blkOk_by (N := N_by_class) (sc := defScope s_by_class) (own := [("bound", 4)]) (by decide +kernel)))))) (fun found_234 => (Ds.nil (g := found_234) (fun _ => .cons (.rfl _) (.cons (.rfl _) (.cons (.rfl _) (.cons (.un _) (.cons (.un _) (.nil)))))))))) (fun b235 => (Ds.retO 2 (a := b235) (cl := cL rI) (by intro _; rfl) (fun _ => .cons (.un _) (.cons (.un _) (.cons (.un _) (.cons (.un _) (.cons (.un _) (.nil)))))))))) sc_by_class.nd)
theorem w_law_cell (T : Bi mg)  {f : Addr} {fd : FuncData} (Fn : Fun K "_law_cell" "_law_cell" s__law_cell f fd) (hx : mg "_law_cell" = some (.ref f)) : FnA P w K mg base 1 "_law_cell" (spV K (fun a : (List Int) × Int => [.scr a.1, .val (rI a.2)]) F_law_cell (.val rI)) := by
  refine fnV (mf := m_law_cell) (s0 := ()) (ps := ["script", "k"]) (on := fun (_ : Unit) _ => never) (ob := fun (_ : Unit) _ => never) Fn sc__law_cell hx (Fn.binds fun _ _ _ _ _ _ us hl => match us, hl with | [_, _], _ => rfl) (fun cdv A outer s H E a hr => ?_) (fun a b h => run0_some h)
  exact (Ds.ifx (Tx.lt (Dx.name (d := rI) 1) (Dx.lenScr 0 T.len)) (Ds.ret (Dx.ixScr 0 (Dx.name (d := rI) 1)) (fun _ => .cons (.un _) (.cons (.un _) (.nil)))) (Ds.ret Dx.int (fun _ => .cons (.un _) (.cons (.un _) (.nil)))))
theorem w_law_digits (T : Bi mg) (g_law_cell : FnA P w K mg base 1 "_law_cell" (spV K (fun a : (List Int) × Int => [.scr a.1, .val (rI a.2)]) F_law_cell (.val rI))) {f : Addr} {fd : FuncData} (Fn : Fun K "_law_digits" "_law_digits" s__law_digits f fd) (hx : mg "_law_digits" = some (.ref f)) : FnA P w K mg base 2 "_law_digits" (spV K (fun a : (List Int) × Int × Int => [.scr a.1, .val (rI a.2.1), .val (rI a.2.2)]) F_law_digits (.cell (cL rI))) := by
  refine fnV (mf := m_law_digits) (s0 := ()) (ps := ["script", "first", "last"]) (on := fun (_ : Unit) _ => never) (ob := fun (_ : Unit) _ => never) Fn sc__law_digits hx (Fn.binds fun _ _ _ _ _ _ us hl => match us, hl with | [_, _, _], _ => rfl) (fun cdv A outer s H E a hr => ?_) (fun a b h => run0_some h)
  exact (Ds.new 3 (Fx.lst (r := rI) Ak.nil) (fun digits_243 => (Ds.for' (oj := (fun (b248 : (List Int)) => (fun (s : Unit) => ([.scr a.1, .val (rI a.2.1), .val (rI a.2.2), .own (cL rI b248), .un, .un, .un, .un] : Sl)))) (b0 := digits_243) PassesOwn.never rfl (Ix.range2 T.range (Dx.name (d := rI) 1) (Dx.name (d := rI) 2)) (Gx.name 4 sc__law_digits.nd) (fun _ => .cons (.rfl _) (.cons (.rfl _) (.cons (.rfl _) (.cons (.rfl _) (.cons (.un _) (.cons (.un _) (.cons (.un _) (.cons (.un _) (.nil))))))))) (fun b248 v249 => (Ds.asg 5 (Dx.call (L := []) g_law_cell (hr.mono (by decide)) (Ck.scr 0 (Ck.cons (Dx.name (d := rI) 4) (fun _ => Ck.nil))) (Or.inl rfl)) (fun cell_252 => (Ds.ite (on1 := (fun (g256 : Int) => (fun (s : Unit) => ([.scr a.1, .val (rI a.2.1), .val (rI a.2.2), .own (cL rI b248), .val (rI v249), .val (rI g256), .un, .un] : Sl)))) (Tx.lt (Dx.name (d := rI) 5) Dx.int) (Ds.asg 5 (Dx.sub Dx.int (Dx.mul Dx.int (Dx.name (d := rI) 5))) (fun cell_261 => (Ds.nil (g := cell_261) (fun _ => .cons (.rfl _) (.cons (.rfl _) (.cons (.rfl _) (.cons (.rfl _) (.cons (.rfl _) (.cons (.rfl _) (.cons (.un _) (.cons (.un _) (.nil))))))))))) sc__law_digits.nd) (Ds.nil (g := cell_252) (fun _ => .cons (.rfl _) (.cons (.rfl _) (.cons (.rfl _) (.cons (.rfl _) (.cons (.rfl _) (.cons (.rfl _) (.cons (.un _) (.cons (.un _) (.nil)))))))))) (fun g256 => (Ds.ife (Tx.ge (Dx.name (d := rI) 5) (Dx.pow Dx.int Dx.int)) (Ds.for' (oj := (fun (b270 : (List Int) × Int) => (fun (s : Unit) => ([.scr a.1, .val (rI a.2.1), .val (rI a.2.2), .own (cL rI b270.1), .val (rI v249), .val (rI b270.2), .un, .un] : Sl)))) (b0 := (b248, g256)) PassesOwn.never rfl (Ix.range1 T.range Dx.int) (Gx.name 6 sc__law_digits.nd) (fun _ => .cons (.rfl _) (.cons (.rfl _) (.cons (.rfl _) (.cons (.rfl _) (.cons (.rfl _) (.cons (.rfl _) (.cons (.un _) (.cons (.un _) (.nil))))))))) (fun b270 v271 => (Ds.ife (Tx.gt (Dx.name (d := rI) 5) Dx.int) (Ds.app 3 (xs := b270.1) (Dx.mod (Dx.int1 T.int (Dx.name (d := rI) 5)) Dx.int) (fun x278 => (Ds.asg 5 (Dx.fdiv (Dx.name (d := rI) 5) Dx.int) (fun cell_281 => (Ds.nil (g := ((b270.1 ++ [x278]), cell_281)) (fun _ => .cons (.rfl _) (.cons (.rfl _) (.cons (.rfl _) (.cons (.rfl _) (.cons (.rfl _) (.cons (.rfl _) (.cons (.un _) (.cons (.un _) (.nil))))))))))) sc__law_digits.nd))) (Ds.nil (g := (b270.1, b270.2)) (fun _ => .cons (.rfl _) (.cons (.rfl _) (.cons (.rfl _) (.cons (.rfl _) (.cons (.rfl _) (.cons (.rfl _) (.cons (.un _) (.cons (.un _) (.nil)))))))))))) (fun b282 => (Ds.nil (g := b282.1) (fun _ => .cons (.rfl _) (.cons (.rfl _) (.cons (.rfl _) (.cons (.rfl _) (.cons (.un _) (.cons (.un _) (.cons (.un _) (.cons (.un _) (.nil)))))))))))) (Ds.asg 7 (Dx.mod (Dx.int1 T.int (Dx.add (Dx.add (Dx.mul (Dx.name (d := rI) 5) Dx.int) (Dx.mul (Dx.name (d := rI) 4) Dx.int)) Dx.int)) Dx.int) (fun seed_295 => (Ds.for' (oj := (fun (b299 : (List Int) × Int) => (fun (s : Unit) => ([.scr a.1, .val (rI a.2.1), .val (rI a.2.2), .own (cL rI b299.1), .val (rI v249), .val (rI g256), .un, .val (rI b299.2)] : Sl)))) (b0 := (b248, seed_295)) PassesOwn.never rfl (Ix.range1 T.range Dx.int) (Gx.name 6 sc__law_digits.nd) (fun _ => .cons (.rfl _) (.cons (.rfl _) (.cons (.rfl _) (.cons (.rfl _) (.cons (.rfl _) (.cons (.rfl _) (.cons (.un _) (.cons (.rfl _) (.nil))))))))) (fun b299 v300 => (Ds.asg 7 (Dx.mod (Dx.int1 T.int (Dx.add (Dx.add (Dx.mul (Dx.name (d := rI) 7) Dx.int) (Dx.mul Dx.int (Dx.name (d := rI) 6))) Dx.int)) Dx.int) (fun seed_312 => (Ds.app 3 (xs := b299.1) (Dx.mod (Dx.int1 T.int (Dx.fdiv (Dx.name (d := rI) 7) Dx.int)) Dx.int) (fun x318 => (Ds.nil (g := ((b299.1 ++ [x318]), seed_312)) (fun _ => .cons (.rfl _) (.cons (.rfl _) (.cons (.rfl _) (.cons (.rfl _) (.cons (.rfl _) (.cons (.rfl _) (.cons (.un _) (.cons (.rfl _) (.nil))))))))))))) sc__law_digits.nd)) (fun b319 => (Ds.nil (g := b319.1) (fun _ => .cons (.rfl _) (.cons (.rfl _) (.cons (.rfl _) (.cons (.rfl _) (.cons (.un _) (.cons (.un _) (.cons (.un _) (.cons (.un _) (.nil))))))))))))) sc__law_digits.nd))))) sc__law_digits.nd)) (fun b321 => (Ds.retO 3 (a := b321) (cl := cL rI) (by intro _; rfl) (fun _ => .cons (.un _) (.cons (.un _) (.cons (.un _) (.cons (.un _) (.cons (.un _) (.cons (.un _) (.cons (.un _) (.cons (.un _) (.nil))))))))))))) sc__law_digits.nd)
theorem w_law_draw (T : Bi mg)  {f : Addr} {fd : FuncData} (Fn : Fun K "_law_draw" "_law_draw" s__law_draw f fd) (hx : mg "_law_draw" = some (.ref f)) (ds : List Int) : FnA P w K mg base 1 "_law_draw" (spB K (bxC ds) (fun a : Int => [.val (rI a)]) (F_law_draw ds) (.val rI)) := by
  refine fnB (mf := m_law_draw ds) (ps := ["box", "many"]) (on := fun (_ : Unit) _ => never) (ob := fun (_ : Unit) _ => never) Fn sc__law_draw hx (Fn.binds fun _ _ _ _ _ _ us hl => match us, hl with | [_, _], _ => rfl) (fun cdv A outer s H E a p hr => ?_) (fun a s b s' h => runS_some h)
  exact (Ds.boxset (ds := ds) (some p) 0 (Dx.add (Dx.boxN (ds := ds) (some p) 0) Dx.int) (Ds.ifx (Tx.gt (Dx.boxN (ds := ds) (some p) 0) (Bx.len T.len (Dx.list (Dx.boxD (ds := ds) (some p) 0)))) (Ds.ret (Dx.mod (Dx.int1 T.int (Dx.add (Dx.mul (Dx.boxN (ds := ds) (some p) 0) Dx.int) Dx.int)) (Dx.name (d := rI) 1)) (fun _ => .cons (.rfl _) (.cons (.un _) (.nil)))) (Ds.ret (Dx.mod (Dx.int1 T.int (Bx.ix (Dx.list (Dx.boxD (ds := ds) (some p) 0)) (Dx.sub (Dx.boxN (ds := ds) (some p) 0) Dx.int))) (Dx.name (d := rI) 1)) (fun _ => .cons (.rfl _) (.cons (.un _) (.nil))))))
theorem w_law_pick (T : Bi mg) (g_law_draw : ∀ ds : List Int, FnA P w K mg base 1 "_law_draw" (spB K (bxC ds) (fun a : Int => [.val (rI a)]) (F_law_draw ds) (.val rI))) {f : Addr} {fd : FuncData} (Fn : Fun K "_law_pick" "_law_pick" s__law_pick f fd) (hx : mg "_law_pick" = some (.ref f)) {α : Type} (r : α → D) (ds : List Int) : FnA P w K mg base 2 "_law_pick" (spB K (bxC ds) (fun a : List α => [.val (rL r a)]) (F_law_pick ds) (.val r)) := by
  refine fnB (mf := m_law_pick ds) (ps := ["box", "row"]) (on := fun (_ : Unit) _ => never) (ob := fun (_ : Unit) _ => never) Fn sc__law_pick hx (Fn.binds fun _ _ _ _ _ _ us hl => match us, hl with | [_, _], _ => rfl) (fun cdv A outer s H E a p hr => ?_) (fun a s b s' h => runS_some h)
  exact Ds.ret (Bx.ix (Dx.list (Dx.name 1)) (Dx.mod (Dx.int1 T.int (Dx.callB (bx := bxC ds) (some p) 0 (g_law_draw ds) (hr.mono (by decide)) (Ck.cons Dx.int (fun _ => Ck.nil)))) (Bx.len T.len (Dx.list (Dx.name 1))))) (fun _ => .cons (.rfl _) (.cons (.un _) .nil))
theorem w_law_low (T : Bi mg)  {f : Addr} {fd : FuncData} (Fn : Fun K "_law_low" "_law_low" s__law_low f fd) (hx : mg "_law_low" = some (.ref f)) : FnA P w K mg base 1 "_law_low" (spV K (fun a : Int × Int => [.val (rI a.1), .val (rI a.2)]) F_law_low (.val (r2 rI rI))) := by
  refine fnV (mf := m_law_low) (s0 := ()) (ps := ["top", "bottom"]) (on := fun (_ : Unit) _ => never) (ob := fun (_ : Unit) _ => never) Fn sc__law_low hx (Fn.binds fun _ _ _ _ _ _ us hl => match us, hl with | [_, _], _ => rfl) (fun cdv A outer s H E a hr => ?_) (fun a b h => run0_some h)
  exact (Ds.par 2 3 (Dx.abs T.abs (Dx.name (d := rI) 0)) (Dx.name (d := rI) 1) (fun one_356 other_357 => (Ds.while' (oj := (fun (b359 : Int × Int) => (fun (s : Unit) => ([.val (rI a.1), .val (rI a.2), .val (rI b359.1), .val (rI b359.2)] : Sl)))) (b0 := (one_356, other_357)) PassesOwn.never (fun _ => .cons (.rfl _) (.cons (.rfl _) (.cons (.rfl _) (.cons (.rfl _) (.nil))))) (fun b359 => (Tx.gt (Dx.name (d := rI) 3) Dx.int)) (fun b359 => (Ds.par 2 3 (Dx.name (d := rI) 3) (Dx.mod (Dx.int1 T.int (Dx.name (d := rI) 2)) (Dx.name (d := rI) 3)) (fun one_365 other_366 => (Ds.nil (g := (one_365, other_366)) (fun _ => .cons (.rfl _) (.cons (.rfl _) (.cons (.rfl _) (.cons (.rfl _) (.nil))))))) rfl sc__law_low.nd)) (fun b367 => (Ds.ret (Dx.tup (out := (fun p : (Int × Int) => ([rI p.1, rI p.2] : List D))) (Ak.cons (Dx.fdiv (Dx.name (d := rI) 0) (Dx.name (d := rI) 2)) (fun _ => (Ak.cons (Dx.fdiv (Dx.name (d := rI) 1) (Dx.name (d := rI) 2)) (fun _ => Ak.nil))))) (fun _ => .cons (.un _) (.cons (.un _) (.cons (.un _) (.cons (.un _) (.nil))))))))) rfl sc__law_low.nd)
theorem w_law_numbers (T : Bi mg) (g_law_draw : ∀ ds : List Int, FnA P w K mg base 1 "_law_draw" (spB K (bxC ds) (fun a : Int => [.val (rI a)]) (F_law_draw ds) (.val rI))) (g_law_pick : ∀ {α : Type} (r : α → D) (ds : List Int), FnA P w K mg base 2 "_law_pick" (spB K (bxC ds) (fun a : List α => [.val (rL r a)]) (F_law_pick ds) (.val r))) {f : Addr} {fd : FuncData} (Fn : Fun K "_law_numbers" "_law_numbers" s__law_numbers f fd) (hx : mg "_law_numbers" = some (.ref f)) (ds : List Int) : FnA P w K mg base 3 "_law_numbers" (spB K (bxC ds) (fun a : Unit => []) (F_law_numbers ds) (.cell (cL rI))) := by
  refine fnB (mf := m_law_numbers ds) (ps := ["box"]) (on := fun (_ : Unit) _ => never) (ob := fun (_ : Unit) _ => never) Fn sc__law_numbers hx (Fn.binds fun _ _ _ _ _ _ us hl => match us, hl with | [_], _ => rfl) (fun cdv A outer s H E a p hr => ?_) (fun a s b s' h => runS_some h)
  exact (Ds.asg 1 (Dx.callB (bx := bxC ds) (some p) 0 (g_law_pick rI ds) (hr.mono (by decide)) (Ck.cons (Fx.list (Fx.lst (r := rI) (Ak.cons Dx.int (fun _ => (Ak.cons Dx.int (fun _ => (Ak.cons Dx.int (fun _ => (Ak.cons Dx.int (fun _ => (Ak.cons Dx.int (fun _ => (Ak.cons Dx.int (fun _ => (Ak.cons Dx.int (fun _ => (Ak.cons Dx.int (fun _ => (Ak.cons Dx.int (fun _ => (Ak.cons Dx.int (fun _ => Ak.nil)))))))))))))))))))))) (fun _ => Ck.nil))) (fun many_386 => (Ds.asg 2 (Dx.callB (bx := bxC ds) (some p) 0 (g_law_pick rI ds) (hr.mono (by decide)) (Ck.cons (Fx.list (Fx.lst (r := rI) (Ak.cons Dx.int (fun _ => (Ak.cons Dx.int (fun _ => (Ak.cons Dx.int (fun _ => (Ak.cons Dx.int (fun _ => Ak.nil)))))))))) (fun _ => Ck.nil))) (fun most_392 => (Ds.asg 3 (Dx.callB (bx := bxC ds) (some p) 0 (g_law_draw ds) (hr.mono (by decide)) (Ck.cons Dx.int (fun _ => Ck.nil))) (fun kind_395 => (Ds.newW 4 (ps_c0 rfl sc__law_numbers.nd (blkOk_by (N := N__law_numbers) (sc := defScope s__law_numbers) (own := [("k", 5)]) (by decide +kernel))) (comp0 [("k", 5)] (Ix.range1 T.range (Dx.name (d := rI) 1)) (fun _ => (Gx.name 5 sc__law_numbers.nd)) (fun _ v397 => (Dx.sub (Dx.callB (bx := bxC ds) (some p) 0 (g_law_draw ds) (hr.mono (by decide)) (Ck.cons (Dx.name (d := rI) 2) (fun _ => Ck.nil))) (Dx.fdiv (Dx.name (d := rI) 2) Dx.int)))) (fun row_405 => (Ds.ite (on1 := (fun (g409 : (List Int)) => (fun (s : Int) => ([.own (.fix p (bxC ds s)), .val (rI many_386), .val (rI most_392), .val (rI kind_395), .own (cL rI g409), .un, .un] : Sl)))) (Tx.eq hr (Dx.name (d := rI) 3) Dx.int) (Ds.new 4 (Fx.step (Fx.bx (Fx.sorted T.sorted (Bx.own (r := rI) (xs := row_405) 4))) (Dx.callB (bx := bxC ds) (some p) 0 (g_law_pick rI ds) (hr.mono (by decide)) (Ck.cons (Fx.list (Fx.lst (r := rI) (Ak.cons Dx.int (fun _ => (Ak.cons (Dx.neg Dx.int) (fun _ => Ak.nil)))))) (fun _ => Ck.nil)))) (fun row_418 => (Ds.nil (g := row_418) (fun _ => .cons (.rfl _) (.cons (.rfl _) (.cons (.rfl _) (.cons (.rfl _) (.cons (.rfl _) (.cons (.un _) (.cons (.un _) (.nil)))))))))) sc__law_numbers.nd) (Ds.nil (g := row_405) (fun _ => .cons (.rfl _) (.cons (.rfl _) (.cons (.rfl _) (.cons (.rfl _) (.cons (.rfl _) (.cons (.un _) (.cons (.un _) (.nil))))))))) (fun g409 => (Ds.ite (on1 := (fun (g422 : (List Int)) => (fun (s : Int) => ([.own (.fix p (bxC ds s)), .val (rI many_386), .val (rI most_392), .val (rI kind_395), .own (cL rI g422), .un, .un] : Sl)))) (Tx.eq hr (Dx.name (d := rI) 3) Dx.int) (Ds.newW 4 (ps_c0 rfl sc__law_numbers.nd (blkOk_by (N := N__law_numbers) (sc := defScope s__law_numbers) (own := [("number", 6)]) (by decide +kernel))) (comp0 [("number", 6)] (Ix.list (Lx.own (r := rI) (xs := g409) 4)) (fun _ => (Gx.name 6 sc__law_numbers.nd)) (fun _ v423 => (Dx.add (Dx.mul (Dx.name (d := rI) 6) Dx.int) Dx.int))) (fun row_429 => (Ds.nil (g := row_429) (fun _ => .cons (.rfl _) (.cons (.rfl _) (.cons (.rfl _) (.cons (.rfl _) (.cons (.rfl _) (.cons (.un _) (.cons (.un _) (.nil))))))))))) (Ds.nil (g := g409) (fun _ => .cons (.rfl _) (.cons (.rfl _) (.cons (.rfl _) (.cons (.rfl _) (.cons (.rfl _) (.cons (.un _) (.cons (.un _) (.nil))))))))) (fun g422 => (Ds.ite (on1 := (fun (g433 : (List Int)) => (fun (s : Int) => ([.own (.fix p (bxC ds s)), .val (rI many_386), .val (rI most_392), .val (rI kind_395), .own (cL rI g433), .un, .un] : Sl)))) (Tx.eq hr (Dx.name (d := rI) 3) Dx.int) (Ds.newW 4 (ps_c0 rfl sc__law_numbers.nd (blkOk_by (N := N__law_numbers) (sc := defScope s__law_numbers) (own := [("number", 6)]) (by decide +kernel))) (comp0 [("number", 6)] (Ix.list (Lx.own (r := rI) (xs := g422) 4)) (fun _ => (Gx.name 6 sc__law_numbers.nd)) (fun _ v434 => (Dx.sub (Dx.sub Dx.int (Dx.abs T.abs (Dx.name (d := rI) 6))) Dx.int))) (fun row_441 => (Ds.nil (g := row_441) (fun _ => .cons (.rfl _) (.cons (.rfl _) (.cons (.rfl _) (.cons (.rfl _) (.cons (.rfl _) (.cons (.un _) (.cons (.un _) (.nil))))))))))) (Ds.nil (g := g422) (fun _ => .cons (.rfl _) (.cons (.rfl _) (.cons (.rfl _) (.cons (.rfl _) (.cons (.rfl _) (.cons (.un _) (.cons (.un _) (.nil))))))))) (fun g433 => (Ds.retO 4 (a := g433) (cl := cL rI) (by intro _; rfl) (fun _ => .cons (.rfl _) (.cons (.un _) (.cons (.un _) (.cons (.un _) (.cons (.un _) (.cons (.un _) (.cons (.un _) (.nil)))))))))))))))))) sc__law_numbers.nd)) sc__law_numbers.nd)) sc__law_numbers.nd)
theorem w_law_middle (T : Bi mg) (g_law_low : FnA P w K mg base 1 "_law_low" (spV K (fun a : Int × Int => [.val (rI a.1), .val (rI a.2)]) F_law_low (.val (r2 rI rI)))) {f : Addr} {fd : FuncData} (Fn : Fun K "_law_middle" "_law_middle" s__law_middle f fd) (hx : mg "_law_middle" = some (.ref f)) : FnA P w K mg base 2 "_law_middle" (spV K (fun a : (List Int) => [.val ((rL rI) a)]) F_law_middle (.val (rO (r2 rI rI)))) := by
  refine fnV (mf := m_law_middle) (s0 := ()) (ps := ["numbers"]) (on := fun (_ : Unit) _ => never) (ob := fun (_ : Unit) _ => never) Fn sc__law_middle hx (Fn.binds fun _ _ _ _ _ _ us hl => match us, hl with | [_], _ => rfl) (fun cdv A outer s H E a hr => ?_) (fun a b h => run0_some h)
  exact (Ds.new 1 (Fx.sorted T.sorted (Dx.list (Dx.name (d := (rL rI)) 0))) (fun row_443 => (Ds.while' (oj := (fun (b445 : (List Int)) => (fun (s : Unit) => ([.val ((rL rI) a), .own (cL rI b445)] : Sl)))) (b0 := row_443) PassesOwn.never (fun _ => .cons (.rfl _) (.cons (.rfl _) (.nil))) (fun b445 => (Tx.gt (Bx.len T.len (Bx.own (r := rI) (xs := b445) 1)) Dx.int)) (fun b445 => (Ds.new 1 (Fx.slice (Bx.own (r := rI) (xs := b445) 1) (Ox.some Dx.int) (Ox.some (Dx.neg Dx.int))) (fun row_455 => (Ds.nil (g := row_455) (fun _ => .cons (.rfl _) (.cons (.rfl _) (.nil))))) sc__law_middle.nd)) (fun b456 => (Ds.ret (Dx.ite (BxT.ne hr (Bx.own (r := rI) (xs := b456) 1) (Fx.bx (Fx.lst (r := rI) Ak.nil))) (Dx.someO (Dx.call (L := []) g_law_low (hr.mono (by decide)) (Ck.cons (Bx.sum rfl T.sum (Bx.own (r := rI) (xs := b456) 1)) (fun _ => (Ck.cons (Bx.len T.len (Bx.own (r := rI) (xs := b456) 1)) (fun _ => Ck.nil)))) (Or.inl rfl))) Dx.noneO) (fun _ => .cons (.un _) (.cons (.un _) (.nil))))))) sc__law_middle.nd)
theorem w_law_square (T : Bi mg) (g_law_low : FnA P w K mg base 1 "_law_low" (spV K (fun a : Int × Int => [.val (rI a.1), .val (rI a.2)]) F_law_low (.val (r2 rI rI)))) {f : Addr} {fd : FuncData} (Fn : Fun K "_law_square" "_law_square" s__law_square f fd) (hx : mg "_law_square" = some (.ref f)) : FnA P w K mg base 2 "_law_square" (spV K (fun a : (List Int) => [.val ((rL rI) a)]) F_law_square (.val (r2 rI rI))) := by
  refine fnV (mf := m_law_square) (s0 := ()) (ps := ["numbers"]) (on := fun (_ : Unit) _ => never) (ob := fun (_ : Unit) _ => never) Fn sc__law_square hx (Fn.binds fun _ _ _ _ _ _ us hl => match us, hl with | [_], _ => rfl) (fun cdv A outer s H E a hr => ?_) (fun a b h => run0_some h)
  exact (Ds.asg 1 (Bx.len T.len (Dx.list (Dx.name (d := (rL rI)) 0))) (fun many_473 => (Ds.asg 2 Dx.int (fun found_474 => (Ds.for' (oj := (fun (b478 : Int) => (fun (s : Unit) => ([.val ((rL rI) a), .val (rI many_473), .val (rI b478), .un, .un] : Sl)))) (b0 := found_474) PassesOwn.never rfl (Ix.range1 T.range (Dx.name (d := rI) 1)) (Gx.name 3 sc__law_square.nd) (fun _ => .cons (.rfl _) (.cons (.rfl _) (.cons (.rfl _) (.cons (.un _) (.cons (.un _) (.nil)))))) (fun b478 v479 => (Ds.for' (oj := (fun (b483 : Int) => (fun (s : Unit) => ([.val ((rL rI) a), .val (rI many_473), .val (rI b483), .val (rI v479), .un] : Sl)))) (b0 := b478) PassesOwn.never rfl (Ix.range1 T.range (Dx.name (d := rI) 3)) (Gx.name 4 sc__law_square.nd) (fun _ => .cons (.rfl _) (.cons (.rfl _) (.cons (.rfl _) (.cons (.rfl _) (.cons (.un _) (.nil)))))) (fun b483 v484 => (Ds.asg 2 (Dx.add (Dx.name (d := rI) 2) (Dx.mul (Dx.sub (Bx.ix (Dx.list (Dx.name (d := (rL rI)) 0)) (Dx.name (d := rI) 3)) (Bx.ix (Dx.list (Dx.name (d := (rL rI)) 0)) (Dx.name (d := rI) 4))) (Dx.sub (Bx.ix (Dx.list (Dx.name (d := (rL rI)) 0)) (Dx.name (d := rI) 3)) (Bx.ix (Dx.list (Dx.name (d := (rL rI)) 0)) (Dx.name (d := rI) 4))))) (fun found_501 => (Ds.nil (g := found_501) (fun _ => .cons (.rfl _) (.cons (.rfl _) (.cons (.rfl _) (.cons (.rfl _) (.cons (.un _) (.nil)))))))) sc__law_square.nd)) (fun b502 => (Ds.nil (g := b502) (fun _ => .cons (.rfl _) (.cons (.rfl _) (.cons (.rfl _) (.cons (.un _) (.cons (.un _) (.nil)))))))))) (fun b504 => (Ds.ret (Dx.call (L := []) g_law_low (hr.mono (by decide)) (Ck.cons (Dx.name (d := rI) 2) (fun _ => (Ck.cons (Dx.mul (Dx.name (d := rI) 1) (Dx.name (d := rI) 1)) (fun _ => Ck.nil)))) (Or.inl rfl)) (fun _ => .cons (.un _) (.cons (.un _) (.cons (.un _) (.cons (.un _) (.cons (.un _) (.nil)))))))))) sc__law_square.nd)) sc__law_square.nd)
theorem w_law_ranks (T : Bi mg) (g_law_low : FnA P w K mg base 1 "_law_low" (spV K (fun a : Int × Int => [.val (rI a.1), .val (rI a.2)]) F_law_low (.val (r2 rI rI)))) {f : Addr} {fd : FuncData} (Fn : Fun K "_law_ranks" "_law_ranks" s__law_ranks f fd) (hx : mg "_law_ranks" = some (.ref f)) : FnA P w K mg base 2 "_law_ranks" (spV K (fun a : (List Int) => [.val ((rL rI) a)]) F_law_ranks (.cell (cL (r2 rI rI)))) := by
  refine fnV (mf := m_law_ranks) (s0 := ()) (ps := ["numbers"]) (on := fun (_ : Unit) _ => never) (ob := fun (_ : Unit) _ => never) Fn sc__law_ranks hx (Fn.binds fun _ _ _ _ _ _ us hl => match us, hl with | [_], _ => rfl) (fun cdv A outer s H E a hr => ?_) (fun a b h => run0_some h)
  exact (Ds.new 1 (Fx.sorted T.sorted (Dx.list (Dx.name (d := (rL rI)) 0))) (fun row_513 => (Ds.new 2 (Fx.lst (r := (r2 rI rI)) Ak.nil) (fun found_514 => (Ds.for' (oj := (fun (b517 : (List (Int × Int))) => (fun (s : Unit) => ([.val ((rL rI) a), .own (cL rI row_513), .own (cL (r2 rI rI) b517), .un, .un, .un] : Sl)))) (b0 := found_514) PassesOwn.never rfl (Ix.list (Dx.lx (Dx.name (d := (rL rI)) 0))) (Gx.name 3 sc__law_ranks.nd) (fun _ => .cons (.rfl _) (.cons (.rfl _) (.cons (.rfl _) (.cons (.un _) (.cons (.un _) (.cons (.un _) (.nil))))))) (fun b517 v518 => (Ds.newW 4 (ps_c1 rfl sc__law_ranks.nd (blkOk_by (N := N__law_ranks) (sc := defScope s__law_ranks) (own := [("k", 5)]) (by decide +kernel))) (comp1 [("k", 5)] (Ix.range1 T.range (Bx.len T.len (Bx.own (r := rI) (xs := row_513) 1))) (fun _ => (Gx.name 5 sc__law_ranks.nd)) (fun _ v521 => (Tx.eq hr (Bx.ix (Bx.own (r := rI) (xs := row_513) 1) (Dx.name (d := rI) 5)) (Dx.name (d := rI) 3))) (fun _ v521 => (Dx.name (d := rI) 5))) (fun places_527 => (Ds.app 2 (xs := b517) (Dx.call (L := []) g_law_low (hr.mono (by decide)) (Ck.cons (Dx.add (Dx.add (Bx.ix (Bx.own (r := rI) (xs := places_527) 4) Dx.int) (Bx.ix (Bx.own (r := rI) (xs := places_527) 4) (Dx.neg Dx.int))) Dx.int) (fun _ => (Ck.cons Dx.int (fun _ => Ck.nil)))) (Or.inl rfl)) (fun x540 => (Ds.nil (g := (b517 ++ [x540])) (fun _ => .cons (.rfl _) (.cons (.rfl _) (.cons (.rfl _) (.cons (.un _) (.cons (.un _) (.cons (.un _) (.nil))))))))))))) (fun b541 => (Ds.retO 2 (a := b541) (cl := cL (r2 rI rI)) (by intro _; rfl) (fun _ => .cons (.un _) (.cons (.un _) (.cons (.un _) (.cons (.un _) (.cons (.un _) (.cons (.un _) (.nil))))))))))) sc__law_ranks.nd)) sc__law_ranks.nd)
theorem w_law_stretch (T : Bi mg)  {f : Addr} {fd : FuncData} (Fn : Fun K "_law_stretch" "_law_stretch" s__law_stretch f fd) (hx : mg "_law_stretch" = some (.ref f)) : FnA P w K mg base 1 "_law_stretch" (spV K (fun a : (List Int) => [.val ((rL rI) a)]) F_law_stretch (.val (rO (r2 rI rI)))) := by
  refine fnV (mf := m_law_stretch) (s0 := ()) (ps := ["numbers"]) (on := fun (_ : Unit) _ => never) (ob := fun (_ : Unit) _ => never) Fn sc__law_stretch hx (Fn.binds fun _ _ _ _ _ _ us hl => match us, hl with | [_], _ => rfl) (fun cdv A outer s H E a hr => ?_) (fun a b h => run0_some h)
  exact (Ds.asgG (Gx.two rfl (Gx.name 2 sc__law_stretch.nd) (Gx.name 3 sc__law_stretch.nd)) (Dx.tup (out := (fun p : ((Option (Int × Int)) × Int) => ([(rO (r2 rI rI)) p.1, rI p.2] : List D))) (Ak.cons Dx.noneO (fun _ => (Ak.cons Dx.int (fun _ => Ak.nil))))) (fun t545 => (Ds.for' (oj := (fun (b550 : (Option (Int × Int)) × Int) => (fun (s : Unit) => ([.val ((rL rI) a), .un, .val ((rO (r2 rI rI)) b550.1), .val (rI b550.2), .un, .un] : Sl)))) (b0 := (t545.1, t545.2)) PassesOwn.never rfl (Ix.range1 T.range (Bx.len T.len (Dx.list (Dx.name (d := (rL rI)) 0)))) (Gx.name 1 sc__law_stretch.nd) (fun _ => .cons (.rfl _) (.cons (.un _) (.cons (.rfl _) (.cons (.rfl _) (.cons (.un _) (.cons (.un _) (.nil))))))) (fun b550 v551 => (Ds.asg 4 Dx.int (fun size_552 => (Ds.for' (oj := (fun (b562 : (Option (Int × Int)) × Int × Int) => (fun (s : Unit) => ([.val ((rL rI) a), .val (rI v551), .val ((rO (r2 rI rI)) b562.1), .val (rI b562.2.1), .val (rI b562.2.2), .un] : Sl)))) (b0 := (b550.1, b550.2, size_552)) PassesOwn.never rfl (Ix.range2 T.range (Dx.add (Dx.name (d := rI) 1) Dx.int) (Dx.add (Bx.len T.len (Dx.list (Dx.name (d := (rL rI)) 0))) Dx.int)) (Gx.name 5 sc__law_stretch.nd) (fun _ => .cons (.rfl _) (.cons (.rfl _) (.cons (.rfl _) (.cons (.rfl _) (.cons (.rfl _) (.cons (.un _) (.nil))))))) (fun b562 v563 => (Ds.asg 4 (Dx.add (Dx.name (d := rI) 4) (Bx.ix (Dx.list (Dx.name (d := (rL rI)) 0)) (Dx.sub (Dx.name (d := rI) 5) Dx.int))) (fun size_570 => (Ds.ife (Wx.tx (Wx.or (Tx.isN (Dx.name (d := (rO (r2 rI rI))) 2)) (Wx.or1 (Tx.gt (Dx.name (d := rI) 4) (Dx.name (d := rI) 3))))) (Ds.par 2 3 (Dx.someO (Dx.tup (out := (fun p : (Int × Int) => ([rI p.1, rI p.2] : List D))) (Ak.cons (Dx.name (d := rI) 1) (fun _ => (Ak.cons (Dx.name (d := rI) 5) (fun _ => Ak.nil)))))) (Dx.name (d := rI) 4) (fun best_579 most_580 => (Ds.nil (g := (best_579, most_580, size_570)) (fun _ => .cons (.rfl _) (.cons (.rfl _) (.cons (.rfl _) (.cons (.rfl _) (.cons (.rfl _) (.cons (.un _) (.nil))))))))) rfl sc__law_stretch.nd) (Ds.nil (g := (b562.1, b562.2.1, size_570)) (fun _ => .cons (.rfl _) (.cons (.rfl _) (.cons (.rfl _) (.cons (.rfl _) (.cons (.rfl _) (.cons (.un _) (.nil)))))))))) sc__law_stretch.nd)) (fun b581 => (Ds.nil (g := (b581.1, b581.2.1)) (fun _ => .cons (.rfl _) (.cons (.un _) (.cons (.rfl _) (.cons (.rfl _) (.cons (.un _) (.cons (.un _) (.nil))))))))))) sc__law_stretch.nd)) (fun b583 => (Ds.ret (Dx.name (d := (rO (r2 rI rI))) 2) (fun _ => .cons (.un _) (.cons (.un _) (.cons (.un _) (.cons (.un _) (.cons (.un _) (.cons (.un _) (.nil))))))))))))
theorem w_law_windows (T : Bi mg)  {f : Addr} {fd : FuncData} (Fn : Fun K "_law_windows" "_law_windows" s__law_windows f fd) (hx : mg "_law_windows" = some (.ref f)) : FnA P w K mg base 1 "_law_windows" (spV K (fun a : (List Int) × Int => [.val ((rL rI) a.1), .val (rI a.2)]) F_law_windows (.cell (cL rI))) := by
  refine fnV (mf := m_law_windows) (s0 := ()) (ps := ["numbers", "size"]) (on := fun (_ : Unit) _ => never) (ob := fun (_ : Unit) _ => never) Fn sc__law_windows hx (Fn.binds fun _ _ _ _ _ _ us hl => match us, hl with | [_, _], _ => rfl) (fun cdv A outer s H E a hr => ?_) (fun a b h => run0_some h)
  exact (Ds.new 2 (Fx.lst (r := rI) Ak.nil) (fun found_586 => (Ds.for' (oj := (fun (b591 : (List Int)) => (fun (s : Unit) => ([.val ((rL rI) a.1), .val (rI a.2), .own (cL rI b591), .un, .un, .un] : Sl)))) (b0 := found_586) PassesOwn.never rfl (Ix.range1 T.range (Bx.len T.len (Dx.list (Dx.name (d := (rL rI)) 0)))) (Gx.name 3 sc__law_windows.nd) (fun _ => .cons (.rfl _) (.cons (.rfl _) (.cons (.rfl _) (.cons (.un _) (.cons (.un _) (.cons (.un _) (.nil))))))) (fun b591 v592 => (Ds.ife (Tx.le (Dx.add (Dx.name (d := rI) 3) (Dx.name (d := rI) 1)) (Bx.len T.len (Dx.list (Dx.name (d := (rL rI)) 0)))) (Ds.asg 4 (Bx.ix (Dx.list (Dx.name (d := (rL rI)) 0)) (Dx.name (d := rI) 3)) (fun top_601 => (Ds.for' (oj := (fun (b611 : Int) => (fun (s : Unit) => ([.val ((rL rI) a.1), .val (rI a.2), .own (cL rI b591), .val (rI v592), .val (rI b611), .un] : Sl)))) (b0 := top_601) PassesOwn.never rfl (Ix.list (Dx.lx (Fx.list (Fx.slice (Dx.list (Dx.name (d := (rL rI)) 0)) (Ox.some (Dx.name (d := rI) 3)) (Ox.some (Dx.add (Dx.name (d := rI) 3) (Dx.name (d := rI) 1))))))) (Gx.name 5 sc__law_windows.nd) (fun _ => .cons (.rfl _) (.cons (.rfl _) (.cons (.rfl _) (.cons (.rfl _) (.cons (.rfl _) (.cons (.un _) (.nil))))))) (fun b611 v612 => (Ds.ife (Tx.gt (Dx.name (d := rI) 5) (Dx.name (d := rI) 4)) (Ds.asg 4 (Dx.name (d := rI) 5) (fun top_616 => (Ds.nil (g := top_616) (fun _ => .cons (.rfl _) (.cons (.rfl _) (.cons (.rfl _) (.cons (.rfl _) (.cons (.rfl _) (.cons (.un _) (.nil))))))))) sc__law_windows.nd) (Ds.nil (g := b611) (fun _ => .cons (.rfl _) (.cons (.rfl _) (.cons (.rfl _) (.cons (.rfl _) (.cons (.rfl _) (.cons (.un _) (.nil)))))))))) (fun b617 => (Ds.app 2 (xs := b591) (Dx.name (d := rI) 4) (fun x618 => (Ds.nil (g := (b591 ++ [x618])) (fun _ => .cons (.rfl _) (.cons (.rfl _) (.cons (.rfl _) (.cons (.un _) (.cons (.un _) (.cons (.un _) (.nil))))))))))))) sc__law_windows.nd) (Ds.nil (g := b591) (fun _ => .cons (.rfl _) (.cons (.rfl _) (.cons (.rfl _) (.cons (.un _) (.cons (.un _) (.cons (.un _) (.nil)))))))))) (fun b620 => (Ds.retO 2 (a := b620) (cl := cL rI) (by intro _; rfl) (fun _ => .cons (.un _) (.cons (.un _) (.cons (.un _) (.cons (.un _) (.cons (.un _) (.cons (.un _) (.nil))))))))))) sc__law_windows.nd)
theorem w_law_trend (T : Bi mg)  {f : Addr} {fd : FuncData} (Fn : Fun K "_law_trend" "_law_trend" s__law_trend f fd) (hx : mg "_law_trend" = some (.ref f)) : FnA P w K mg base 1 "_law_trend" (spV K (fun a : (List Int) => [.val ((rL rI) a)]) F_law_trend (.val rI)) := by
  refine fnV (mf := m_law_trend) (s0 := ()) (ps := ["numbers"]) (on := fun (_ : Unit) _ => never) (ob := fun (_ : Unit) _ => never) Fn sc__law_trend hx (Fn.binds fun _ _ _ _ _ _ us hl => match us, hl with | [_], _ => rfl) (fun cdv A outer s H E a hr => ?_) (fun a b h => run0_some h)
  exact (Ds.asg 1 Dx.int (fun found_622 => (Ds.for' (oj := (fun (b627 : Int) => (fun (s : Unit) => ([.val ((rL rI) a), .val (rI b627), .un, .un] : Sl)))) (b0 := found_622) PassesOwn.never rfl (Ix.range1 T.range (Bx.len T.len (Dx.list (Dx.name (d := (rL rI)) 0)))) (Gx.name 2 sc__law_trend.nd) (fun _ => .cons (.rfl _) (.cons (.rfl _) (.cons (.un _) (.cons (.un _) (.nil))))) (fun b627 v628 => (Ds.for' (oj := (fun (b632 : Int) => (fun (s : Unit) => ([.val ((rL rI) a), .val (rI b632), .val (rI v628), .un] : Sl)))) (b0 := b627) PassesOwn.never rfl (Ix.range1 T.range (Dx.name (d := rI) 2)) (Gx.name 3 sc__law_trend.nd) (fun _ => .cons (.rfl _) (.cons (.rfl _) (.cons (.rfl _) (.cons (.un _) (.nil))))) (fun b632 v633 => (Ds.asg 1 (Dx.sub (Dx.add (Dx.name (d := rI) 1) (Dx.intB T.int (Dx.lt (Bx.ix (Dx.list (Dx.name (d := (rL rI)) 0)) (Dx.name (d := rI) 3)) (Bx.ix (Dx.list (Dx.name (d := (rL rI)) 0)) (Dx.name (d := rI) 2))))) (Dx.intB T.int (Dx.gt (Bx.ix (Dx.list (Dx.name (d := (rL rI)) 0)) (Dx.name (d := rI) 3)) (Bx.ix (Dx.list (Dx.name (d := (rL rI)) 0)) (Dx.name (d := rI) 2))))) (fun found_652 => (Ds.nil (g := found_652) (fun _ => .cons (.rfl _) (.cons (.rfl _) (.cons (.rfl _) (.cons (.un _) (.nil))))))) sc__law_trend.nd)) (fun b653 => (Ds.nil (g := b653) (fun _ => .cons (.rfl _) (.cons (.rfl _) (.cons (.un _) (.cons (.un _) (.nil))))))))) (fun b655 => (Ds.ret (Dx.name (d := rI) 1) (fun _ => .cons (.un _) (.cons (.un _) (.cons (.un _) (.cons (.un _) (.nil))))))))) sc__law_trend.nd)
theorem w_law_records (T : Bi mg)  {f : Addr} {fd : FuncData} (Fn : Fun K "_law_records" "_law_records" s__law_records f fd) (hx : mg "_law_records" = some (.ref f)) : FnA P w K mg base 1 "_law_records" (spV K (fun a : (List Int) => [.val ((rL rI) a)]) F_law_records (.cell (cL rI))) := by
  refine fnV (mf := m_law_records) (s0 := ()) (ps := ["numbers"]) (on := fun (_ : Unit) _ => never) (ob := fun (_ : Unit) _ => never) Fn sc__law_records hx (Fn.binds fun _ _ _ _ _ _ us hl => match us, hl with | [_], _ => rfl) (fun cdv A outer s H E a hr => ?_) (fun a b h => run0_some h)
  exact (Ds.parO 2 3 (Fx.lst (r := rI) Ak.nil) Dx.noneO (fun found_658 top_659 => (Ds.for' (oj := (fun (b664 : (List Int) × (Option Int)) => (fun (s : Unit) => ([.val ((rL rI) a), .un, .own (cL rI b664.1), .val ((rO rI) b664.2)] : Sl)))) (b0 := (found_658, top_659)) PassesOwn.never rfl (Ix.range1 T.range (Bx.len T.len (Dx.list (Dx.name (d := (rL rI)) 0)))) (Gx.name 1 sc__law_records.nd) (fun _ => .cons (.rfl _) (.cons (.un _) (.cons (.rfl _) (.cons (.rfl _) (.nil))))) (fun b664 v665 => (Ds.ife (Wx.tx (Wx.or (Tx.isN (Dx.name (d := (rO rI)) 3)) (Wx.or1 (Tx.gt (Bx.ix (Dx.list (Dx.name (d := (rL rI)) 0)) (Dx.name (d := rI) 1)) (Dx.unO (Dx.name (d := (rO rI)) 3)))))) (Ds.app 2 (xs := b664.1) (Dx.name (d := rI) 1) (fun x674 => (Ds.asg 3 (Dx.someO (Bx.ix (Dx.list (Dx.name (d := (rL rI)) 0)) (Dx.name (d := rI) 1))) (fun top_678 => (Ds.nil (g := ((b664.1 ++ [x674]), top_678)) (fun _ => .cons (.rfl _) (.cons (.un _) (.cons (.rfl _) (.cons (.rfl _) (.nil))))))) sc__law_records.nd))) (Ds.nil (g := (b664.1, b664.2)) (fun _ => .cons (.rfl _) (.cons (.un _) (.cons (.rfl _) (.cons (.rfl _) (.nil)))))))) (fun b679 => (Ds.retO 2 (a := b679.1) (cl := cL rI) (by intro _; rfl) (fun _ => .cons (.un _) (.cons (.un _) (.cons (.un _) (.cons (.un _) (.nil))))))))) rfl sc__law_records.nd)
theorem w_law_bounds (T : Bi mg) (g_law_draw : ∀ ds : List Int, FnA P w K mg base 1 "_law_draw" (spB K (bxC ds) (fun a : Int => [.val (rI a)]) (F_law_draw ds) (.val rI))) (g_law_pick : ∀ {α : Type} (r : α → D) (ds : List Int), FnA P w K mg base 2 "_law_pick" (spB K (bxC ds) (fun a : List α => [.val (rL r a)]) (F_law_pick ds) (.val r))) {f : Addr} {fd : FuncData} (Fn : Fun K "_law_bounds" "_law_bounds" s__law_bounds f fd) (hx : mg "_law_bounds" = some (.ref f)) (ds : List Int) : FnA P w K mg base 3 "_law_bounds" (spB K (bxC ds) (fun a : (List Int) => [.val ((rL rI) a)]) (F_law_bounds ds) (.cell (cL rI))) := by
  refine fnB (mf := m_law_bounds ds) (ps := ["box", "numbers"]) (on := fun (_ : Unit) _ => never) (ob := fun (_ : Unit) _ => never) Fn sc__law_bounds hx (Fn.binds fun _ _ _ _ _ _ us hl => match us, hl with | [_, _], _ => rfl) (fun cdv A outer s H E a p hr => ?_) (fun a s b s' h => runS_some h)
  exact (Ds.new 2 (Fx.lst (r := rI) Ak.nil) (fun row_681 => (Ds.for' (oj := (fun (b687 : (List Int)) => (fun (s : Int) => ([.own (.fix p (bxC ds s)), .val ((rL rI) a), .own (cL rI b687), .un, .un] : Sl)))) (b0 := row_681) PassesOwn.never rfl (Ix.range1 T.range (Dx.callB (bx := bxC ds) (some p) 0 (g_law_draw ds) (hr.mono (by decide)) (Ck.cons Dx.int (fun _ => Ck.nil)))) (Gx.name 3 sc__law_bounds.nd) (fun _ => .cons (.rfl _) (.cons (.rfl _) (.cons (.rfl _) (.cons (.un _) (.cons (.un _) (.nil)))))) (fun b687 v688 => (Ds.asg 4 (Dx.sub (Dx.callB (bx := bxC ds) (some p) 0 (g_law_draw ds) (hr.mono (by decide)) (Ck.cons Dx.int (fun _ => Ck.nil))) Dx.int) (fun bound_693 => (Ds.ite (on1 := (fun (g702 : Int) => (fun (s : Int) => ([.own (.fix p (bxC ds s)), .val ((rL rI) a), .own (cL rI b687), .val (rI v688), .val (rI g702)] : Sl)))) (Wx.tx (Wx.and (BxT.ne hr (Dx.list (Dx.name (d := (rL rI)) 1)) (Fx.bx (Fx.lst (r := rI) Ak.nil))) (Wx.and1 (Tx.eq hr (Dx.callB (bx := bxC ds) (some p) 0 (g_law_draw ds) (hr.mono (by decide)) (Ck.cons Dx.int (fun _ => Ck.nil))) Dx.int)))) (Ds.asg 4 (Dx.add (Dx.callB (bx := bxC ds) (some p) 0 (g_law_pick rI ds) (hr.mono (by decide)) (Ck.cons (Dx.name (d := (rL rI)) 1) (fun _ => Ck.nil))) (Dx.callB (bx := bxC ds) (some p) 0 (g_law_draw ds) (hr.mono (by decide)) (Ck.cons Dx.int (fun _ => Ck.nil)))) (fun bound_708 => (Ds.nil (g := bound_708) (fun _ => .cons (.rfl _) (.cons (.rfl _) (.cons (.rfl _) (.cons (.rfl _) (.cons (.rfl _) (.nil)))))))) sc__law_bounds.nd) (Ds.nil (g := bound_693) (fun _ => .cons (.rfl _) (.cons (.rfl _) (.cons (.rfl _) (.cons (.rfl _) (.cons (.rfl _) (.nil))))))) (fun g702 => (Ds.ife (Tx.notInL hr (Dx.name (d := rI) 4) (Bx.own (r := rI) (xs := b687) 2)) (Ds.app 2 (xs := b687) (Dx.name (d := rI) 4) (fun x712 => (Ds.nil (g := (b687 ++ [x712])) (fun _ => .cons (.rfl _) (.cons (.rfl _) (.cons (.rfl _) (.cons (.un _) (.cons (.un _) (.nil))))))))) (Ds.nil (g := b687) (fun _ => .cons (.rfl _) (.cons (.rfl _) (.cons (.rfl _) (.cons (.un _) (.cons (.un _) (.nil))))))))))) sc__law_bounds.nd)) (fun b713 => (Ds.retF (Fx.sorted T.sorted (Bx.own (r := rI) (xs := b713) 2)) (fun _ => .cons (.rfl _) (.cons (.un _) (.cons (.un _) (.cons (.un _) (.cons (.un _) (.nil)))))))))) sc__law_bounds.nd)
theorem w_law (T : Bi mg) (g_median : FnA P w K mg base 2 "median" (spV K (fun a : (List Int) => [.val ((rL rI) a)]) F_median (.val (rO (r2 rI rI))))) (g_spread : FnA P w K mg base 2 "spread" (spV K (fun a : (List Int) => [.val ((rL rI) a)]) F_spread (.val (r2 rI rI)))) (g_ranked : FnA P w K mg base 2 "ranked" (spV K (fun a : (List Int) => [.val ((rL rI) a)]) F_ranked (.cell (cL (r2 rI rI))))) (g_moving_most : FnA P w K mg base 1 "moving_most" (spV K (fun a : (List Int) × Int => [.val ((rL rI) a.1), .val (rI a.2)]) F_moving_most (.cell (cL rI)))) (g_best_stretch : FnA P w K mg base 1 "best_stretch" (spV K (fun a : (List Int) => [.val ((rL rI) a)]) F_best_stretch (.val (rO (r2 rI rI))))) (g_records : FnA P w K mg base 1 "records" (spV K (fun a : (List Int) => [.val ((rL rI) a)]) F_records (.cell (cL rI)))) (g_trend : FnA P w K mg base 1 "trend" (spV K (fun a : (List Int) => [.val ((rL rI) a)]) F_trend (.val rI))) (g_by_class : FnA P w K mg base 1 "by_class" (spV K (fun a : (List Int) × (List Int) => [.val ((rL rI) a.1), .val ((rL rI) a.2)]) F_by_class (.cell (cL rI)))) (g_law_digits : FnA P w K mg base 2 "_law_digits" (spV K (fun a : (List Int) × Int × Int => [.scr a.1, .val (rI a.2.1), .val (rI a.2.2)]) F_law_digits (.cell (cL rI)))) (g_law_draw : ∀ ds : List Int, FnA P w K mg base 1 "_law_draw" (spB K (bxC ds) (fun a : Int => [.val (rI a)]) (F_law_draw ds) (.val rI))) (g_law_same : ∀ {α : Type} (r : α → D), FnA P w K mg base 8 "_law_same" (spV K (fun a : α × α => [.val (r a.1), .val (r a.2)]) (F_law_same r) (.val rB))) (g_law_numbers : ∀ ds : List Int, FnA P w K mg base 3 "_law_numbers" (spB K (bxC ds) (fun a : Unit => []) (F_law_numbers ds) (.cell (cL rI)))) (g_law_middle : FnA P w K mg base 2 "_law_middle" (spV K (fun a : (List Int) => [.val ((rL rI) a)]) F_law_middle (.val (rO (r2 rI rI))))) (g_law_square : FnA P w K mg base 2 "_law_square" (spV K (fun a : (List Int) => [.val ((rL rI) a)]) F_law_square (.val (r2 rI rI)))) (g_law_ranks : FnA P w K mg base 2 "_law_ranks" (spV K (fun a : (List Int) => [.val ((rL rI) a)]) F_law_ranks (.cell (cL (r2 rI rI))))) (g_law_stretch : FnA P w K mg base 1 "_law_stretch" (spV K (fun a : (List Int) => [.val ((rL rI) a)]) F_law_stretch (.val (rO (r2 rI rI))))) (g_law_windows : FnA P w K mg base 1 "_law_windows" (spV K (fun a : (List Int) × Int => [.val ((rL rI) a.1), .val (rI a.2)]) F_law_windows (.cell (cL rI)))) (g_law_trend : FnA P w K mg base 1 "_law_trend" (spV K (fun a : (List Int) => [.val ((rL rI) a)]) F_law_trend (.val rI))) (g_law_records : FnA P w K mg base 1 "_law_records" (spV K (fun a : (List Int) => [.val ((rL rI) a)]) F_law_records (.cell (cL rI)))) (g_law_bounds : ∀ ds : List Int, FnA P w K mg base 3 "_law_bounds" (spB K (bxC ds) (fun a : (List Int) => [.val ((rL rI) a)]) (F_law_bounds ds) (.cell (cL rI)))) {f : Addr} {fd : FuncData} (Fn : Fun K "law" "law" s_law f fd) : FnOk P w K mg base CX0 9 f fd ["script"] (spV K (fun a : List Int => [.scr a]) F_law (.val rB)) := by
  refine fnVok (mf := m_law) (s0 := (0 : Int)) (ps := ["script"]) (on := fun (_ : Unit) _ => never) (ob := fun (_ : Unit) _ => never) Fn sc_law (fun cdv A outer s H E a hr => ?_) (fun a b h => run0_some h)
  exact (Ds.box (cl := fun a s => bxC a s) 1 0 (DL.boxinit (Fx.call g_law_digits (hr.mono (by decide)) (Ck.scr 0 (Ck.cons Dx.int (fun _ => (Ck.cons Dx.int (fun _ => Ck.nil))))))) (fun ds720 => (Ds.for' (oj := (fun (b724 : Unit) => (fun (s : Int) => ([.scr a, .own (bxC ds720 s), .un, .un, .un, .un, .un, .un, .un, .un, .un, .un, .un, .un, .un] : Sl)))) (b0 := ()) PassesOwn.never rfl (Ix.range1 T.range Dx.int) (Gx.name 2 sc_law.nd) (fun _ => .cons (.rfl _) (.cons (.rfl _) (.cons (.un _) (.cons (.un _) (.cons (.un _) (.cons (.un _) (.cons (.un _) (.cons (.un _) (.cons (.un _) (.cons (.un _) (.cons (.un _) (.cons (.un _) (.cons (.un _) (.cons (.un _) (.cons (.un _) (.nil)))))))))))))))) (fun b724 v725 => (Ds.new 3 (Fx.callB (bx := bxC ds720) none 1 (g_law_numbers ds720) (hr.mono (by decide)) Ck.nil) (fun numbers_727 => (Ds.new 4 (Fx.copy T.list (Bx.own (r := rI) (xs := numbers_727) 3)) (fun handed_729 => (Ds.le (δ' := (fun (s : Int) => ([.scr a, .own (bxC ds720 s), .val (rI v725), .own (cL rI numbers_727), .val ((rL rI) handed_729), .un, .un, .un, .un, .un, .un, .un, .un, .un, .un] : Sl))) (fun _ => .cons (.rfl _) (.cons (.rfl _) (.cons (.rfl _) (.cons (.rfl _) (.cons (.frz _) (.cons (.un _) (.cons (.un _) (.cons (.un _) (.cons (.un _) (.cons (.un _) (.cons (.un _) (.cons (.un _) (.cons (.un _) (.cons (.un _) (.cons (.un _) (.nil)))))))))))))))) (Ds.le (δ' := (fun (s : Int) => ([.scr a, .own (bxC ds720 s), .val (rI v725), .val ((rL rI) numbers_727), .val ((rL rI) handed_729), .un, .un, .un, .un, .un, .un, .un, .un, .un, .un] : Sl))) (fun _ => .cons (.rfl _) (.cons (.rfl _) (.cons (.rfl _) (.cons (.frz _) (.cons (.rfl _) (.cons (.un _) (.cons (.un _) (.cons (.un _) (.cons (.un _) (.cons (.un _) (.cons (.un _) (.cons (.un _) (.cons (.un _) (.cons (.un _) (.cons (.un _) (.nil)))))))))))))))) (Ds.ifx (Wx.tx (Wx.or (Tx.not (Tx.val (Dx.call (L := []) (g_law_same (rO (r2 rI rI))) (hr.mono (by decide)) (Ck.cons (Dx.call (L := []) g_median (hr.mono (by decide)) (Ck.cons (Dx.name (d := (rL rI)) 4) (fun _ => Ck.nil)) (Or.inl rfl)) (fun _ => (Ck.cons (Dx.call (L := []) g_law_middle (hr.mono (by decide)) (Ck.cons (Dx.name (d := (rL rI)) 3) (fun _ => Ck.nil)) (Or.inl rfl)) (fun _ => Ck.nil)))) (Or.inl rfl)))) (Wx.or1 (BxT.ne hr (Dx.list (Dx.name (d := (rL rI)) 4)) (Dx.list (Dx.name (d := (rL rI)) 3)))))) (Ds.ret Dx.bool (fun _ => .cons (.un _) (.cons (.un _) (.cons (.un _) (.cons (.un _) (.cons (.un _) (.cons (.un _) (.cons (.un _) (.cons (.un _) (.cons (.un _) (.cons (.un _) (.cons (.un _) (.cons (.un _) (.cons (.un _) (.cons (.un _) (.cons (.un _) (.nil))))))))))))))))) (Ds.new 5 (Fx.call g_law_ranks (hr.mono (by decide)) (Ck.cons (Dx.name (d := (rL rI)) 3) (fun _ => Ck.nil))) (fun ranks_747 => (Ds.new 6 (Fx.call g_ranked (hr.mono (by decide)) (Ck.cons (Dx.name (d := (rL rI)) 4) (fun _ => Ck.nil))) (fun told_750 => (Ds.ifx (Wx.tx (Wx.or (Tx.not (Tx.val (Dx.call (L := [6, 5]) (g_law_same (rL (r2 rI rI))) (hr.mono (by decide)) (Ck.lend 6 (Ck.lend 5 Ck.nil)) (Or.inr (fun b => by rfl))))) (Wx.or1 (BxT.ne hr (Dx.list (Dx.name (d := (rL rI)) 4)) (Dx.list (Dx.name (d := (rL rI)) 3)))))) (Ds.ret Dx.bool (fun _ => .cons (.un _) (.cons (.un _) (.cons (.un _) (.cons (.un _) (.cons (.un _) (.cons (.un _) (.cons (.un _) (.cons (.un _) (.cons (.un _) (.cons (.un _) (.cons (.un _) (.cons (.un _) (.cons (.un _) (.cons (.un _) (.cons (.un _) (.nil))))))))))))))))) (Ds.app 6 (xs := told_750) (Dx.tup (out := (fun p : (Int × Int) => ([rI p.1, rI p.2] : List D))) (Ak.cons Dx.int (fun _ => (Ak.cons Dx.int (fun _ => Ak.nil))))) (fun x760 => (Ds.ifx (Wx.tx (Wx.or (Tx.not (Tx.val (Dx.call (L := [5]) (g_law_same (rL (r2 rI rI))) (hr.mono (by decide)) (Ck.cons (Fx.list (Fx.call g_ranked (hr.mono (by decide)) (Ck.cons (Dx.name (d := (rL rI)) 4) (fun _ => Ck.nil)))) (fun _ => (Ck.lend 5 Ck.nil))) (Or.inr (fun b => by rfl))))) (Wx.or (Tx.not (Tx.val (Dx.call (L := []) (g_law_same (rO (r2 rI rI))) (hr.mono (by decide)) (Ck.cons (Dx.call (L := []) g_best_stretch (hr.mono (by decide)) (Ck.cons (Dx.name (d := (rL rI)) 4) (fun _ => Ck.nil)) (Or.inl rfl)) (fun _ => (Ck.cons (Dx.call (L := []) g_law_stretch (hr.mono (by decide)) (Ck.cons (Dx.name (d := (rL rI)) 3) (fun _ => Ck.nil)) (Or.inl rfl)) (fun _ => Ck.nil)))) (Or.inl rfl)))) (Wx.or1 (BxT.ne hr (Dx.list (Dx.name (d := (rL rI)) 4)) (Dx.list (Dx.name (d := (rL rI)) 3))))))) (Ds.ret Dx.bool (fun _ => .cons (.un _) (.cons (.un _) (.cons (.un _) (.cons (.un _) (.cons (.un _) (.cons (.un _) (.cons (.un _) (.cons (.un _) (.cons (.un _) (.cons (.un _) (.cons (.un _) (.cons (.un _) (.cons (.un _) (.cons (.un _) (.cons (.un _) (.nil))))))))))))))))) (Ds.ifx (Wx.tx (Wx.and (BxT.ne hr (Dx.list (Dx.name (d := (rL rI)) 3)) (Fx.bx (Fx.lst (r := rI) Ak.nil))) (Wx.and1 (Wx.tx (Wx.or (Tx.not (Tx.val (Dx.call (L := []) (g_law_same (r2 rI rI)) (hr.mono (by decide)) (Ck.cons (Dx.call (L := []) g_spread (hr.mono (by decide)) (Ck.cons (Dx.name (d := (rL rI)) 4) (fun _ => Ck.nil)) (Or.inl rfl)) (fun _ => (Ck.cons (Dx.call (L := []) g_law_square (hr.mono (by decide)) (Ck.cons (Dx.name (d := (rL rI)) 3) (fun _ => Ck.nil)) (Or.inl rfl)) (fun _ => Ck.nil)))) (Or.inl rfl)))) (Wx.or1 (BxT.ne hr (Dx.list (Dx.name (d := (rL rI)) 4)) (Dx.list (Dx.name (d := (rL rI)) 3))))))))) (Ds.ret Dx.bool (fun _ => .cons (.un _) (.cons (.un _) (.cons (.un _) (.cons (.un _) (.cons (.un _) (.cons (.un _) (.cons (.un _) (.cons (.un _) (.cons (.un _) (.cons (.un _) (.cons (.un _) (.cons (.un _) (.cons (.un _) (.cons (.un _) (.cons (.un _) (.nil))))))))))))))))) (Ds.for' (oj := (fun (b816 : Unit) => (fun (s : Int) => ([.scr a, .own (bxC ds720 s), .val (rI v725), .val ((rL rI) numbers_727), .val ((rL rI) handed_729), .own (cL (r2 rI rI) ranks_747), .own (cL (r2 rI rI) (told_750 ++ [x760])), .un, .un, .un, .un, .un, .un, .un, .un] : Sl)))) (b0 := ()) PassesOwn.never rfl (Ix.list (Dx.lx (Fx.list (Fx.lst (r := rI) (Ak.cons Dx.int (fun _ => (Ak.cons Dx.int (fun _ => (Ak.cons (Dx.add Dx.int (Dx.callB (bx := bxC ds720) none 1 (g_law_draw ds720) (hr.mono (by decide)) (Ck.cons Dx.int (fun _ => Ck.nil)))) (fun _ => (Ak.cons (Dx.add (Bx.len T.len (Dx.list (Dx.name (d := (rL rI)) 3))) Dx.int) (fun _ => Ak.nil)))))))))))) (Gx.name 7 sc_law.nd) (fun _ => .cons (.rfl _) (.cons (.rfl _) (.cons (.rfl _) (.cons (.rfl _) (.cons (.rfl _) (.cons (.rfl _) (.cons (.rfl _) (.cons (.un _) (.cons (.un _) (.cons (.un _) (.cons (.un _) (.cons (.un _) (.cons (.un _) (.cons (.un _) (.cons (.un _) (.nil)))))))))))))))) (fun b816 v817 => (Ds.ifx (Wx.tx (Wx.or (Tx.not (Tx.val (Dx.call (L := []) (g_law_same (rL rI)) (hr.mono (by decide)) (Ck.cons (Fx.list (Fx.call g_moving_most (hr.mono (by decide)) (Ck.cons (Dx.name (d := (rL rI)) 4) (fun _ => (Ck.cons (Dx.name (d := rI) 7) (fun _ => Ck.nil)))))) (fun _ => (Ck.cons (Fx.list (Fx.call g_law_windows (hr.mono (by decide)) (Ck.cons (Dx.name (d := (rL rI)) 3) (fun _ => (Ck.cons (Dx.name (d := rI) 7) (fun _ => Ck.nil)))))) (fun _ => Ck.nil)))) (Or.inl rfl)))) (Wx.or1 (BxT.ne hr (Dx.list (Dx.name (d := (rL rI)) 4)) (Dx.list (Dx.name (d := (rL rI)) 3)))))) (Ds.ret Dx.bool (fun _ => .cons (.un _) (.cons (.un _) (.cons (.un _) (.cons (.un _) (.cons (.un _) (.cons (.un _) (.cons (.un _) (.cons (.un _) (.cons (.un _) (.cons (.un _) (.cons (.un _) (.cons (.un _) (.cons (.un _) (.cons (.un _) (.cons (.un _) (.nil))))))))))))))))) (Ds.nil (g := ()) (fun _ => .cons (.rfl _) (.cons (.rfl _) (.cons (.rfl _) (.cons (.rfl _) (.cons (.rfl _) (.cons (.rfl _) (.cons (.rfl _) (.cons (.un _) (.cons (.un _) (.cons (.un _) (.cons (.un _) (.cons (.un _) (.cons (.un _) (.cons (.un _) (.cons (.un _) (.nil))))))))))))))))))) (fun b833 => (Ds.new 8 (Fx.call g_records (hr.mono (by decide)) (Ck.cons (Dx.name (d := (rL rI)) 4) (fun _ => Ck.nil))) (fun tops_836 => (Ds.ifx (Wx.tx (Wx.or (Tx.not (Tx.val (Dx.call (L := [8]) (g_law_same (rL rI)) (hr.mono (by decide)) (Ck.lend 8 (Ck.cons (Fx.list (Fx.call g_law_records (hr.mono (by decide)) (Ck.cons (Dx.name (d := (rL rI)) 3) (fun _ => Ck.nil)))) (fun _ => Ck.nil))) (Or.inr (fun b => by rfl))))) (Wx.or1 (BxT.ne hr (Dx.list (Dx.name (d := (rL rI)) 4)) (Dx.list (Dx.name (d := (rL rI)) 3)))))) (Ds.ret Dx.bool (fun _ => .cons (.un _) (.cons (.un _) (.cons (.un _) (.cons (.un _) (.cons (.un _) (.cons (.un _) (.cons (.un _) (.cons (.un _) (.cons (.un _) (.cons (.un _) (.cons (.un _) (.cons (.un _) (.cons (.un _) (.cons (.un _) (.cons (.un _) (.nil))))))))))))))))) (Ds.app 8 (xs := tops_836) Dx.int (fun x847 => (Ds.ifx (Wx.tx (Wx.or (Tx.not (Tx.val (Dx.call (L := []) (g_law_same (rL rI)) (hr.mono (by decide)) (Ck.cons (Fx.list (Fx.call g_records (hr.mono (by decide)) (Ck.cons (Dx.name (d := (rL rI)) 4) (fun _ => Ck.nil)))) (fun _ => (Ck.cons (Fx.list (Fx.call g_law_records (hr.mono (by decide)) (Ck.cons (Dx.name (d := (rL rI)) 3) (fun _ => Ck.nil)))) (fun _ => Ck.nil)))) (Or.inl rfl)))) (Wx.or (Tx.not (Tx.val (Dx.call (L := []) (g_law_same rI) (hr.mono (by decide)) (Ck.cons (Dx.call (L := []) g_trend (hr.mono (by decide)) (Ck.cons (Dx.name (d := (rL rI)) 4) (fun _ => Ck.nil)) (Or.inl rfl)) (fun _ => (Ck.cons (Dx.call (L := []) g_law_trend (hr.mono (by decide)) (Ck.cons (Dx.name (d := (rL rI)) 3) (fun _ => Ck.nil)) (Or.inl rfl)) (fun _ => Ck.nil)))) (Or.inl rfl)))) (Wx.or1 (BxT.ne hr (Dx.list (Dx.name (d := (rL rI)) 4)) (Dx.list (Dx.name (d := (rL rI)) 3))))))) (Ds.ret Dx.bool (fun _ => .cons (.un _) (.cons (.un _) (.cons (.un _) (.cons (.un _) (.cons (.un _) (.cons (.un _) (.cons (.un _) (.cons (.un _) (.cons (.un _) (.cons (.un _) (.cons (.un _) (.cons (.un _) (.cons (.un _) (.cons (.un _) (.cons (.un _) (.nil))))))))))))))))) (Ds.new 9 (Fx.callB (bx := bxC ds720) none 1 (g_law_bounds ds720) (hr.mono (by decide)) (Ck.cons (Dx.name (d := (rL rI)) 3) (fun _ => Ck.nil))) (fun bounds_872 => (Ds.new 10 (Fx.copy T.list (Bx.own (r := rI) (xs := bounds_872) 9)) (fun others_874 => (Ds.new 11 (Fx.cat (Fx.bx (Fx.cat (Fx.bx (Fx.lst (r := rI) (Ak.cons (Dx.sub (Bx.min rfl T.min (Fx.bx (Fx.cat (Fx.bx (Fx.cat (Dx.list (Dx.name (d := (rL rI)) 3)) (Bx.own (r := rI) (xs := bounds_872) 9))) (Fx.bx (Fx.lst (r := rI) (Ak.cons Dx.int (fun _ => Ak.nil))))))) Dx.int) (fun _ => Ak.nil)))) (Bx.own (r := rI) (xs := bounds_872) 9))) (Fx.bx (Fx.lst (r := rI) (Ak.cons (Dx.add (Bx.max rfl T.max (Fx.bx (Fx.cat (Fx.bx (Fx.cat (Dx.list (Dx.name (d := (rL rI)) 3)) (Bx.own (r := rI) (xs := bounds_872) 9))) (Fx.bx (Fx.lst (r := rI) (Ak.cons Dx.int (fun _ => Ak.nil))))))) Dx.int) (fun _ => Ak.nil))))) (fun edges_905 => (Ds.newW 12 (ps_c0 rfl sc_law.nd (blkOk_by (N := N_law) (sc := defScope s_law) (own := [("k", 13)]) (by decide +kernel))) (comp0 [("k", 13)] (Ix.range1 T.range (Dx.add (Bx.len T.len (Bx.own (r := rI) (xs := bounds_872) 9)) Dx.int)) (fun _ => (Gx.name 13 sc_law.nd)) (fun _ v910 => (Bx.len T.len (Fx.bx (FxW.fx (comp1 [("number", 14)] (Ix.list (Dx.lx (Dx.name (d := (rL rI)) 3))) (fun _ => (Gx.name 14 sc_law.nd)) (fun _ v912 => (Wx.tx (Wx.and (Tx.le (Bx.ix (Bx.own (r := rI) (xs := edges_905) 11) (Dx.name (d := rI) 13)) (Dx.name (d := rI) 14)) (Wx.and1 (Tx.lt (Dx.name (d := rI) 14) (Bx.ix (Bx.own (r := rI) (xs := edges_905) 11) (Dx.add (Dx.name (d := rI) 13) Dx.int))))))) (fun _ v912 => (Dx.name (d := rI) 14))) (pe_c1n rfl sc_law.nd (blkOk_by (N := N_law) (own := [("number", 14)]) (by decide +kernel)))))))) (fun due_926 => (Ds.le (δ' := (fun (s : Int) => ([.scr a, .own (bxC ds720 s), .val (rI v725), .val ((rL rI) numbers_727), .val ((rL rI) handed_729), .own (cL (r2 rI rI) ranks_747), .own (cL (r2 rI rI) (told_750 ++ [x760])), .un, .own (cL rI (tops_836 ++ [x847])), .own (cL rI bounds_872), .val ((rL rI) others_874), .own (cL rI edges_905), .own (cL rI due_926), .un, .un] : Sl))) (fun _ => .cons (.rfl _) (.cons (.rfl _) (.cons (.rfl _) (.cons (.rfl _) (.cons (.rfl _) (.cons (.rfl _) (.cons (.rfl _) (.cons (.un _) (.cons (.rfl _) (.cons (.rfl _) (.cons (.frz _) (.cons (.rfl _) (.cons (.rfl _) (.cons (.un _) (.cons (.un _) (.nil)))))))))))))))) (Ds.ifx (Wx.tx (Wx.or (Tx.not (Tx.val (Dx.call (L := [12]) (g_law_same (rL rI)) (hr.mono (by decide)) (Ck.cons (Fx.list (Fx.call g_by_class (hr.mono (by decide)) (Ck.cons (Dx.name (d := (rL rI)) 4) (fun _ => (Ck.cons (Dx.name (d := (rL rI)) 10) (fun _ => Ck.nil)))))) (fun _ => (Ck.lend 12 Ck.nil))) (Or.inr (fun b => by rfl))))) (Wx.or (BxT.ne hr (Dx.list (Dx.name (d := (rL rI)) 4)) (Dx.list (Dx.name (d := (rL rI)) 3))) (Wx.or1 (BxT.ne hr (Dx.list (Dx.name (d := (rL rI)) 10)) (Bx.own (r := rI) (xs := bounds_872) 9)))))) (Ds.ret Dx.bool (fun _ => .cons (.un _) (.cons (.un _) (.cons (.un _) (.cons (.un _) (.cons (.un _) (.cons (.un _) (.cons (.un _) (.cons (.un _) (.cons (.un _) (.cons (.un _) (.cons (.un _) (.cons (.un _) (.cons (.un _) (.cons (.un _) (.cons (.un _) (.nil))))))))))))))))) (Ds.nil (g := ()) (fun _ => .cons (.rfl _) (.cons (.rfl _) (.cons (.un _) (.cons (.un _) (.cons (.un _) (.cons (.un _) (.cons (.un _) (.cons (.un _) (.cons (.un _) (.cons (.un _) (.cons (.un _) (.cons (.un _) (.cons (.un _) (.cons (.un _) (.cons (.un _) (.nil)))))))))))))))))))))) sc_law.nd)) sc_law.nd)) sc_law.nd)))))) sc_law.nd))))))))) sc_law.nd)) sc_law.nd))))) sc_law.nd)) sc_law.nd)) (fun b943 => (Ds.ifx (Wx.tx (Wx.or (Tx.not (Tx.val (Dx.call (L := []) (g_law_same (rO (r2 rI rI))) (hr.mono (by decide)) (Ck.cons (Dx.call (L := []) g_median (hr.mono (by decide)) (Ck.cons (Fx.list (Fx.lst (r := rI) (Ak.cons Dx.int (fun _ => (Ak.cons Dx.int (fun _ => (Ak.cons Dx.int (fun _ => (Ak.cons Dx.int (fun _ => Ak.nil)))))))))) (fun _ => Ck.nil)) (Or.inl rfl)) (fun _ => (Ck.cons (Dx.someO (Dx.tup (out := (fun p : (Int × Int) => ([rI p.1, rI p.2] : List D))) (Ak.cons Dx.int (fun _ => (Ak.cons Dx.int (fun _ => Ak.nil)))))) (fun _ => Ck.nil)))) (Or.inl rfl)))) (Wx.or (Tx.notN (Dx.call (L := []) g_median (hr.mono (by decide)) (Ck.cons (Fx.list (Fx.lst (r := rI) Ak.nil)) (fun _ => Ck.nil)) (Or.inl rfl))) (Wx.or1 (Tx.not (Tx.val (Dx.call (L := []) (g_law_same (r2 rI rI)) (hr.mono (by decide)) (Ck.cons (Dx.call (L := []) g_spread (hr.mono (by decide)) (Ck.cons (Fx.list (Fx.lst (r := rI) (Ak.cons Dx.int (fun _ => (Ak.cons Dx.int (fun _ => (Ak.cons Dx.int (fun _ => Ak.nil)))))))) (fun _ => Ck.nil)) (Or.inl rfl)) (fun _ => (Ck.cons (Dx.tup (out := (fun p : (Int × Int) => ([rI p.1, rI p.2] : List D))) (Ak.cons Dx.int (fun _ => (Ak.cons Dx.int (fun _ => Ak.nil))))) (fun _ => Ck.nil)))) (Or.inl rfl)))))))) (Ds.ret Dx.bool (fun _ => .cons (.un _) (.cons (.un _) (.cons (.un _) (.cons (.un _) (.cons (.un _) (.cons (.un _) (.cons (.un _) (.cons (.un _) (.cons (.un _) (.cons (.un _) (.cons (.un _) (.cons (.un _) (.cons (.un _) (.cons (.un _) (.cons (.un _) (.nil))))))))))))))))) (Ds.ifx (Wx.tx (Wx.or (Tx.not (Tx.val (Dx.call (L := []) (g_law_same (rL (r2 rI rI))) (hr.mono (by decide)) (Ck.cons (Fx.list (Fx.call g_ranked (hr.mono (by decide)) (Ck.cons (Fx.list (Fx.lst (r := rI) (Ak.cons Dx.int (fun _ => (Ak.cons Dx.int (fun _ => (Ak.cons Dx.int (fun _ => Ak.nil)))))))) (fun _ => Ck.nil)))) (fun _ => (Ck.cons (Fx.list (Fx.lst (r := (r2 rI rI)) (Ak.cons (Dx.tup (out := (fun p : (Int × Int) => ([rI p.1, rI p.2] : List D))) (Ak.cons Dx.int (fun _ => (Ak.cons Dx.int (fun _ => Ak.nil))))) (fun _ => (Ak.cons (Dx.tup (out := (fun p : (Int × Int) => ([rI p.1, rI p.2] : List D))) (Ak.cons Dx.int (fun _ => (Ak.cons Dx.int (fun _ => Ak.nil))))) (fun _ => (Ak.cons (Dx.tup (out := (fun p : (Int × Int) => ([rI p.1, rI p.2] : List D))) (Ak.cons Dx.int (fun _ => (Ak.cons Dx.int (fun _ => Ak.nil))))) (fun _ => Ak.nil)))))))) (fun _ => Ck.nil)))) (Or.inl rfl)))) (Wx.or (Tx.not (Tx.val (Dx.call (L := []) (g_law_same (rO (r2 rI rI))) (hr.mono (by decide)) (Ck.cons (Dx.call (L := []) g_best_stretch (hr.mono (by decide)) (Ck.cons (Fx.list (Fx.lst (r := rI) (Ak.cons (Dx.neg Dx.int) (fun _ => (Ak.cons (Dx.neg Dx.int) (fun _ => (Ak.cons (Dx.neg Dx.int) (fun _ => Ak.nil)))))))) (fun _ => Ck.nil)) (Or.inl rfl)) (fun _ => (Ck.cons (Dx.someO (Dx.tup (out := (fun p : (Int × Int) => ([rI p.1, rI p.2] : List D))) (Ak.cons Dx.int (fun _ => (Ak.cons Dx.int (fun _ => Ak.nil)))))) (fun _ => Ck.nil)))) (Or.inl rfl)))) (Wx.or1 (Tx.notN (Dx.call (L := []) g_best_stretch (hr.mono (by decide)) (Ck.cons (Fx.list (Fx.lst (r := rI) Ak.nil)) (fun _ => Ck.nil)) (Or.inl rfl))))))) (Ds.ret Dx.bool (fun _ => .cons (.un _) (.cons (.un _) (.cons (.un _) (.cons (.un _) (.cons (.un _) (.cons (.un _) (.cons (.un _) (.cons (.un _) (.cons (.un _) (.cons (.un _) (.cons (.un _) (.cons (.un _) (.cons (.un _) (.cons (.un _) (.cons (.un _) (.nil))))))))))))))))) (Ds.ifx (Wx.tx (Wx.or (Tx.not (Tx.val (Dx.call (L := []) (g_law_same (rO (r2 rI rI))) (hr.mono (by decide)) (Ck.cons (Dx.call (L := []) g_best_stretch (hr.mono (by decide)) (Ck.cons (Fx.list (Fx.lst (r := rI) (Ak.cons Dx.int (fun _ => (Ak.cons (Dx.neg Dx.int) (fun _ => (Ak.cons Dx.int (fun _ => (Ak.cons Dx.int (fun _ => Ak.nil)))))))))) (fun _ => Ck.nil)) (Or.inl rfl)) (fun _ => (Ck.cons (Dx.someO (Dx.tup (out := (fun p : (Int × Int) => ([rI p.1, rI p.2] : List D))) (Ak.cons Dx.int (fun _ => (Ak.cons Dx.int (fun _ => Ak.nil)))))) (fun _ => Ck.nil)))) (Or.inl rfl)))) (Wx.or (Tx.not (Tx.val (Dx.call (L := []) (g_law_same (rL rI)) (hr.mono (by decide)) (Ck.cons (Fx.list (Fx.call g_moving_most (hr.mono (by decide)) (Ck.cons (Fx.list (Fx.lst (r := rI) (Ak.cons Dx.int (fun _ => (Ak.cons Dx.int (fun _ => (Ak.cons Dx.int (fun _ => Ak.nil)))))))) (fun _ => (Ck.cons Dx.int (fun _ => Ck.nil)))))) (fun _ => (Ck.cons (Fx.list (Fx.lst (r := rI) (Ak.cons Dx.int (fun _ => (Ak.cons Dx.int (fun _ => Ak.nil)))))) (fun _ => Ck.nil)))) (Or.inl rfl)))) (Wx.or1 (Tx.not (Tx.val (Dx.call (L := []) (g_law_same (rL rI)) (hr.mono (by decide)) (Ck.cons (Fx.list (Fx.call g_records (hr.mono (by decide)) (Ck.cons (Fx.list (Fx.lst (r := rI) (Ak.cons Dx.int (fun _ => (Ak.cons Dx.int (fun _ => (Ak.cons Dx.int (fun _ => Ak.nil)))))))) (fun _ => Ck.nil)))) (fun _ => (Ck.cons (Fx.list (Fx.lst (r := rI) (Ak.cons Dx.int (fun _ => (Ak.cons Dx.int (fun _ => Ak.nil)))))) (fun _ => Ck.nil)))) (Or.inl rfl)))))))) (Ds.ret Dx.bool (fun _ => .cons (.un _) (.cons (.un _) (.cons (.un _) (.cons (.un _) (.cons (.un _) (.cons (.un _) (.cons (.un _) (.cons (.un _) (.cons (.un _) (.cons (.un _) (.cons (.un _) (.cons (.un _) (.cons (.un _) (.cons (.un _) (.cons (.un _) (.nil))))))))))))))))) (Ds.ret (Dx.and (Dx.call (L := []) (g_law_same (rL rI)) (hr.mono (by decide)) (Ck.cons (Fx.list (Fx.call g_by_class (hr.mono (by decide)) (Ck.cons (Fx.list (Fx.lst (r := rI) (Ak.cons Dx.int (fun _ => (Ak.cons Dx.int (fun _ => (Ak.cons Dx.int (fun _ => (Ak.cons Dx.int (fun _ => Ak.nil)))))))))) (fun _ => (Ck.cons (Fx.list (Fx.lst (r := rI) (Ak.cons Dx.int (fun _ => (Ak.cons Dx.int (fun _ => Ak.nil)))))) (fun _ => Ck.nil)))))) (fun _ => (Ck.cons (Fx.list (Fx.lst (r := rI) (Ak.cons Dx.int (fun _ => (Ak.cons Dx.int (fun _ => (Ak.cons Dx.int (fun _ => Ak.nil)))))))) (fun _ => Ck.nil)))) (Or.inl rfl)) (Dx.and (Dx.call (L := []) (g_law_same (rL rI)) (hr.mono (by decide)) (Ck.cons (Fx.list (Fx.call g_by_class (hr.mono (by decide)) (Ck.cons (Fx.list (Fx.lst (r := rI) Ak.nil)) (fun _ => (Ck.cons (Fx.list (Fx.lst (r := rI) Ak.nil)) (fun _ => Ck.nil)))))) (fun _ => (Ck.cons (Fx.list (Fx.lst (r := rI) (Ak.cons Dx.int (fun _ => Ak.nil)))) (fun _ => Ck.nil)))) (Or.inl rfl)) (Dx.and1 (Dx.call (L := []) (g_law_same rI) (hr.mono (by decide)) (Ck.cons (Dx.call (L := []) g_trend (hr.mono (by decide)) (Ck.cons (Fx.list (Fx.lst (r := rI) (Ak.cons Dx.int (fun _ => (Ak.cons Dx.int (fun _ => (Ak.cons Dx.int (fun _ => Ak.nil)))))))) (fun _ => Ck.nil)) (Or.inl rfl)) (fun _ => (Ck.cons Dx.int (fun _ => Ck.nil)))) (Or.inl rfl))))) (fun _ => .cons (.un _) (.cons (.un _) (.cons (.un _) (.cons (.un _) (.cons (.un _) (.cons (.un _) (.cons (.un _) (.cons (.un _) (.cons (.un _) (.cons (.un _) (.cons (.un _) (.cons (.un _) (.cons (.un _) (.cons (.un _) (.cons (.un _) (.nil))))))))))))))))))))))) sc_law.nd)
theorem w_same_sc (T : Bi mg) {f : Addr} (cdv : Value) (A : Around) (outer : List Env) (s : Shared) (H : Hp) (E : XK) (n : Nat) (d : D) (ok : okD n d) (sc : (∀ ds, d ≠ .list ds) ∧ (∀ ds, d ≠ .tuple ds)) : ∃ m : Unit → Option (Fl Unit Unit Bool × Unit), Ds (cxOf CX0 P w K mg base N__law_same "_law_same" (defScope s__law_same) f cdv A outer s H E).nox (defBody s__law_same) (fun _ => slots N__law_same [.val d, .val d]) (fun _ _ => never) (fun _ _ => never) (fun _ => List.replicate N__law_same.length .un) (.val rB) m ∧ ∃ s', m () = some (.rt true, s') := by
  cases d with
  | none => exact ⟨_, (Ds.ifx (Tx.isNK (r := rK PyData.none) (b := true) (Dx.name (d := rK PyData.none) (a := ()) 1) (fun K G v a r => by cases r; rfl)) (Ds.ret (Dx.isNK (r := rK PyData.none) (b := true) (Dx.name (d := rK PyData.none) (a := ()) 0) (fun K G v a r => by cases r; rfl)) (fun _ => .cons (.un _) (.cons (.un _) (.cons (.un _) .nil)))) Ds.stuck), _, rfl⟩
  | bool b =>
    cases b with
    | true => exact ⟨_, (Ds.ifx (Tx.isNK (r := rK (PyData.bool true)) (b := false) (Dx.name (d := rK (PyData.bool true)) (a := ()) 1) (notN fun z => nomatch z)) Ds.stuck (Ds.ifx (Tx.isBK (r := rK (PyData.bool true)) (b := true) (Dx.name (d := rK (PyData.bool true)) (a := ()) 1) (fun K G v a r => by cases r; rfl)) (Ds.ret (Dx.isBK (r := rK (PyData.bool true)) (b := true) (Dx.name (d := rK (PyData.bool true)) (a := ()) 0) (fun K G v a r => by cases r; rfl)) (fun _ => .cons (.un _) (.cons (.un _) (.cons (.un _) .nil)))) Ds.stuck)), _, rfl⟩
    | false => exact ⟨_, (Ds.ifx (Tx.isNK (r := rK (PyData.bool false)) (b := false) (Dx.name (d := rK (PyData.bool false)) (a := ()) 1) (notN fun z => nomatch z)) Ds.stuck (Ds.ifx (Tx.isBK (r := rK (PyData.bool false)) (b := false) (Dx.name (d := rK (PyData.bool false)) (a := ()) 1) (notB fun z => nomatch z)) Ds.stuck (Ds.ifx (Tx.isBK (r := rK (PyData.bool false)) (b := true) (Dx.name (d := rK (PyData.bool false)) (a := ()) 1) (fun K G v a r => by cases r; rfl)) (Ds.ret (Dx.isBK (r := rK (PyData.bool false)) (b := true) (Dx.name (d := rK (PyData.bool false)) (a := ()) 0) (fun K G v a r => by cases r; rfl)) (fun _ => .cons (.un _) (.cons (.un _) (.cons (.un _) .nil)))) Ds.stuck))), _, rfl⟩
  | str x =>
    have ok : (reprText x).length ≤ sizeLine := by cases n <;> exact ok
    refine ⟨_, (Ds.ifx (Tx.isNK (r := rK (PyData.str x)) (b := false) (Dx.name (d := rK (PyData.str x)) (a := ()) 1) (notN fun z => nomatch z)) Ds.stuck (Ds.ifx (Tx.isBK (r := rK (PyData.str x)) (b := false) (Dx.name (d := rK (PyData.str x)) (a := ()) 1) (notB fun z => nomatch z)) Ds.stuck (Ds.ifx (Tx.isBK (r := rK (PyData.str x)) (b := false) (Dx.name (d := rK (PyData.str x)) (a := ()) 1) (notB fun z => nomatch z)) Ds.stuck
      (Ds.ifx (Tx.val (Dx.isinst (T := "str") (r := rK (PyData.str x)) (isT_ty (fun K G v _ => tyS K G v) (b := true) (by decide +kernel)) T.isinstance T.str (Dx.name (d := rK (PyData.str x)) (a := ()) 1) (by decide +kernel)))
        (Ds.ret (Dx.and (Dx.isinst (T := "str") (r := rK (PyData.str x)) (isT_ty (fun K G v _ => tyS K G v) (b := true) (by decide +kernel)) T.isinstance T.str (Dx.name (d := rK (PyData.str x)) (a := ()) 0) (by decide +kernel)) (Dx.and1 (Dx.eqS (Dx.reprS T.repr (Dx.name (d := rS) 0)) (Dx.reprS T.repr (Dx.name (d := rS) 1))))) (fun _ => .cons (.un _) (.cons (.un _) (.cons (.un _) .nil)))) Ds.stuck)))), (), ?_⟩
    simp only [bdp, if_pos ok, lfp, decide_true, if_true, if_false, Bool.false_eq_true, Bool.not_false, pua]
  | int x =>
    have ok : x.natAbs.log2 < 1920 := by cases n <;> exact ok
    refine ⟨_, (Ds.ifx (Tx.isNK (r := rK (PyData.int x)) (b := false) (Dx.name (d := rK (PyData.int x)) (a := ()) 1) (notN fun z => nomatch z)) Ds.stuck (Ds.ifx (Tx.isBK (r := rK (PyData.int x)) (b := false) (Dx.name (d := rK (PyData.int x)) (a := ()) 1) (notB fun z => nomatch z)) Ds.stuck (Ds.ifx (Tx.isBK (r := rK (PyData.int x)) (b := false) (Dx.name (d := rK (PyData.int x)) (a := ()) 1) (notB fun z => nomatch z)) Ds.stuck
      (Ds.ifx (Tx.val (Dx.isinst (T := "str") (r := rK (PyData.int x)) (isT_ty (fun K G v _ => tyI K G v) (b := false) (by decide +kernel)) T.isinstance T.str (Dx.name (d := rK (PyData.int x)) (a := ()) 1) (by decide +kernel))) Ds.stuck
      (Ds.ifx (Tx.val (Dx.isinst (T := "int") (r := rK (PyData.int x)) (isT_ty (fun K G v _ => tyI K G v) (b := true) (by decide +kernel)) T.isinstance T.int (Dx.name (d := rK (PyData.int x)) (a := ()) 1) (by decide +kernel)))
        (Ds.ret (Dx.and (Dx.isinst (T := "int") (r := rK (PyData.int x)) (isT_ty (fun K G v _ => tyI K G v) (b := true) (by decide +kernel)) T.isinstance T.int (Dx.name (d := rK (PyData.int x)) (a := ()) 0) (by decide +kernel)) (Dx.and (Dx.not (Dx.isinst (T := "bool") (r := rK (PyData.int x)) (isT_ty (fun K G v _ => tyI K G v) (b := false) (by decide +kernel)) T.isinstance T.bool (Dx.name (d := rK (PyData.int x)) (a := ()) 0) (by decide +kernel))) (Dx.and1 (Dx.eqS (Dx.reprI T.repr (Dx.name (d := rI) 0)) (Dx.reprI T.repr (Dx.name (d := rI) 1)))))) (fun _ => .cons (.un _) (.cons (.un _) (.cons (.un _) .nil)))) Ds.stuck))))), (), ?_⟩
    simp only [bdp, if_pos ok, lfp, decide_true, if_true, if_false, Bool.false_eq_true, Bool.not_false, pua]
  | list ds => exact absurd rfl (sc.1 ds)
  | tuple ds => exact absurd rfl (sc.2 ds)
  | dict kv => cases n <;> exact ok.elim
theorem w_same_sq (T : Bi mg) {f : Addr} (cdv : Value) (A : Around) (outer : List Env) (s : Shared) (H : Hp) (E : XK) (n k : Nat) (hr : Room k (A.deeper (PyProof.Rows.envOfC "_law_same" (defScope s__law_same) s.heap.objs.size f cdv))) (ih : FnA P w K mg base k "_law_same" (spV K (fun p : D × D => [.val p.1, .val p.2]) (F2 n) (.val rB))) (d : D) (ds : List D) (hd : d = .list ds ∨ d = .tuple ds) (hl : ds.length ≤ big) (ok : ∀ d ∈ ds, okD n d)
    (b1 b2 : Bool) (k1 : IsT (rK d) "tuple" b1) (k2 : IsT (rK d) "list" b2) (k3 : IsT (rK d) "str" false) (k4 : IsT (rK d) "int" false) (k5 : d ≠ .none) (k6 : ∀ z, d ≠ .bool z) : ∃ m : Unit → Option (Fl Unit Unit Bool × Unit), Ds (cxOf CX0 P w K mg base N__law_same "_law_same" (defScope s__law_same) f cdv A outer s H E).nox (defBody s__law_same) (fun _ => slots N__law_same [.val d, .val d]) (fun _ _ => never) (fun _ _ => never) (fun _ => List.replicate N__law_same.length .un) (.val rB) m ∧ ∃ s', m () = some (.rt true, s') := by
  refine ⟨_, (Ds.ifx (Tx.isNK (r := rK d) (b := false) (Dx.name (d := rK d) (a := ()) 1) (notN k5)) Ds.stuck (Ds.ifx (Tx.isBK (r := rK d) (b := false) (Dx.name (d := rK d) (a := ()) 1) (notB (k6 true))) Ds.stuck (Ds.ifx (Tx.isBK (r := rK d) (b := false) (Dx.name (d := rK d) (a := ()) 1) (notB (k6 false))) Ds.stuck
      (Ds.ifx (Tx.val (Dx.isinst (T := "str") k3 T.isinstance T.str (Dx.name (d := rK d) (a := ()) 1) (by decide +kernel))) Ds.stuck
      (Ds.ifx (Tx.val (Dx.isinst (T := "int") k4 T.isinstance T.int (Dx.name (d := rK d) (a := ()) 1) (by decide +kernel))) Ds.stuck
      (Ds.ifx (Wx.tx (Wx.or (Wx.tx (Wx.and (Tx.val (Dx.isinst (T := "tuple") k1 T.isinstance T.tuple (Dx.name (d := rK d) (a := ()) 1) (by decide +kernel))) (Wx.and1 (Tx.not (Tx.val (Dx.isinst (T := "tuple") k1 T.isinstance T.tuple (Dx.name (d := rK d) (a := ()) 0) (by decide +kernel))))))) (Wx.or1 (Wx.tx (Wx.and (Tx.val (Dx.isinst (T := "list") k2 T.isinstance T.list (Dx.name (d := rK d) (a := ()) 1) (by decide +kernel))) (Wx.and1 (Tx.not (Tx.val (Dx.isinst (T := "list") k2 T.isinstance T.list (Dx.name (d := rK d) (a := ()) 0) (by decide +kernel)))))))))) Ds.stuck
      (Ds.ifx (Tx.ne hr (Dx.lenK hd T.len (Dx.name (d := rK d) (a := ()) 0)) (Dx.lenK hd T.len (Dx.name (d := rK d) (a := ()) 1))) Ds.stuck
      (Ds.for' (oj := (fun (_ : Unit) => (fun (_ : Unit) => ([.val d, .val d, .un] : Sl)))) (b0 := ()) PassesOwn.never rfl (Ix.range1 T.range (Dx.lenK hd T.len (Dx.name (d := rK d) (a := ()) 1))) (Gx.name 2 sc__law_same.nd) (fun _ => .cons (.rfl _) (.cons (.rfl _) (.cons (.un _) .nil))) (fun _ v =>
        Ds.ife (Tx.not (Tx.val (Dx.call (L := []) ih (hr.mono (Nat.le_refl _)) (Ck.cons (Dx.ixD hd (Dx.name (d := rK d) (a := ()) 0) (Dx.name (d := rI) 2)) fun a => Ck.cons (Dx.ixD hd (Dx.name (d := rK d) (a := ()) 1) (Dx.name (d := rI) 2)) fun b => Ck.nil (g := (a, b))) (.inl rfl)))) (Ds.ret Dx.bool (fun _ => .cons (.un _) (.cons (.un _) (.cons (.un _) .nil)))) (Ds.nil (g := ()) (fun _ => .cons (.rfl _) (.cons (.rfl _) (.cons (.un _) .nil)))))
        (fun _ => Ds.ret Dx.bool (fun _ => .cons (.un _) (.cons (.un _) (.cons (.un _) .nil)))))))))))), (), ?_⟩
  have e2 := fun x hx => same_run ok x hx
  have hs : (if b1 = true then bd (bd (pu ()) fun _ => pu b1) fun b => pu (!b) else pu false : Unit → Option (Bool × Unit)) = pu false := by cases b1 <;> rfl
  cases b1 <;> cases b2 <;> simp only [bdp, rngO_len hl, lfp, decide_true, if_true, if_false, Bool.false_eq_true, Bool.not_false, Bool.not_true] <;> exact same_loop ok _ (fun x hx => by
    have e := e2 x hx
    simp only [bdp] at e
    refine (bd_at e).trans ?_
    simp only [if_false, Bool.false_eq_true, pua]) _
theorem w_law_same_n (T : Bi mg) {f : Addr} {fd : FuncData} (Fn : Fun K "_law_same" "_law_same" s__law_same f fd) (hx : mg "_law_same" = some (.ref f)) : ∀ n : Nat, FnA P w K mg base (n + 1) "_law_same" (spV K (fun p : D × D => [.val p.1, .val p.2]) (F2 n) (.val rB)) := by
  intro n
  induction n with
  | zero =>
    refine fnE (γ := Unit) (β := Unit) (on := fun _ _ => never) (ob := fun _ _ => never) (s0 := ()) (ps := ["told", "due"]) Fn sc__law_same hx (Fn.binds fun _ _ _ _ _ _ us hl => match us, hl with | [_, _], _ => rfl) (fun cdv A outer s H E a b hab hr => ?_)
    obtain ⟨d, rfl, rfl, ok⟩ := F2_some hab
    exact w_same_sc T cdv A outer s H E 0 d ok ⟨fun ds z => by subst z; exact ok, fun ds z => by subst z; exact ok⟩
  | succ n ih =>
    refine fnE (γ := Unit) (β := Unit) (on := fun _ _ => never) (ob := fun _ _ => never) (s0 := ()) (ps := ["told", "due"]) Fn sc__law_same hx (Fn.binds fun _ _ _ _ _ _ us hl => match us, hl with | [_, _], _ => rfl) (fun cdv A outer s H E a b hab hr => ?_)
    obtain ⟨d, rfl, rfl, ok⟩ := F2_some hab
    by_cases h1 : ∃ ds, d = .list ds
    · obtain ⟨ds, rfl⟩ := h1
      exact w_same_sq T cdv A outer s H E n _ hr ih _ ds (.inl rfl) ok.1 ok.2 false true (isT_ty (fun K G v _ => tyL K G v) (by decide +kernel)) (isT_ty (fun K G v _ => tyL K G v) (by decide +kernel)) (isT_ty (fun K G v _ => tyL K G v) (by decide +kernel)) (isT_ty (fun K G v _ => tyL K G v) (by decide +kernel)) (fun z => nomatch z) (fun _ z => nomatch z)
    · by_cases h2 : ∃ ds, d = .tuple ds
      · obtain ⟨ds, rfl⟩ := h2
        exact w_same_sq T cdv A outer s H E n _ hr ih _ ds (.inr rfl) ok.1 ok.2 true false (isT_ty (fun K G v _ => tyT K G v) (by decide +kernel)) (isT_ty (fun K G v _ => tyT K G v) (by decide +kernel)) (isT_ty (fun K G v _ => tyT K G v) (by decide +kernel)) (isT_ty (fun K G v _ => tyT K G v) (by decide +kernel)) (fun z => nomatch z) (fun _ z => nomatch z)
      · exact w_same_sc T cdv A outer s H E (n + 1) d ok ⟨fun ds z => h1 ⟨ds, z⟩, fun ds z => h2 ⟨ds, z⟩⟩
theorem w_law_same (T : Bi mg) {f : Addr} {fd : FuncData} (Fn : Fun K "_law_same" "_law_same" s__law_same f fd) (hx : mg "_law_same" = some (.ref f)) {α : Type} (r : α → D) : FnA P w K mg base 8 "_law_same" (spV K (fun a : α × α => [.val (r a.1), .val (r a.2)]) (F_law_same r) (.val rB)) := by
  refine (w_law_same_n T Fn hx 7).imp fun vs H Q E h => ?_
  obtain ⟨O, a, b, h1, h2, h3, h4⟩ := h
  exact ⟨O, (r a.1, r a.2), b, h1, h2, h3, h4⟩
end

theorem all_mk {l : PySem.W.OpenLaw} {w : World} {K : Frag} {h : Heap} {mg : Str → Option Value} {fa : Addr} (hlaw : ∀ ns : List Int, ns.length ≤ 63 → F_law ns = some true) (X : K.In h) (G : h.Ns mainGlobals mg) (hfa : mg "law" = some (.ref fa))
    {f0 : Addr} {od0 an0 : Option Addr} {sl0 : Array (Option Value)} {oc0 kV0 dc0 pm0 cd0 ct0 : Value} (a0 : PySem.W.nsIn K mainGlobals "fraction" = some (some (.ref f0))) (l0 : K.lookup f0 = some ⟨oc0, od0, .func (PySem.W.fnOf "fraction" "fraction" (defArgs s_fraction) (defBody s_fraction) (defScope s_fraction) .none kV0 dc0 pm0 an0 cd0 ct0), sl0⟩) (c0 : PySem.W.codeIn K cd0 "fraction" = true) (k0 : PySem.W.keepIn K (.ref f0) = true)
    {f1 : Addr} {od1 an1 : Option Addr} {sl1 : Array (Option Value)} {oc1 kV1 dc1 pm1 cd1 ct1 : Value} (a1 : PySem.W.nsIn K mainGlobals "median" = some (some (.ref f1))) (l1 : K.lookup f1 = some ⟨oc1, od1, .func (PySem.W.fnOf "median" "median" (defArgs s_median) (defBody s_median) (defScope s_median) .none kV1 dc1 pm1 an1 cd1 ct1), sl1⟩) (c1 : PySem.W.codeIn K cd1 "median" = true) (k1 : PySem.W.keepIn K (.ref f1) = true)
    {f2 : Addr} {od2 an2 : Option Addr} {sl2 : Array (Option Value)} {oc2 kV2 dc2 pm2 cd2 ct2 : Value} (a2 : PySem.W.nsIn K mainGlobals "spread" = some (some (.ref f2))) (l2 : K.lookup f2 = some ⟨oc2, od2, .func (PySem.W.fnOf "spread" "spread" (defArgs s_spread) (defBody s_spread) (defScope s_spread) .none kV2 dc2 pm2 an2 cd2 ct2), sl2⟩) (c2 : PySem.W.codeIn K cd2 "spread" = true) (k2 : PySem.W.keepIn K (.ref f2) = true)
    {f3 : Addr} {od3 an3 : Option Addr} {sl3 : Array (Option Value)} {oc3 kV3 dc3 pm3 cd3 ct3 : Value} (a3 : PySem.W.nsIn K mainGlobals "ranked" = some (some (.ref f3))) (l3 : K.lookup f3 = some ⟨oc3, od3, .func (PySem.W.fnOf "ranked" "ranked" (defArgs s_ranked) (defBody s_ranked) (defScope s_ranked) .none kV3 dc3 pm3 an3 cd3 ct3), sl3⟩) (c3 : PySem.W.codeIn K cd3 "ranked" = true) (k3 : PySem.W.keepIn K (.ref f3) = true)
    {f4 : Addr} {od4 an4 : Option Addr} {sl4 : Array (Option Value)} {oc4 kV4 dc4 pm4 cd4 ct4 : Value} (a4 : PySem.W.nsIn K mainGlobals "moving_most" = some (some (.ref f4))) (l4 : K.lookup f4 = some ⟨oc4, od4, .func (PySem.W.fnOf "moving_most" "moving_most" (defArgs s_moving_most) (defBody s_moving_most) (defScope s_moving_most) .none kV4 dc4 pm4 an4 cd4 ct4), sl4⟩) (c4 : PySem.W.codeIn K cd4 "moving_most" = true) (k4 : PySem.W.keepIn K (.ref f4) = true)
    {f5 : Addr} {od5 an5 : Option Addr} {sl5 : Array (Option Value)} {oc5 kV5 dc5 pm5 cd5 ct5 : Value} (a5 : PySem.W.nsIn K mainGlobals "best_stretch" = some (some (.ref f5))) (l5 : K.lookup f5 = some ⟨oc5, od5, .func (PySem.W.fnOf "best_stretch" "best_stretch" (defArgs s_best_stretch) (defBody s_best_stretch) (defScope s_best_stretch) .none kV5 dc5 pm5 an5 cd5 ct5), sl5⟩) (c5 : PySem.W.codeIn K cd5 "best_stretch" = true) (k5 : PySem.W.keepIn K (.ref f5) = true)
    {f6 : Addr} {od6 an6 : Option Addr} {sl6 : Array (Option Value)} {oc6 kV6 dc6 pm6 cd6 ct6 : Value} (a6 : PySem.W.nsIn K mainGlobals "records" = some (some (.ref f6))) (l6 : K.lookup f6 = some ⟨oc6, od6, .func (PySem.W.fnOf "records" "records" (defArgs s_records) (defBody s_records) (defScope s_records) .none kV6 dc6 pm6 an6 cd6 ct6), sl6⟩) (c6 : PySem.W.codeIn K cd6 "records" = true) (k6 : PySem.W.keepIn K (.ref f6) = true)
    {f7 : Addr} {od7 an7 : Option Addr} {sl7 : Array (Option Value)} {oc7 kV7 dc7 pm7 cd7 ct7 : Value} (a7 : PySem.W.nsIn K mainGlobals "trend" = some (some (.ref f7))) (l7 : K.lookup f7 = some ⟨oc7, od7, .func (PySem.W.fnOf "trend" "trend" (defArgs s_trend) (defBody s_trend) (defScope s_trend) .none kV7 dc7 pm7 an7 cd7 ct7), sl7⟩) (c7 : PySem.W.codeIn K cd7 "trend" = true) (k7 : PySem.W.keepIn K (.ref f7) = true)
    {f8 : Addr} {od8 an8 : Option Addr} {sl8 : Array (Option Value)} {oc8 kV8 dc8 pm8 cd8 ct8 : Value} (a8 : PySem.W.nsIn K mainGlobals "by_class" = some (some (.ref f8))) (l8 : K.lookup f8 = some ⟨oc8, od8, .func (PySem.W.fnOf "by_class" "by_class" (defArgs s_by_class) (defBody s_by_class) (defScope s_by_class) .none kV8 dc8 pm8 an8 cd8 ct8), sl8⟩) (c8 : PySem.W.codeIn K cd8 "by_class" = true) (k8 : PySem.W.keepIn K (.ref f8) = true)
    {f9 : Addr} {od9 an9 : Option Addr} {sl9 : Array (Option Value)} {oc9 kV9 dc9 pm9 cd9 ct9 : Value} (a9 : PySem.W.nsIn K mainGlobals "_law_cell" = some (some (.ref f9))) (l9 : K.lookup f9 = some ⟨oc9, od9, .func (PySem.W.fnOf "_law_cell" "_law_cell" (defArgs s__law_cell) (defBody s__law_cell) (defScope s__law_cell) .none kV9 dc9 pm9 an9 cd9 ct9), sl9⟩) (c9 : PySem.W.codeIn K cd9 "_law_cell" = true) (k9 : PySem.W.keepIn K (.ref f9) = true)
    {f10 : Addr} {od10 an10 : Option Addr} {sl10 : Array (Option Value)} {oc10 kV10 dc10 pm10 cd10 ct10 : Value} (a10 : PySem.W.nsIn K mainGlobals "_law_digits" = some (some (.ref f10))) (l10 : K.lookup f10 = some ⟨oc10, od10, .func (PySem.W.fnOf "_law_digits" "_law_digits" (defArgs s__law_digits) (defBody s__law_digits) (defScope s__law_digits) .none kV10 dc10 pm10 an10 cd10 ct10), sl10⟩) (c10 : PySem.W.codeIn K cd10 "_law_digits" = true) (k10 : PySem.W.keepIn K (.ref f10) = true)
    {f11 : Addr} {od11 an11 : Option Addr} {sl11 : Array (Option Value)} {oc11 kV11 dc11 pm11 cd11 ct11 : Value} (a11 : PySem.W.nsIn K mainGlobals "_law_draw" = some (some (.ref f11))) (l11 : K.lookup f11 = some ⟨oc11, od11, .func (PySem.W.fnOf "_law_draw" "_law_draw" (defArgs s__law_draw) (defBody s__law_draw) (defScope s__law_draw) .none kV11 dc11 pm11 an11 cd11 ct11), sl11⟩) (c11 : PySem.W.codeIn K cd11 "_law_draw" = true) (k11 : PySem.W.keepIn K (.ref f11) = true)
    {f12 : Addr} {od12 an12 : Option Addr} {sl12 : Array (Option Value)} {oc12 kV12 dc12 pm12 cd12 ct12 : Value} (a12 : PySem.W.nsIn K mainGlobals "_law_pick" = some (some (.ref f12))) (l12 : K.lookup f12 = some ⟨oc12, od12, .func (PySem.W.fnOf "_law_pick" "_law_pick" (defArgs s__law_pick) (defBody s__law_pick) (defScope s__law_pick) .none kV12 dc12 pm12 an12 cd12 ct12), sl12⟩) (c12 : PySem.W.codeIn K cd12 "_law_pick" = true) (k12 : PySem.W.keepIn K (.ref f12) = true)
    {f13 : Addr} {od13 an13 : Option Addr} {sl13 : Array (Option Value)} {oc13 kV13 dc13 pm13 cd13 ct13 : Value} (a13 : PySem.W.nsIn K mainGlobals "_law_same" = some (some (.ref f13))) (l13 : K.lookup f13 = some ⟨oc13, od13, .func (PySem.W.fnOf "_law_same" "_law_same" (defArgs s__law_same) (defBody s__law_same) (defScope s__law_same) .none kV13 dc13 pm13 an13 cd13 ct13), sl13⟩) (c13 : PySem.W.codeIn K cd13 "_law_same" = true) (k13 : PySem.W.keepIn K (.ref f13) = true)
    {f14 : Addr} {od14 an14 : Option Addr} {sl14 : Array (Option Value)} {oc14 kV14 dc14 pm14 cd14 ct14 : Value} (a14 : PySem.W.nsIn K mainGlobals "_law_low" = some (some (.ref f14))) (l14 : K.lookup f14 = some ⟨oc14, od14, .func (PySem.W.fnOf "_law_low" "_law_low" (defArgs s__law_low) (defBody s__law_low) (defScope s__law_low) .none kV14 dc14 pm14 an14 cd14 ct14), sl14⟩) (c14 : PySem.W.codeIn K cd14 "_law_low" = true) (k14 : PySem.W.keepIn K (.ref f14) = true)
    {f15 : Addr} {od15 an15 : Option Addr} {sl15 : Array (Option Value)} {oc15 kV15 dc15 pm15 cd15 ct15 : Value} (a15 : PySem.W.nsIn K mainGlobals "_law_numbers" = some (some (.ref f15))) (l15 : K.lookup f15 = some ⟨oc15, od15, .func (PySem.W.fnOf "_law_numbers" "_law_numbers" (defArgs s__law_numbers) (defBody s__law_numbers) (defScope s__law_numbers) .none kV15 dc15 pm15 an15 cd15 ct15), sl15⟩) (c15 : PySem.W.codeIn K cd15 "_law_numbers" = true) (k15 : PySem.W.keepIn K (.ref f15) = true)
    {f16 : Addr} {od16 an16 : Option Addr} {sl16 : Array (Option Value)} {oc16 kV16 dc16 pm16 cd16 ct16 : Value} (a16 : PySem.W.nsIn K mainGlobals "_law_middle" = some (some (.ref f16))) (l16 : K.lookup f16 = some ⟨oc16, od16, .func (PySem.W.fnOf "_law_middle" "_law_middle" (defArgs s__law_middle) (defBody s__law_middle) (defScope s__law_middle) .none kV16 dc16 pm16 an16 cd16 ct16), sl16⟩) (c16 : PySem.W.codeIn K cd16 "_law_middle" = true) (k16 : PySem.W.keepIn K (.ref f16) = true)
    {f17 : Addr} {od17 an17 : Option Addr} {sl17 : Array (Option Value)} {oc17 kV17 dc17 pm17 cd17 ct17 : Value} (a17 : PySem.W.nsIn K mainGlobals "_law_square" = some (some (.ref f17))) (l17 : K.lookup f17 = some ⟨oc17, od17, .func (PySem.W.fnOf "_law_square" "_law_square" (defArgs s__law_square) (defBody s__law_square) (defScope s__law_square) .none kV17 dc17 pm17 an17 cd17 ct17), sl17⟩) (c17 : PySem.W.codeIn K cd17 "_law_square" = true) (k17 : PySem.W.keepIn K (.ref f17) = true)
    {f18 : Addr} {od18 an18 : Option Addr} {sl18 : Array (Option Value)} {oc18 kV18 dc18 pm18 cd18 ct18 : Value} (a18 : PySem.W.nsIn K mainGlobals "_law_ranks" = some (some (.ref f18))) (l18 : K.lookup f18 = some ⟨oc18, od18, .func (PySem.W.fnOf "_law_ranks" "_law_ranks" (defArgs s__law_ranks) (defBody s__law_ranks) (defScope s__law_ranks) .none kV18 dc18 pm18 an18 cd18 ct18), sl18⟩) (c18 : PySem.W.codeIn K cd18 "_law_ranks" = true) (k18 : PySem.W.keepIn K (.ref f18) = true)
    {f19 : Addr} {od19 an19 : Option Addr} {sl19 : Array (Option Value)} {oc19 kV19 dc19 pm19 cd19 ct19 : Value} (a19 : PySem.W.nsIn K mainGlobals "_law_stretch" = some (some (.ref f19))) (l19 : K.lookup f19 = some ⟨oc19, od19, .func (PySem.W.fnOf "_law_stretch" "_law_stretch" (defArgs s__law_stretch) (defBody s__law_stretch) (defScope s__law_stretch) .none kV19 dc19 pm19 an19 cd19 ct19), sl19⟩) (c19 : PySem.W.codeIn K cd19 "_law_stretch" = true) (k19 : PySem.W.keepIn K (.ref f19) = true)
    {f20 : Addr} {od20 an20 : Option Addr} {sl20 : Array (Option Value)} {oc20 kV20 dc20 pm20 cd20 ct20 : Value} (a20 : PySem.W.nsIn K mainGlobals "_law_windows" = some (some (.ref f20))) (l20 : K.lookup f20 = some ⟨oc20, od20, .func (PySem.W.fnOf "_law_windows" "_law_windows" (defArgs s__law_windows) (defBody s__law_windows) (defScope s__law_windows) .none kV20 dc20 pm20 an20 cd20 ct20), sl20⟩) (c20 : PySem.W.codeIn K cd20 "_law_windows" = true) (k20 : PySem.W.keepIn K (.ref f20) = true)
    {f21 : Addr} {od21 an21 : Option Addr} {sl21 : Array (Option Value)} {oc21 kV21 dc21 pm21 cd21 ct21 : Value} (a21 : PySem.W.nsIn K mainGlobals "_law_trend" = some (some (.ref f21))) (l21 : K.lookup f21 = some ⟨oc21, od21, .func (PySem.W.fnOf "_law_trend" "_law_trend" (defArgs s__law_trend) (defBody s__law_trend) (defScope s__law_trend) .none kV21 dc21 pm21 an21 cd21 ct21), sl21⟩) (c21 : PySem.W.codeIn K cd21 "_law_trend" = true) (k21 : PySem.W.keepIn K (.ref f21) = true)
    {f22 : Addr} {od22 an22 : Option Addr} {sl22 : Array (Option Value)} {oc22 kV22 dc22 pm22 cd22 ct22 : Value} (a22 : PySem.W.nsIn K mainGlobals "_law_records" = some (some (.ref f22))) (l22 : K.lookup f22 = some ⟨oc22, od22, .func (PySem.W.fnOf "_law_records" "_law_records" (defArgs s__law_records) (defBody s__law_records) (defScope s__law_records) .none kV22 dc22 pm22 an22 cd22 ct22), sl22⟩) (c22 : PySem.W.codeIn K cd22 "_law_records" = true) (k22 : PySem.W.keepIn K (.ref f22) = true)
    {f23 : Addr} {od23 an23 : Option Addr} {sl23 : Array (Option Value)} {oc23 kV23 dc23 pm23 cd23 ct23 : Value} (a23 : PySem.W.nsIn K mainGlobals "_law_bounds" = some (some (.ref f23))) (l23 : K.lookup f23 = some ⟨oc23, od23, .func (PySem.W.fnOf "_law_bounds" "_law_bounds" (defArgs s__law_bounds) (defBody s__law_bounds) (defScope s__law_bounds) .none kV23 dc23 pm23 an23 cd23 ct23), sl23⟩) (c23 : PySem.W.codeIn K cd23 "_law_bounds" = true) (k23 : PySem.W.keepIn K (.ref f23) = true)
    {f24 : Addr} {od24 an24 : Option Addr} {sl24 : Array (Option Value)} {oc24 kV24 dc24 pm24 cd24 ct24 : Value} (a24 : PySem.W.nsIn K mainGlobals "law" = some (some (.ref f24))) (l24 : K.lookup f24 = some ⟨oc24, od24, .func (PySem.W.fnOf "law" "law" (defArgs s_law) (defBody s_law) (defScope s_law) .none kV24 dc24 pm24 an24 cd24 ct24), sl24⟩) (c24 : PySem.W.codeIn K cd24 "law" = true) (k24 : PySem.W.keepIn K (.ref f24) = true)
    (z_abs : PySem.W.nsIn K mainGlobals "abs" = some none)
    (z_all : PySem.W.nsIn K mainGlobals "all" = some none)
    (z_bool : PySem.W.nsIn K mainGlobals "bool" = some none)
    (z_enumerate : PySem.W.nsIn K mainGlobals "enumerate" = some none)
    (z_gcd : PySem.W.nsIn K mainGlobals "gcd" = some (some (.builtin "math.gcd")))
    (z_int : PySem.W.nsIn K mainGlobals "int" = some none)
    (z_isinstance : PySem.W.nsIn K mainGlobals "isinstance" = some none)
    (z_len : PySem.W.nsIn K mainGlobals "len" = some none)
    (z_list : PySem.W.nsIn K mainGlobals "list" = some none)
    (z_max : PySem.W.nsIn K mainGlobals "max" = some none)
    (z_min : PySem.W.nsIn K mainGlobals "min" = some none)
    (z_range : PySem.W.nsIn K mainGlobals "range" = some none)
    (z_repr : PySem.W.nsIn K mainGlobals "repr" = some none)
    (z_sorted : PySem.W.nsIn K mainGlobals "sorted" = some none)
    (z_str : PySem.W.nsIn K mainGlobals "str" = some none)
    (z_sum : PySem.W.nsIn K mainGlobals "sum" = some none)
    (z_tuple : PySem.W.nsIn K mainGlobals "tuple" = some none)
    : ∃ fd : FuncData, (∀ (s : Shared) (v : Value), BindsTo s fd ⟨[v], []⟩ [("script", v)]) ∧ ∀ base : Heap, K.In base → base.Ns mainGlobals mg → FnOk l.prog w K mg base CX0 9 fa fd ["script"] (spLaw K) := by
  have e := hfa.symm.trans (PySem.W.mg_of X G a24)
  cases e
  have T : Bi mg := ⟨PySem.W.mg_none_of X G z_abs, PySem.W.mg_none_of X G z_all, PySem.W.mg_none_of X G z_bool, PySem.W.mg_none_of X G z_enumerate, PySem.W.mg_of X G z_gcd, PySem.W.mg_none_of X G z_int, PySem.W.mg_none_of X G z_isinstance, PySem.W.mg_none_of X G z_len, PySem.W.mg_none_of X G z_list, PySem.W.mg_none_of X G z_max, PySem.W.mg_none_of X G z_min, PySem.W.mg_none_of X G z_range, PySem.W.mg_none_of X G z_repr, PySem.W.mg_none_of X G z_sorted, PySem.W.mg_none_of X G z_str, PySem.W.mg_none_of X G z_sum, PySem.W.mg_none_of X G z_tuple⟩
  have F24 := fun_mk (st := s_law) l24 c24 k24
  refine ⟨PySem.W.fnOf "law" "law" (defArgs s_law) (defBody s_law) (defScope s_law) .none kV24 dc24 pm24 an24 cd24 ct24, fun s v => .of_eq rfl, fun base _ _ => ?_⟩
  have g_fraction := w_fraction (P := l.prog) (w := w) (base := base) T  (fun_mk (st := s_fraction) l0 c0 k0) (PySem.W.mg_of X G a0)
  have g_median := w_median (P := l.prog) (w := w) (base := base) T g_fraction (fun_mk (st := s_median) l1 c1 k1) (PySem.W.mg_of X G a1)
  have g_spread := w_spread (P := l.prog) (w := w) (base := base) T g_fraction (fun_mk (st := s_spread) l2 c2 k2) (PySem.W.mg_of X G a2)
  have g_ranked := w_ranked (P := l.prog) (w := w) (base := base) T g_fraction (fun_mk (st := s_ranked) l3 c3 k3) (PySem.W.mg_of X G a3)
  have g_moving_most := w_moving_most (P := l.prog) (w := w) (base := base) T  (fun_mk (st := s_moving_most) l4 c4 k4) (PySem.W.mg_of X G a4)
  have g_best_stretch := w_best_stretch (P := l.prog) (w := w) (base := base) T  (fun_mk (st := s_best_stretch) l5 c5 k5) (PySem.W.mg_of X G a5)
  have g_records := w_records (P := l.prog) (w := w) (base := base) T  (fun_mk (st := s_records) l6 c6 k6) (PySem.W.mg_of X G a6)
  have g_trend := w_trend (P := l.prog) (w := w) (base := base) T  (fun_mk (st := s_trend) l7 c7 k7) (PySem.W.mg_of X G a7)
  have g_by_class := w_by_class (P := l.prog) (w := w) (base := base) T  (fun_mk (st := s_by_class) l8 c8 k8) (PySem.W.mg_of X G a8)
  have g_law_cell := w_law_cell (P := l.prog) (w := w) (base := base) T  (fun_mk (st := s__law_cell) l9 c9 k9) (PySem.W.mg_of X G a9)
  have g_law_digits := w_law_digits (P := l.prog) (w := w) (base := base) T g_law_cell (fun_mk (st := s__law_digits) l10 c10 k10) (PySem.W.mg_of X G a10)
  have g_law_draw := w_law_draw (P := l.prog) (w := w) (base := base) T  (fun_mk (st := s__law_draw) l11 c11 k11) (PySem.W.mg_of X G a11)
  have g_law_pick : ∀ {α : Type} (r : α → D) (ds : List Int), FnA l.prog w K mg base 2 "_law_pick" (spB K (bxC ds) (fun a : List α => [.val (rL r a)]) (F_law_pick ds) (.val r)) := fun r ds => w_law_pick (P := l.prog) (w := w) (base := base) T g_law_draw (fun_mk (st := s__law_pick) l12 c12 k12) (PySem.W.mg_of X G a12) r ds
  have g_law_same : ∀ {α : Type} (r : α → D), FnA l.prog w K mg base 8 "_law_same" (spV K (fun a : α × α => [.val (r a.1), .val (r a.2)]) (F_law_same r) (.val rB)) := fun r => w_law_same (P := l.prog) (w := w) (base := base) T (fun_mk (st := s__law_same) l13 c13 k13) (PySem.W.mg_of X G a13) r
  have g_law_low := w_law_low (P := l.prog) (w := w) (base := base) T  (fun_mk (st := s__law_low) l14 c14 k14) (PySem.W.mg_of X G a14)
  have g_law_numbers := w_law_numbers (P := l.prog) (w := w) (base := base) T g_law_draw g_law_pick (fun_mk (st := s__law_numbers) l15 c15 k15) (PySem.W.mg_of X G a15)
  have g_law_middle := w_law_middle (P := l.prog) (w := w) (base := base) T g_law_low (fun_mk (st := s__law_middle) l16 c16 k16) (PySem.W.mg_of X G a16)
  have g_law_square := w_law_square (P := l.prog) (w := w) (base := base) T g_law_low (fun_mk (st := s__law_square) l17 c17 k17) (PySem.W.mg_of X G a17)
  have g_law_ranks := w_law_ranks (P := l.prog) (w := w) (base := base) T g_law_low (fun_mk (st := s__law_ranks) l18 c18 k18) (PySem.W.mg_of X G a18)
  have g_law_stretch := w_law_stretch (P := l.prog) (w := w) (base := base) T  (fun_mk (st := s__law_stretch) l19 c19 k19) (PySem.W.mg_of X G a19)
  have g_law_windows := w_law_windows (P := l.prog) (w := w) (base := base) T  (fun_mk (st := s__law_windows) l20 c20 k20) (PySem.W.mg_of X G a20)
  have g_law_trend := w_law_trend (P := l.prog) (w := w) (base := base) T  (fun_mk (st := s__law_trend) l21 c21 k21) (PySem.W.mg_of X G a21)
  have g_law_records := w_law_records (P := l.prog) (w := w) (base := base) T  (fun_mk (st := s__law_records) l22 c22 k22) (PySem.W.mg_of X G a22)
  have g_law_bounds := w_law_bounds (P := l.prog) (w := w) (base := base) T g_law_draw g_law_pick (fun_mk (st := s__law_bounds) l23 c23 k23) (PySem.W.mg_of X G a23)
  exact (w_law (P := l.prog) (w := w) (base := base) T g_median g_spread g_ranked g_moving_most g_best_stretch g_records g_trend g_by_class g_law_digits g_law_draw g_law_same g_law_numbers g_law_middle g_law_square g_law_ranks g_law_stretch g_law_windows g_law_trend g_law_records g_law_bounds F24).imp (law_sp hlaw)

end K65
open PySem PySem.W PyProof.Rows
set_option maxHeartbeats 0 in
theorem PySem.Challenge.cw_firelands_k65_whole_numbers_reported_holds : PySem.Challenge.rw_firelands_k65_whole_numbers_reported.Holds := by
  w_on; o_law; k_head; (case hw => w_witness2)
  k_fill
  refine L2.walk_of (l := PySem.Challenge.rw_firelands_k65_whole_numbers_reported) (n := 63) (k := 9) (x := "script") (CX := fun _ => L2.CX0) (sp := fun w => DL.spLaw _) rfl (by decide) rfl ⟨rfl, by decide, by decide⟩ (fun w h Y => PySem.W.kIn_of Y) ?F (fun _ _ a ns hl _ hS => ⟨a, ns, rfl, hS, hl, fun _ => rfl⟩) (fun _ _ _ _ _ h => h)
  case F =>
    intro w mg fa h KX G hmg
    refine' K65.all_mk K65.law_true KX G hmg ?a0 ?l0 ?c0 ?k0 ?a1 ?l1 ?c1 ?k1 ?a2 ?l2 ?c2 ?k2 ?a3 ?l3 ?c3 ?k3 ?a4 ?l4 ?c4 ?k4 ?a5 ?l5 ?c5 ?k5 ?a6 ?l6 ?c6 ?k6 ?a7 ?l7 ?c7 ?k7 ?a8 ?l8 ?c8 ?k8 ?a9 ?l9 ?c9 ?k9 ?a10 ?l10 ?c10 ?k10 ?a11 ?l11 ?c11 ?k11 ?a12 ?l12 ?c12 ?k12 ?a13 ?l13 ?c13 ?k13 ?a14 ?l14 ?c14 ?k14 ?a15 ?l15 ?c15 ?k15 ?a16 ?l16 ?c16 ?k16 ?a17 ?l17 ?c17 ?k17 ?a18 ?l18 ?c18 ?k18 ?a19 ?l19 ?c19 ?k19 ?a20 ?l20 ?c20 ?k20 ?a21 ?l21 ?c21 ?k21 ?a22 ?l22 ?c22 ?k22 ?a23 ?l23 ?c23 ?k23 ?a24 ?l24 ?c24 ?k24 ?z_abs ?z_all ?z_bool ?z_enumerate ?z_gcd ?z_int ?z_isinstance ?z_len ?z_list ?z_max ?z_min ?z_range ?z_repr ?z_sorted ?z_str ?z_sum ?z_tuple
    (case a0 => k_is); (case l0 => k_is); (case c0 => k_is); (case k0 => k_is); (case a1 => k_is); (case l1 => k_is); (case c1 => k_is); (case k1 => k_is); (case a2 => k_is); (case l2 => k_is); (case c2 => k_is); (case k2 => k_is); (case a3 => k_is); (case l3 => k_is); (case c3 => k_is); (case k3 => k_is); (case a4 => k_is); (case l4 => k_is); (case c4 => k_is); (case k4 => k_is); (case a5 => k_is); (case l5 => k_is); (case c5 => k_is); (case k5 => k_is); (case a6 => k_is); (case l6 => k_is); (case c6 => k_is); (case k6 => k_is); (case a7 => k_is); (case l7 => k_is); (case c7 => k_is); (case k7 => k_is); (case a8 => k_is); (case l8 => k_is); (case c8 => k_is); (case k8 => k_is); (case a9 => k_is); (case l9 => k_is); (case c9 => k_is); (case k9 => k_is); (case a10 => k_is); (case l10 => k_is); (case c10 => k_is); (case k10 => k_is); (case a11 => k_is); (case l11 => k_is); (case c11 => k_is); (case k11 => k_is); (case a12 => k_is); (case l12 => k_is); (case c12 => k_is); (case k12 => k_is); (case a13 => k_is); (case l13 => k_is); (case c13 => k_is); (case k13 => k_is); (case a14 => k_is); (case l14 => k_is); (case c14 => k_is); (case k14 => k_is); (case a15 => k_is); (case l15 => k_is); (case c15 => k_is); (case k15 => k_is); (case a16 => k_is); (case l16 => k_is); (case c16 => k_is); (case k16 => k_is); (case a17 => k_is); (case l17 => k_is); (case c17 => k_is); (case k17 => k_is); (case a18 => k_is); (case l18 => k_is); (case c18 => k_is); (case k18 => k_is); (case a19 => k_is); (case l19 => k_is); (case c19 => k_is); (case k19 => k_is); (case a20 => k_is); (case l20 => k_is); (case c20 => k_is); (case k20 => k_is); (case a21 => k_is); (case l21 => k_is); (case c21 => k_is); (case k21 => k_is); (case a22 => k_is); (case l22 => k_is); (case c22 => k_is); (case k22 => k_is); (case a23 => k_is); (case l23 => k_is); (case c23 => k_is); (case k23 => k_is); (case a24 => k_is); (case l24 => k_is); (case c24 => k_is); (case k24 => k_is); (case z_abs => k_is); (case z_all => k_is); (case z_bool => k_is); (case z_enumerate => k_is); (case z_gcd => k_is); (case z_int => k_is); (case z_isinstance => k_is); (case z_len => k_is); (case z_list => k_is); (case z_max => k_is); (case z_min => k_is); (case z_range => k_is); (case z_repr => k_is); (case z_sorted => k_is); (case z_str => k_is); (case z_sum => k_is); (case z_tuple => k_is)
