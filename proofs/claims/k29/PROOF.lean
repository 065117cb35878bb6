import PyProof.Rows.All
import Wide.All
import OpenK.AllK
import Wide.FinOn
import HandS.ForMost
import HandS.ForExc
import HandS.TryMany
import HandS.IsInst
import HandS.Deep
import HandS.Zip
import HandS.TupAny
import HandS.TupMul
import HandS.TupSets
import HandS.Style
import HandS.Wide
import HandS.Flow
import HandS.HeadEnd
import HandS.HeadHook4
import HandS.Head2
import HandS.Walk
import KE.KTupSum
import KE.GoesEnum
import KE.GoesMore
import KE.GoesZip
import PySem.Challenge.RW_surveyweights_k29_sizes_and_texts_by_han

set_option Elab.async false
set_option linter.all false
set_option maxRecDepth 100000
namespace Z
open PySem L2

abbrev D := PyData
abbrev Cell := Addr × HO

/-- trees: shared data; an owned list; an owned instance (class, names of the fields, fields); a tuple that holds owned things -/
inductive T where
  | sh (d : D)
  | ol (ts : List T)
  | ob (c : Nat) (ns : List Str) (ts : List T)
  | tp (ts : List T)
  deriving Inhabited

/-! as data, if it is all data -/
mutual
def T.fz : T → Option D
  | .sh d => some d
  | .ol ts => (T.fzs ts).map PyData.list
  | .ob _ _ _ => none
  | .tp ts => (T.fzs ts).map PyData.tuple
def T.fzs : List T → Option (List D)
  | [] => some []
  | t :: ts => match T.fz t, T.fzs ts with
    | some d, some ds => some (d :: ds)
    | _, _ => none
end

def cnt (a : Addr) (C : List Cell) : Nat := (C.map (·.1)).count a
@[simp] theorem cnt_nil {a : Addr} : cnt a [] = 0 := rfl
@[simp] theorem cnt_append {a : Addr} {C C' : List Cell} : cnt a (C ++ C') = cnt a C + cnt a C' := by
  unfold cnt; rw [List.map_append, List.count_append]
@[simp] theorem cnt_cons {a : Addr} {c : Cell} {C : List Cell} : cnt a (c :: C) = cnt a C + (if c.1 = a then 1 else 0) := by
  unfold cnt; rw [List.map_cons, List.count_cons]; simp
theorem cnt_mem {a : Addr} {C : List Cell} (h : 0 < cnt a C) : ∃ c ∈ C, c.1 = a := by
  unfold cnt at h
  obtain ⟨c, hc, e⟩ := List.mem_map.mp (List.count_pos_iff.mp h)
  exact ⟨c, hc, e⟩
theorem mem_cnt {c : Cell} {C : List Cell} (h : c ∈ C) : 0 < cnt c.1 C := by
  unfold cnt
  exact List.count_pos_iff.mpr (List.mem_map.mpr ⟨c, h, rfl⟩)

/-- G: what never changes any more; C: what is owned; both stand in H, apart -/
structure Good (G : Hp) (C : List Cell) (H : Hp) : Prop where
  ex : Same G H
  mem : ∀ c ∈ C, H c.1 = some c.2 ∧ G c.1 = none
  nd : ∀ a, cnt a C ≤ 1

theorem Good.re {G H : Hp} {C C' : List Cell} (g : Good G C H) (h1 : ∀ a, cnt a C' ≤ cnt a C) (h2 : ∀ c ∈ C', c ∈ C) : Good G C' H :=
  ⟨g.ex, fun c hc => g.mem c (h2 c hc), fun a => Nat.le_trans (h1 a) (g.nd a)⟩
theorem Good.fresh {G H : Hp} {C : List Cell} (g : Good G C H) {p : Addr} (h : H p = none) : G p = none ∧ cnt p C = 0 := by
  constructor
  · cases q : G p with
    | none => rfl
    | some o => rw [g.ex p o q] at h; cases h
  · cases q : cnt p C with
    | zero => rfl
    | succ n =>
      obtain ⟨c, hc, e⟩ := cnt_mem (a := p) (C := C) (by omega)
      have := (g.mem c hc).1
      rw [e, h] at this; cases this
theorem Good.new {G H : Hp} {C : List Cell} (g : Good G C H) {p : Addr} (o : HO) (h : H p = none) : Good G ((p, o) :: C) (upd H p o) := by
  obtain ⟨h1, h2⟩ := g.fresh h
  refine ⟨fun a u e => ?_, fun c hc => ?_, fun a => ?_⟩
  · rw [upd_ne (ne_of_none (g.ex a u e) h)]; exact g.ex a u e
  · rcases List.mem_cons.mp hc with e | hc
    · subst e; exact ⟨upd_same, h1⟩
    · have := g.mem c hc
      refine ⟨?_, this.2⟩
      rw [upd_ne (ne_of_none this.1 h)]; exact this.1
  · rw [cnt_cons]
    have := g.nd a
    by_cases e : p = a
    · subst e; simp [h2]
    · simp [e]; exact this
theorem Good.newG {G H : Hp} {C : List Cell} (g : Good G C H) {p : Addr} (o : HO) (h : H p = none) : Good (upd G p o) C (upd H p o) := by
  obtain ⟨h1, h2⟩ := g.fresh h
  refine ⟨fun a u e => ?_, fun c hc => ?_, g.nd⟩
  · by_cases ha : a = p
    · subst ha; rw [upd_same] at e ⊢; exact e
    · rw [upd_ne ha] at e ⊢; exact g.ex a u e
  · have := g.mem c hc
    have ne : c.1 ≠ p := ne_of_none this.1 h
    rw [upd_ne ne, upd_ne ne]; exact this
theorem _root_.L2.Same.new {H : Hp} {p : Addr} {o : HO} (h : H p = none) : Same H (upd H p o) := fun a u e => by
  rw [upd_ne (ne_of_none e h)]; exact e
/-- an owned cell is changed -/
theorem Good.set {G H : Hp} {p : Addr} {o : HO} {C : List Cell} (g : Good G ((p, o) :: C) H) (o' : HO) : Good G ((p, o') :: C) (upd H p o') := by
  have hp := g.mem (p, o) List.mem_cons_self
  have hz : cnt p C = 0 := by have := g.nd p; rw [cnt_cons] at this; simp at this; omega
  refine ⟨fun a u e => ?_, fun c hc => ?_, fun a => by have := g.nd a; rw [cnt_cons] at this ⊢; exact this⟩
  · have ne : a ≠ p := fun z => by subst z; have h2 : G a = none := hp.2; rw [h2] at e; cases e
    rw [upd_ne ne]; exact g.ex a u e
  · rcases List.mem_cons.mp hc with e | hc
    · subst e; exact ⟨upd_same, hp.2⟩
    · have := g.mem c (List.mem_cons_of_mem _ hc)
      have ne : c.1 ≠ p := fun z => by have := mem_cnt hc; rw [z] at this; omega
      rw [upd_ne ne]; exact this

/-! ### data along extensions -/
theorem _root_.L2.Same.sqT {K : PySem.W.Frag} {H H' : Hp} {a : Addr} {xs : List V} (e : Same H H') (h : SqT K H a xs) : SqT K H' a xs := by
  rcases h with (h | ⟨o, h⟩) | h
  · exact .inl (.inl (e _ _ h))
  · exact .inl (.inr ⟨o, e _ _ h⟩)
  · exact .inr h
mutual
theorem dp_mono {K : PySem.W.Frag} {H H' : Hp} (e : Same H H') : ∀ (d : D) (v : V), Dp K H v d → Dp K H' v d
  | .none, _, h => by cases h; exact .non
  | .bool b, _, h => by cases h; exact .bl b
  | .int i, _, h => by cases h; exact .int i
  | .str x, _, h => by cases h; exact .str x
  | .list ds, _, h => by cases h with | lst hs ha => exact .lst (e.seq hs) (dpa_mono e ds _ ha)
  | .tuple ds, _, h => by cases h with | tup hs ha => exact .tup (e.sqT hs) (dpa_mono e ds _ ha)
  | .dict _, _, h => by cases h
theorem dpa_mono {K : PySem.W.Frag} {H H' : Hp} (e : Same H H') : ∀ (ds : List D) (vs : List V), DpAll K H vs ds → DpAll K H' vs ds
  | [], _, h => by cases h; exact .nil
  | d :: ds, _, h => by cases h with | cons h1 h2 => exact .cons (dp_mono e d _ h1) (dpa_mono e ds _ h2)
end
theorem _root_.L2.Dp.mono {K : PySem.W.Frag} {H H' : Hp} {d : D} {v : V} (h : Dp K H v d) (e : Same H H') : Dp K H' v d := dp_mono e d v h
theorem _root_.L2.DpAll.mono {K : PySem.W.Frag} {H H' : Hp} {d : List D} {v : List V} (h : DpAll K H v d) (e : Same H H') : DpAll K H' v d := dpa_mono e d v h

/-! ### trees -/
/-! κ: where the classes stand -/
mutual
inductive RelT (K : PySem.W.Frag) (κ : Nat → Addr) (G : Hp) : V → T → List Cell → Prop
  | sh {v : V} {d : D} : Dp K G v d → RelT K κ G v (.sh d) []
  | ol {p : Addr} {vs : List V} {ts : List T} {C : List Cell} : RelTs K κ G vs ts C → RelT K κ G (.ref p) (.ol ts) ((p, .lst vs) :: C)
  | ob {a dx : Addr} {c : Nat} {ns : List Str} {vs : List V} {ts : List T} {C : List Cell} : ns.length = vs.length → RelTs K κ G vs ts C →
      RelT K κ G (.ref a) (.ob c ns ts) ((a, .ins (κ c) dx (ns.zip vs)) :: (dx, .own a) :: C)
  | tp {a : Addr} {vs : List V} {ts : List T} {C : List Cell} : G a = some (.tup vs) → RelTs K κ G vs ts C → RelT K κ G (.ref a) (.tp ts) C
inductive RelTs (K : PySem.W.Frag) (κ : Nat → Addr) (G : Hp) : List V → List T → List Cell → Prop
  | nil : RelTs K κ G [] [] []
  | cons {v : V} {vs : List V} {t : T} {ts : List T} {C C' : List Cell} : RelT K κ G v t C → RelTs K κ G vs ts C' → RelTs K κ G (v :: vs) (t :: ts) (C ++ C')
end
mutual
theorem relT_mono {K : PySem.W.Frag} {κ : Nat → Addr} {G G' : Hp} (e : Same G G') : ∀ (t : T) (v : V) (C : List Cell), RelT K κ G v t C → RelT K κ G' v t C
  | .sh d, _, _, h => by cases h with | sh h => exact .sh (h.mono e)
  | .ol ts, _, _, h => by cases h with | ol h => exact .ol (relTs_mono e ts _ _ h)
  | .ob c ns ts, _, _, h => by cases h with | ob h1 h => exact .ob h1 (relTs_mono e ts _ _ h)
  | .tp ts, _, _, h => by cases h with | tp h1 h => exact .tp (e _ _ h1) (relTs_mono e ts _ _ h)
theorem relTs_mono {K : PySem.W.Frag} {κ : Nat → Addr} {G G' : Hp} (e : Same G G') : ∀ (t : List T) (v : List V) (C : List Cell), RelTs K κ G v t C → RelTs K κ G' v t C
  | [], _, _, h => by cases h; exact .nil
  | t :: ts, _, _, h => by cases h with | cons h1 h2 => exact .cons (relT_mono e t _ _ h1) (relTs_mono e ts _ _ h2)
end
theorem RelT.mono {K : PySem.W.Frag} {κ : Nat → Addr} {G G' : Hp} {t : T} {v : V} {C : List Cell} (h : RelT K κ G v t C) (e : Same G G') : RelT K κ G' v t C := relT_mono e t v C h
theorem RelTs.mono {K : PySem.W.Frag} {κ : Nat → Addr} {G G' : Hp} {t : List T} {v : List V} {C : List Cell} (h : RelTs K κ G v t C) (e : Same G G') : RelTs K κ G' v t C := relTs_mono e t v C h
/-! a tree is read as its data -/
mutual
theorem relT_read {K : PySem.W.Frag} {κ : Nat → Addr} {G H : Hp} (e : Same G H) : ∀ (t : T) (v : V) (C : List Cell) (d : D), RelT K κ G v t C → (∀ c ∈ C, H c.1 = some c.2) → t.fz = some d → Dp K H v d
  | .sh d, _, _, d', h, _, hz => by
    cases h with
    | sh h => unfold T.fz at hz; cases hz; exact h.mono e
  | .ol ts, _, _, d', h, hc, hz => by
    cases h with
    | @ol p vs _ C h =>
      unfold T.fz at hz
      cases q : T.fzs ts with
      | none => rw [q] at hz; cases hz
      | some ds =>
        rw [q] at hz; cases hz
        exact .lst (SqL.of (hc (p, .lst vs) List.mem_cons_self)) (relTs_read e ts _ _ ds h (fun c hm => hc c (List.mem_cons_of_mem _ hm)) q)
  | .ob _ _ _, _, _, _, _, _, hz => by unfold T.fz at hz; cases hz
  | .tp ts, _, _, d', h, hc, hz => by
    cases h with
    | @tp a vs _ C h1 h =>
      unfold T.fz at hz
      cases q : T.fzs ts with
      | none => rw [q] at hz; cases hz
      | some ds =>
        rw [q] at hz; cases hz
        exact .tup (SqT.of (e _ _ h1)) (relTs_read e ts _ _ ds h hc q)
theorem relTs_read {K : PySem.W.Frag} {κ : Nat → Addr} {G H : Hp} (e : Same G H) : ∀ (t : List T) (v : List V) (C : List Cell) (d : List D), RelTs K κ G v t C → (∀ c ∈ C, H c.1 = some c.2) → T.fzs t = some d → DpAll K H v d
  | [], _, _, _, h, _, hz => by cases h; unfold T.fzs at hz; cases hz; exact .nil
  | t :: ts, _, _, d, h, hc, hz => by
    cases h with
    | @cons v vs _ _ C C' h1 h2 =>
      unfold T.fzs at hz
      cases q1 : t.fz with
      | none => rw [q1] at hz; cases hz
      | some x =>
        cases q2 : T.fzs ts with
        | none => rw [q1, q2] at hz; cases hz
        | some xs =>
          rw [q1, q2] at hz; cases hz
          exact .cons (relT_read e t _ _ x h1 (fun c hm => hc c (List.mem_append_left _ hm)) q1) (relTs_read e ts _ _ xs h2 (fun c hm => hc c (List.mem_append_right _ hm)) q2)
end
theorem RelT.read {K : PySem.W.Frag} {κ : Nat → Addr} {G H : Hp} {t : T} {v : V} {C C' : List Cell} {d : D} (h : RelT K κ G v t C) (g : Good G C' H) (hs : ∀ c ∈ C, c ∈ C') (hz : t.fz = some d) : Dp K H v d :=
  relT_read g.ex t v C d h (fun c hc => (g.mem c (hs c hc)).1) hz
/-- what is owned is given up: it never changes any more -/
theorem Good.freeze {G H : Hp} {Ct C : List Cell} (g : Good G (Ct ++ C) H) : ∃ G', Same G G' ∧ Good G' C H ∧ ∀ c ∈ Ct, G' c.1 = some c.2 := by
  refine ⟨fun a => if cnt a Ct = 0 then G a else H a, fun a o e => ?_, ⟨fun a o e => ?_, fun c hc => ?_, fun a => ?_⟩, fun c hc => ?_⟩
  · show (if cnt a Ct = 0 then G a else H a) = _
    split
    · exact e
    · exact g.ex a o e
  · have e : (if cnt a Ct = 0 then G a else H a) = some o := e
    split at e
    · exact g.ex a o e
    · exact e
  · have h := g.mem c (List.mem_append_right _ hc)
    have h1 := g.nd c.1
    have h2 := mem_cnt hc
    rw [cnt_append] at h1
    refine ⟨h.1, ?_⟩
    show (if cnt c.1 Ct = 0 then G c.1 else H c.1) = none
    rw [if_pos (by omega)]; exact h.2
  · have := g.nd a; rw [cnt_append] at this; omega
  · show (if cnt c.1 Ct = 0 then G c.1 else H c.1) = _
    have := mem_cnt hc
    rw [if_neg (by omega)]
    exact (g.mem c (List.mem_append_left _ hc)).1
theorem RelT.freeze {K : PySem.W.Frag} {κ : Nat → Addr} {G H : Hp} {t : T} {v : V} {Ct C : List Cell} {d : D} (h : RelT K κ G v t Ct) (g : Good G (Ct ++ C) H) (hz : t.fz = some d) : ∃ G', Same G G' ∧ Good G' C H ∧ Dp K G' v d := by
  obtain ⟨G', e, g', hc⟩ := g.freeze
  exact ⟨G', e, g', relT_read e t v Ct d h hc hz⟩

/-! ### slots -/
inductive RelG (K : PySem.W.Frag) (κ : Nat → Addr) (G : Hp) : St → List (Option T) → List Cell → Prop
  | nl : RelG K κ G [] [] []
  | no {x : Option V} {σ : St} {Γ : List (Option T)} {C : List Cell} : RelG K κ G σ Γ C → RelG K κ G (x :: σ) (none :: Γ) C
  | sm {v : V} {t : T} {σ : St} {Γ : List (Option T)} {C C' : List Cell} : RelT K κ G v t C → RelG K κ G σ Γ C' → RelG K κ G (some v :: σ) (some t :: Γ) (C ++ C')
theorem RelG.mono {K : PySem.W.Frag} {κ : Nat → Addr} {G G' : Hp} (e : Same G G') : ∀ {σ : St} {Γ : List (Option T)} {C : List Cell}, RelG K κ G σ Γ C → RelG K κ G' σ Γ C
  | _, _, _, .nl => .nl
  | _, _, _, .no h => .no (h.mono e)
  | _, _, _, .sm h1 h => .sm (h1.mono e) (h.mono e)
theorem RelG.len {K : PySem.W.Frag} {κ : Nat → Addr} {G : Hp} : ∀ {σ : St} {Γ : List (Option T)} {C : List Cell}, RelG K κ G σ Γ C → σ.length = Γ.length
  | _, _, _, .nl => rfl
  | _, _, _, .no h => by simp [h.len]
  | _, _, _, .sm h1 h => by simp [h.len]
/-- a slot is read; and it may be changed in its place, or given up -/
theorem RelG.get {K : PySem.W.Frag} {κ : Nat → Addr} {G : Hp} : ∀ {σ : St} {Γ : List (Option T)} {C : List Cell} {i : Nat} {t : T}, RelG K κ G σ Γ C → Γ[i]? = some (some t) →
    ∃ v Ca Ct Cb, σ[i]? = some (some v) ∧ C = Ca ++ (Ct ++ Cb) ∧ RelT K κ G v t Ct ∧ RelG K κ G σ (Γ.set i none) (Ca ++ Cb) ∧ ∀ G' t' Ct', Same G G' → RelT K κ G' v t' Ct' → RelG K κ G' σ (Γ.set i (some t')) (Ca ++ (Ct' ++ Cb))
  | _, _, _, i, t, .nl, e => by simp at e
  | _, _, _, 0, t, .no h, e => by simp at e
  | _, _, _, i + 1, t, .no h, e => by
    obtain ⟨v, Ca, Ct, Cb, h1, h2, h3, h4, h5⟩ := h.get (i := i) (t := t) (by simpa using e)
    exact ⟨v, Ca, Ct, Cb, by simpa using h1, h2, h3, .no h4, fun G' t' Ct' s q => .no (h5 G' t' Ct' s q)⟩
  | _, _, _, 0, t, .sm (v := v) (C := C1) (C' := C2) h1 h, e => by
    simp at e
    subst e
    exact ⟨v, [], C1, C2, rfl, rfl, h1, .no h, fun G' t' Ct' s q => (show RelG K κ G' _ _ (Ct' ++ C2) from .sm q (h.mono s))⟩
  | _, _, _, i + 1, t, .sm (v := w) (C := C1) (C' := C2) h0 h, e => by
    obtain ⟨v, Ca, Ct, Cb, h1, h2, h3, h4, h5⟩ := h.get (i := i) (t := t) (by simpa using e)
    refine ⟨v, C1 ++ Ca, Ct, Cb, by simpa using h1, by rw [h2, List.append_assoc], h3, ?_, fun G' t' Ct' s q => ?_⟩
    · rw [List.append_assoc]; exact .sm h0 h4
    · rw [List.append_assoc]; exact .sm (h0.mono s) (h5 G' t' Ct' s q)
/-- a slot is stored; what it owned is lost -/
theorem RelG.set {K : PySem.W.Frag} {κ : Nat → Addr} {G : Hp} {v : V} {t : T} {Ct : List Cell} : ∀ {σ : St} {Γ : List (Option T)} {C : List Cell} {i : Nat}, RelG K κ G σ Γ C → RelT K κ G v t Ct →
    ∃ C', RelG K κ G (σ.set i (some v)) (Γ.set i (some t)) C' ∧ (∀ a, cnt a C' ≤ cnt a Ct + cnt a C) ∧ ∀ c ∈ C', c ∈ Ct ++ C
  | _, _, _, i, .nl, h => ⟨[], .nl, fun a => by simp, fun c hc => by cases hc⟩
  | _, _, _, 0, .no (C := C) h, ht => ⟨Ct ++ C, .sm ht h, fun a => by simp, fun c hc => hc⟩
  | _, _, _, i + 1, .no (C := C) h, ht => by
    obtain ⟨C', h1, h2, h3⟩ := h.set (i := i) ht
    exact ⟨C', .no h1, h2, h3⟩
  | _, _, _, 0, .sm (C := C1) (C' := C2) h0 h, ht => ⟨Ct ++ C2, .sm ht h, fun a => by simp, fun c hc => by
      simp only [List.mem_append] at hc ⊢
      rcases hc with hc | hc
      · exact .inl hc
      · exact .inr (.inr hc)⟩
  | _, _, _, i + 1, .sm (C := C1) (C' := C2) h0 h, ht => by
    obtain ⟨C', h1, h2, h3⟩ := h.set (i := i) ht
    refine ⟨C1 ++ C', .sm h0 h1, fun a => ?_, fun c hc => ?_⟩
    · have := h2 a; simp; omega
    · simp only [List.mem_append] at hc ⊢
      rcases hc with hc | hc
      · exact .inr (.inl hc)
      · have := h3 c hc
        simp only [List.mem_append] at this
        rcases this with z | z
        · exact .inl z
        · exact .inr (.inr z)
/-- slots that are forgotten (a comprehension's) -/
theorem RelG.drop {K : PySem.W.Frag} {κ : Nat → Addr} {G : Hp} : ∀ {σ : St} {Γ : List (Option T)} {C : List Cell} {i : Nat} {x : Option V}, RelG K κ G σ Γ C →
    ∃ C', RelG K κ G (σ.set i x) (Γ.set i none) C' ∧ (∀ a, cnt a C' ≤ cnt a C) ∧ ∀ c ∈ C', c ∈ C
  | _, _, _, i, _, .nl => ⟨[], .nl, fun a => by simp, fun c hc => hc⟩
  | _, _, _, 0, _, .no (C := C) h => ⟨C, .no h, fun a => Nat.le_refl _, fun c hc => hc⟩
  | _, _, _, i + 1, x, .no (C := C) h => by
    obtain ⟨C', h1, h2, h3⟩ := h.drop (i := i) (x := x)
    exact ⟨C', .no h1, h2, h3⟩
  | _, _, _, 0, _, .sm (C := C1) (C' := C2) h0 h => ⟨C2, .no h, fun a => by simp, fun c hc => List.mem_append_right _ hc⟩
  | _, _, _, i + 1, x, .sm (C := C1) (C' := C2) h0 h => by
    obtain ⟨C', h1, h2, h3⟩ := h.drop (i := i) (x := x)
    refine ⟨C1 ++ C', .sm h0 h1, fun a => ?_, fun c hc => ?_⟩
    · have := h2 a; simp; omega
    · simp only [List.mem_append] at hc ⊢
      rcases hc with hc | hc
      · exact .inl hc
      · exact .inr (h3 c hc)
end Z

set_option Elab.async false
set_option linter.all false
set_option maxRecDepth 100000
namespace Z
open PySem L2

inductive Bop where
  | add | sub | mul | fdiv | mod | shl | shr | band
  deriving DecidableEq
inductive Cop where
  | eq | ne | lt | le | gt | ge | is | isnot | isin | notin
  deriving DecidableEq
inductive Ty where
  | int | bool | tuple | list | str
  deriving DecidableEq
inductive Bi where
  | len | abs | max | sum | all | any | int | str | tuple | list | sorted | sset
  | join (x : Str)
  deriving DecidableEq

mutual
inductive E where
  | var (i : Nat)
  | io (k : Nat)
  | non
  | bl (b : Bool)
  | num (i : Int)
  | text (s : Str)
  | tup (es : Es)
  | lst (es : Es)
  | bin (o : Bop) (a b : E)
  | neg (a : E)
  | bool (b : B)
  | ite (c : B) (a b : E)
  | ix (a i : E)
  | sl (a lo hi : E)
  | rev (a : E)
  | isi (t : Ty) (a : E)
  | bi (f : Bi) (a : E)
  | call (f : Nat) (as : Es)
  | lc (elt : E) (tg : List Nat) (one : Bool) (src : I) (c : B) (vs : List Nat) (own : Bool)
  | lc2 (elt : E) (tg : List Nat) (one : Bool) (src : I) (tg1 : List Nat) (one1 : Bool) (src1 : I) (vs vs1 : List Nat)
inductive I where
  | rng (a : E)
  | rng2 (a b : E)
  | enm (a : E)
  | zip (a b : E)
  | seq (e : E)
inductive Es where
  | nil
  | cons (e : E) (es : Es)
inductive B where
  | tt
  | val (e : E)
  | not (b : B)
  | and (a b : B)
  | or (a b : B)
  | cmp (o : Cop) (a b : E)
  | chn (o o' : Cop) (a b c : E)
end

abbrev Env := List (Option T)
inductive Out (α : Type) where
  | ok (a : α) (Γ : Env)
  | ex (c : Nat) (Γ : Env)
  | no
def Out.bind {α β : Type} (m : Out α) (f : α → Env → Out β) : Out β := match m with
  | .ok a Γ => f a Γ
  | .ex c Γ => .ex c Γ
  | .no => .no
@[simp] theorem Out.bind_ok {α β : Type} (a : α) (Γ : Env) (f : α → Env → Out β) : (Out.ok a Γ).bind f = f a Γ := rfl
@[simp] theorem Out.bind_ex {α β : Type} (c : Nat) (Γ : Env) (f : α → Env → Out β) : (Out.ex c Γ : Out α).bind f = .ex c Γ := rfl
@[simp] theorem Out.bind_no {α β : Type} (f : α → Env → Out β) : (Out.no : Out α).bind f = .no := rfl
/-- a value, or stuck -/
def lift {α : Type} (o : Option α) (Γ : Env) : Out α := match o with
  | some a => .ok a Γ
  | none => .no
@[simp] theorem lift_some {α : Type} (a : α) (Γ : Env) : lift (some a) Γ = .ok a Γ := rfl
@[simp] theorem lift_none {α : Type} (Γ : Env) : lift (none : Option α) Γ = .no := rfl

/-- an operand: a tree at hand, or the place of an owned tree -/
inductive O where
  | t (t : T)
  | at (k : Nat) (p : List Nat)
def kid : T → Nat → Option T
  | .sh _, _ => none
  | .ol ts, j => ts[j]?
  | .ob _ _ ts, j => ts[j]?
  | .tp ts, j => ts[j]?
def sub : T → List Nat → Option T
  | t, [] => some t
  | t, j :: p => match kid t j with
    | some u => sub u p
    | none => none
/-- a tree's part is put anew -/
def putT : T → List Nat → T → T
  | _, [], t' => t'
  | .ol ts, j :: p, t' => match ts[j]? with
    | some u => .ol (ts.set j (putT u p t'))
    | none => .ol ts
  | .ob c ns ts, j :: p, t' => match ts[j]? with
    | some u => .ob c ns (ts.set j (putT u p t'))
    | none => .ob c ns ts
  | .tp ts, j :: p, t' => match ts[j]? with
    | some u => .tp (ts.set j (putT u p t'))
    | none => .tp ts
  | .sh d, _, _ => .sh d
def look (Γ : Env) (k : Nat) (p : List Nat) : Option T := match Γ[k]? with
  | some (some t) => sub t p
  | _ => none
def O.tree (Γ : Env) : O → Option T
  | .t x => some x
  | .at k p => look Γ k p
/-- the operand leaves its place: an owned list is given up -/
def esc (o : O) (Γ : Env) : Out T := match o with
  | .t t => .ok t Γ
  | .at k [] => match look Γ k [] with
    | some t => match t.fz with
      | some d => .ok (.sh d) (Γ.set k (some (.sh d)))
      | none => .no
    | none => .no
  | .at _ _ => .no
def fzO (t : T) (Γ : Env) : Out D := lift t.fz Γ
/-- as data, for good -/
def escD (o : O) (Γ : Env) : Out D := (esc o Γ).bind fzO

/-! ### operations on trees -/
/-- the items of a sequence, all of them shared -/
def shs : List T → Option (List D)
  | [] => some []
  | .sh d :: ts => match shs ts with
    | some ds => some (d :: ds)
    | none => none
  | _ :: _ => none
def els : T → Option (List D)
  | .sh (.list ds) => some ds
  | .sh (.tuple ds) => some ds
  | .ol ts => shs ts
  | _ => none
def ol (ds : List D) : T := .ol (ds.map .sh)
def isL : T → Bool
  | .sh (.list _) => true
  | .ol _ => true
  | _ => false
def isU : T → Bool
  | .sh (.tuple _) => true
  | _ => false
def asI : D → Option Int
  | .int i => some i
  | .bool b => some (if b then 1 else 0)
  | _ => none
def mulOk (i j : Int) : Bool := i.natAbs.log2 + j.natAbs.log2 < 100000000
def binI (o : Bop) (i j : Int) : Option D := match o with
  | .add => some (.int (i + j))
  | .sub => some (.int (i - j))
  | .mul => if mulOk i j then some (.int (i * j)) else none
  | .fdiv => if j = 0 then none else some (.int (i.fdiv j))
  | .mod => if j = 0 then none else some (.int (i.fmod j))
  | .shl => if 0 ≤ j ∧ j ≤ 1000000 ∧ i.natAbs < 2 ^ 64 then some (.int (i * 2 ^ j.toNat)) else none
  | .shr => if 0 ≤ j then some (.int (i / 2 ^ j.toNat)) else none
  | .band => some (.int (Builtin.bitAnd i j))
def lineOk (n : Nat) : Bool := n ≤ 1000000
def strRep (x : Str) (n : Int) : Str := if n < 1 then Str.empty else if (n == 1 || x.length == 0) = true then x else ⟨(List.replicate n.toNat x.cps).foldl (· ++ ·) #[]⟩
def binT (o : Bop) (a b : T) : Option T := match o, a, b with
  | o, .sh (.int i), .sh (.int j) => (binI o i j).map .sh
  | .add, .sh (.bool x), .sh (.int j) => some (.sh (.int ((if x then 1 else 0) + j)))
  | .sub, .sh (.bool x), .sh (.int j) => some (.sh (.int ((if x then 1 else 0) - j)))
  | .add, .sh (.str x), .sh (.str y) => if lineOk (x.length + y.length) then some (.sh (.str (x ++ y))) else none
  | .add, .sh (.tuple xs), .sh (.tuple ys) => if lineOk (xs.length + ys.length) then some (.sh (.tuple (xs ++ ys))) else none
  | .mul, .sh (.tuple xs), .sh (.int n) => if -1000 ≤ n && n ≤ 1000 && decide (xs.length ≤ 1000) then some (.sh (.tuple (List.replicate n.toNat xs).flatten)) else none
  | .mul, .sh (.str x), .sh (.int n) => if -1000 ≤ n && n ≤ 1000 && decide (x.length ≤ 1000) then some (.sh (.str (strRep x n))) else none
  | .add, a, b => if isL a && isL b then match els a, els b with
      | some xs, some ys => if lineOk (xs.length + ys.length) then some (ol (xs ++ ys)) else none
      | _, _ => none
    else none
  | .mul, .ol ts, .sh (.int n) => match shs ts with
      | some xs => if lineOk (xs.length * n.toNat) && lineOk n.natAbs then some (ol (List.replicate n.toNat xs).flatten) else none
      | none => none
  | _, _, _ => none
def ltD : D → D → Option Bool
  | .int i, .int j => some (decide (i < j))
  | .str x, .str y => some (decide (x.cps.toList < y.cps.toList))
  | _, _ => none
def leD : D → D → Option Bool
  | .int i, .int j => some (decide (i ≤ j))
  | .str x, .str y => some (!decide (y.cps.toList < x.cps.toList))
  | _, _ => none
def isNone : D → Bool
  | .none => true
  | _ => false
/-- plain data, not too deep -/
def fineD (d : D) : Bool := SeqAt.shaped d
def cmpD (o : Cop) (a b : D) : Option Bool := match o with
  | .eq => if fineD a && fineD b then some (PyData.eqv a b) else none
  | .ne => if fineD a && fineD b then some (!PyData.eqv a b) else none
  | .lt => ltD a b
  | .le => leD a b
  | .gt => ltD b a
  | .ge => leD b a
  | .is => if isNone b then some (isNone a) else none
  | .isnot => if isNone b then some (!isNone a) else none
  | .isin => match b with
    | .list ds => if fineD a && fineD b then some (ds.any fun d => PyData.eqv d a) else none
    | .tuple ds => if fineD a && fineD b then some (ds.any fun d => PyData.eqv d a) else none
    | _ => none
  | .notin => match b with
    | .list ds => if fineD a && fineD b then some (!ds.any fun d => PyData.eqv d a) else none
    | .tuple ds => if fineD a && fineD b then some (!ds.any fun d => PyData.eqv d a) else none
    | _ => none
def cmpT (o : Cop) (a b : T) : Option Bool := match a.fz, b.fz with
  | some x, some y => cmpD o x y
  | _, _ => none
def truthD : D → Option Bool
  | .none => some false
  | .bool b => some b
  | .int i => some (i != 0)
  | .str x => if lineOk x.length then some (x.length != 0) else none
  | .list ds => some (!ds.isEmpty)
  | .tuple ds => some (!ds.isEmpty)
  | .dict _ => none
def strictT (t : T) : Option Bool := match t with
  | .sh (.bool b) => some b
  | _ => none
def truthT (t : T) : Option Bool := match t.fz with
  | some d => truthD d
  | none => none
def ixJ (n : Nat) (i : Int) : Option Nat := L2.ixN n i
def ixD (d : D) (i : Int) : Option D := match d with
  | .list ds => (ixJ ds.length i).bind fun j => ds[j]?
  | .tuple ds => (ixJ ds.length i).bind fun j => ds[j]?
  | .str x => if lineOk x.length then (L2.atI x.cps.toList i).map fun c => .str ⟨#[c]⟩ else none
  | _ => none
def ixT (t : T) (i : Int) : Option T := match t with
  | .sh d => (ixD d i).map .sh
  | .ol ts => (ixJ ts.length i).bind fun j => match ts[j]? with
    | some (.sh d) => some (.sh d)
    | _ => none
  | .tp ts => (ixJ ts.length i).bind fun j => ts[j]?
  | .ob _ _ _ => none
/-- an item of the owned tree at k, p: shared, or again a place -/
def ixAt (k : Nat) (p : List Nat) (t : T) (i : Int) : Option O := match t with
  | .sh d => (ixD d i).map fun d => .t (.sh d)
  | .ol ts => (ixJ ts.length i).bind fun j => match ts[j]? with
    | some (.sh d) => some (.t (.sh d))
    | some _ => some (.at k (p ++ [j]))
    | none => none
  | .tp ts => (ixJ ts.length i).bind fun j => match ts[j]? with
    | some (.sh d) => some (.t (.sh d))
    | some _ => some (.at k (p ++ [j]))
    | none => none
  | .ob _ _ _ => none
def ixO (Γ : Env) (x : O) (j : O) : Option O := match j with
  | .t (.sh (.int j)) => match x with
    | .t t => (ixT t j).map .t
    | .at k p => match look Γ k p with
      | some t => ixAt k p t j
      | none => none
  | _ => none
def cut {α : Type} (xs : List α) (lo hi : Option Int) : List α := (xs.drop (HT.sIx xs.length 0 lo)).take (HT.sIx xs.length xs.length hi - HT.sIx xs.length 0 lo)
/-- a slice's part: left out (written non), or an int -/
def part (e : E) (o : O) : Option (Option Int) := match e, o with
  | .non, _ => some none
  | _, .t (.sh (.int i)) => some (some i)
  | _, _ => none
def slT (l h : Option Int) (t : T) : Option T := match t with
  | .sh (.tuple ds) => some (.sh (.tuple (cut ds l h)))
  | .sh (.str x) => if lineOk x.length then some (.sh (.str (L2.cutS x l h))) else none
  | t => if isL t then (els t).map fun ds => ol (cut ds l h) else none
def revT (t : T) : Option T := match t with
  | .sh (.tuple ds) => some (.sh (.tuple ds.reverse))
  | t => if isL t then (els t).map fun ds => ol ds.reverse else none
def isiD (ty : Ty) (d : D) : Bool := match ty, d with
  | .int, .int _ => true
  | .int, .bool _ => true
  | .bool, .bool _ => true
  | .tuple, .tuple _ => true
  | .list, .list _ => true
  | .str, .str _ => true
  | _, _ => false
def isiT (ty : Ty) (t : T) : Option T := match t.fz with
  | some d => some (.sh (.bool (isiD ty d)))
  | none => none
def negT (t : T) : Option T := match t with
  | .sh (.int i) => some (.sh (.int (-i)))
  | _ => none
def asInts : List D → Option (List Int)
  | [] => some []
  | .int i :: ds => match asInts ds with
    | some is => some (i :: is)
    | none => none
  | _ :: _ => none
def bools : List D → Option (List Bool)
  | [] => some []
  | .bool b :: ds => match bools ds with
    | some bs => some (b :: bs)
    | none => none
  | _ :: _ => none
def maxI : List Int → Option Int
  | [] => none
  | [i] => some i
  | i :: is => match maxI is with
    | some m => some (if m > i then m else i)
    | none => none
/-- tuples of ints -/
def tupsOf : List D → Option (List (List Int))
  | [] => some []
  | .tuple xs :: ds => (asInts xs).bind fun ns => (tupsOf ds).map (ns :: ·)
  | _ :: _ => none
def srtB : Int := 1000000
def okTup (d : Nat) (ns : List Int) : Bool := decide (ns.length = d) && ns.all fun i => decide (0 ≤ i) && decide (i < srtB)
def okTups (nss : List (List Int)) : Bool := decide (nss.length < 64) && match nss with
  | [] => true
  | ns :: _ => decide (1 ≤ ns.length) && nss.all (okTup ns.length)
def srtL (nss : List (List Int)) : List (List Int) := nss.mergeSort fun a b => decide (TS.code srtB a ≤ TS.code srtB b)
def tupD (ns : List Int) : D := .tuple (ns.map .int)
def ddup : List (List Int) → List (List Int)
  | [] => []
  | x :: xs => if x ∈ xs then ddup xs else x :: ddup xs
def srtD (ds : List D) : Option (List D) := (tupsOf ds).bind fun nss => if okTups nss then some ((srtL nss).map tupD) else none
def ssetD (ds : List D) : Option (List D) := (tupsOf ds).bind fun nss => if okTups nss then some ((srtL (ddup nss)).map tupD) else none
def strsOf : List D → Option (List Str)
  | [] => some []
  | .str x :: ds => (strsOf ds).map (x :: ·)
  | _ :: _ => none
def joinD (x : Str) (ds : List D) : Option D := (strsOf ds).bind fun ys => if decide ((ys.map (·.length)).sum + ys.length * x.length ≤ 1000000) then some (.str (PySem.Txt.join x ys)) else none
def biT (f : Bi) (t : T) : Option T := match f with
  | .len => match t.fz with
    | some (.list ds) => some (.sh (.int ds.length))
    | some (.tuple ds) => some (.sh (.int ds.length))
    | some (.str x) => if lineOk x.length then some (.sh (.int x.length)) else none
    | _ => none
  | .abs => match t with
    | .sh (.int i) => some (.sh (.int (if i < 0 then -i else i)))
    | _ => none
  | .int => match t with
    | .sh (.int i) => some (.sh (.int i))
    | .sh (.bool b) => some (.sh (.int (if b then 1 else 0)))
    | .sh (.str x) => if x.length ≤ 640 then (PySem.intText? x).map fun n => .sh (.int n) else none
    | _ => none
  | .str => match t with
    | .sh (.int i) => if i.natAbs.log2 < 1920 then some (.sh (.str (Str.ofString (toString i)))) else none
    | .sh (.bool b) => some (.sh (.str (if b then "True" else "False")))
    | _ => none
  | .sum => match els t with
    | some ds => (asInts ds).map fun is => .sh (.int is.sum)
    | none => none
  | .max => if isL t then match els t with
      | some ds => ((asInts ds).bind maxI).map fun m => .sh (.int m)
      | none => none
    else none
  | .all => if isL t then match els t with
      | some ds => (bools ds).map fun bs => .sh (.bool (bs.all id))
      | none => none
    else none
  | .any => if isL t then match els t with
      | some ds => (bools ds).map fun bs => .sh (.bool (bs.any id))
      | none => none
    else none
  | .tuple => (els t).map fun ds => .sh (.tuple ds)
  | .list => (els t).map ol
  | .sorted => if isL t then ((els t).bind srtD).map ol else none
  | .sset => if isL t then ((els t).bind ssetD).map ol else none
  | .join x => ((els t).bind (joinD x)).map .sh

/-! ### what changes nothing: no def is called within -/
mutual
def spure : E → Bool
  | .var _ => true
  | .io _ => false
  | .non => true
  | .bl _ => true
  | .num _ => true
  | .text _ => true
  | .tup _ => false
  | .lst _ => false
  | .bin _ a b => spure a && spure b
  | .neg a => spure a
  | .bool b => spureB b
  | .ite _ _ _ => false
  | .ix a i => spure a && spure i
  | .sl a lo hi => spure a && spure lo && spure hi
  | .rev a => spure a
  | .isi _ a => spure a
  | .bi _ a => spure a
  | .call _ _ => false
  | .lc _ _ _ _ _ _ _ => false
  | .lc2 _ _ _ _ _ _ _ _ _ => false
def spureB : B → Bool
  | .tt => true
  | .val e => spure e
  | .not b => spureB b
  | .and a b => spureB a && spureB b
  | .or a b => spureB a && spureB b
  | .cmp _ a b => spure a && spure b
  | .chn _ _ a b c => spure a && spure b && spure c
end

def tr2 {α : Type} (f : T → T → Option α) (Γ : Env) (x y : O) : Option α := match x.tree Γ, y.tree Γ with
  | some a, some b => f a b
  | _, _ => none
def tr1 {α : Type} (f : T → Option α) (Γ : Env) (x : O) : Option α := match x.tree Γ with
  | some a => f a
  | none => none
/-- the operand stays at its place only if what follows is spure -/
def keepIf (b : Bool) (o : O) (Γ : Env) : Out O := if b then .ok o Γ else (esc o Γ).bind fun t Γ => .ok (.t t) Γ

/-- a def's end: its value and what its in-out parameters have become -/
inductive FOut where
  | ok (r : T) (outs : List T)
  | ex (c : Nat) (outs : List T)
  | no
inductive Arg where
  | val (d : D)
  | io (k : Nat)
def argTs (Γ : Env) : List Arg → Option (List T)
  | [] => some []
  | .val d :: as => (argTs Γ as).map (.sh d :: ·)
  | .io k :: as => match Γ[k]? with
    | some (some t) => (argTs Γ as).map (t :: ·)
    | _ => none
def ios : List Arg → List Nat
  | [] => []
  | .val _ :: as => ios as
  | .io k :: as => k :: ios as
def putOuts (Γ : Env) : List Nat → List T → Option Env
  | [], [] => some Γ
  | k :: ks, t :: ts => putOuts (Γ.set k (some t)) ks ts
  | _, _ => none
def nodupB : List Nat → Bool
  | [] => true
  | k :: ks => !ks.contains k && nodupB ks
def runCall (Φ : Nat → List T → FOut) (f : Nat) (as : List Arg) (Γ : Env) : Out O := match argTs Γ as with
  | none => .no
  | some ts => if nodupB (ios as) then match Φ f ts with
      | .ok r outs => match putOuts Γ (ios as) outs with
        | some Γ' => .ok (.t r) Γ'
        | none => .no
      | .ex c outs => match putOuts Γ (ios as) outs with
        | some Γ' => .ex c Γ'
        | none => .no
      | .no => .no
    else .no

/-! ### loops over items -/
def setAll (Γ : Env) : List Nat → List D → Option Env
  | [], [] => some Γ
  | i :: is, d :: ds => setAll (Γ.set i (some (.sh d))) is ds
  | _, _ => none
/-- the targets of a for or a comprehension: one name, or a tuple of names -/
def bindTg (one : Bool) (is : List Nat) (d : D) (Γ : Env) : Option Env := match one, is, d with
  | true, [i], d => some (Γ.set i (some (.sh d)))
  | false, is, .tuple ds => setAll Γ is ds
  | _, _, _ => none
/-- the slots vs forgotten; taken back from Γ₀ -/
def hideE (vs : List Nat) : Nat → Env → Env
  | _, [] => []
  | n, x :: Γ => (if vs.contains n then none else x) :: hideE vs (n + 1) Γ
def backE (vs : List Nat) : Nat → Env → Env → Env
  | n, x₀ :: Γ₀, x :: Γ => (if vs.contains n then x₀ else x) :: backE vs (n + 1) Γ₀ Γ
  | _, _, Γ => Γ
abbrev wipeΓ (Γ : Env) (vs : List Nat) : Env := hideE vs 0 Γ
abbrev backΓ (Γ₀ Γ : Env) (vs : List Nat) : Env := backE vs 0 Γ₀ Γ
/-- one turn: the item is bound, tested, turned -/
def lcTurn (bind : D → Env → Option Env) (test : Env → Out Bool) (elt : Env → Out T) (vs : List Nat) (d : D) (Γ : Env) : Out (List T) :=
  (lift (bind d Γ) Γ).bind fun Γ1 _ => (test Γ1).bind fun b Γ2 => if b then (elt Γ2).bind fun t Γ3 => .ok [t] (wipeΓ Γ3 vs) else .ok [] (wipeΓ Γ2 vs)
def lcRun (turn : D → Env → Out (List T)) : List D → Env → Out (List T)
  | [], Γ => .ok [] Γ
  | d :: ds, Γ => (turn d Γ).bind fun o Γ1 => (lcRun turn ds Γ1).bind fun ts Γ2 => .ok (o ++ ts) Γ2
/-- one outer turn of two fors -/
def lc2Turn (bind : D → Env → Option Env) (src1 : Env → Out (List D)) (turn1 : D → Env → Out (List T)) (vs vs1 : List Nat) (d : D) (Γ : Env) : Out (List T) :=
  (lift (bind d Γ) Γ).bind fun Γ1 _ => (src1 Γ1).bind fun ds Γ2 => (lcRun turn1 ds (wipeΓ Γ2 vs1)).bind fun ts Γ3 => .ok ts (wipeΓ Γ3 vs)
def noEx {α : Type} (m : Out α) : Out α := match m with
  | .ok a Γ => .ok a Γ
  | _ => .no
def rngD (lo : Int) : Nat → List D
  | 0 => []
  | n + 1 => .int lo :: rngD (lo + 1) n
def enmD (i : Nat) : List D → List D
  | [] => []
  | d :: ds => .tuple [.int i, d] :: enmD (i + 1) ds
def zipD : List D → List D → List D
  | a :: as, b :: bs => .tuple [a, b] :: zipD as bs
  | _, _ => []
def rngOk (i : Int) : Bool := -1000000 ≤ i ∧ i ≤ 1000000
def signsD (x : Str) : List D := x.cps.toList.map fun c => .str ⟨#[c]⟩
/-- what is walked, as data -/
def itemsT (t : T) : Option (List D) := match t with
  | .sh (.str x) => some (signsD x)
  | t => els t

mutual
def ev (Φ : Nat → List T → FOut) : E → Env → Out O
  | .var i, Γ => match Γ[i]? with
    | some (some (.sh d)) => .ok (.t (.sh d)) Γ
    | some (some _) => .ok (.at i []) Γ
    | _ => .no
  | .io _, _ => .no
  | .non, Γ => .ok (.t (.sh .none)) Γ
  | .bl b, Γ => .ok (.t (.sh (.bool b))) Γ
  | .num i, Γ => .ok (.t (.sh (.int i))) Γ
  | .text x, Γ => .ok (.t (.sh (.str x))) Γ
  | .tup es, Γ => (evDs Φ es Γ).bind fun ds Γ => .ok (.t (.sh (.tuple ds))) Γ
  | .lst es, Γ => (evDs Φ es Γ).bind fun ds Γ => .ok (.t (ol ds)) Γ
  | .bin o a b, Γ => (ev Φ a Γ).bind fun x Γ => (keepIf (spure b) x Γ).bind fun x Γ => (ev Φ b Γ).bind fun y Γ => lift ((tr2 (binT o) Γ x y).map .t) Γ
  | .neg a, Γ => (ev Φ a Γ).bind fun x Γ => lift ((tr1 negT Γ x).map .t) Γ
  | .bool b, Γ => (evB Φ true b Γ).bind fun b Γ => .ok (.t (.sh (.bool b))) Γ
  | .ite c a b, Γ => (evB Φ false c Γ).bind fun k Γ => if k then (ev Φ a Γ).bind fun o Γ => (esc o Γ).bind fun t Γ => .ok (.t t) Γ else (ev Φ b Γ).bind fun o Γ => (esc o Γ).bind fun t Γ => .ok (.t t) Γ
  | .ix a i, Γ => (ev Φ a Γ).bind fun x Γ => (keepIf (spure i) x Γ).bind fun x Γ => (ev Φ i Γ).bind fun j Γ => lift (ixO Γ x j) Γ
  | .sl a lo hi, Γ => (ev Φ a Γ).bind fun x Γ => (keepIf (spure lo && spure hi) x Γ).bind fun x Γ => (ev Φ lo Γ).bind fun l Γ => (lift (part lo l) Γ).bind fun l Γ => (ev Φ hi Γ).bind fun h Γ => (lift (part hi h) Γ).bind fun h Γ => lift ((tr1 (slT l h) Γ x).map .t) Γ
  | .rev a, Γ => (ev Φ a Γ).bind fun x Γ => lift ((tr1 revT Γ x).map .t) Γ
  | .isi ty a, Γ => (ev Φ a Γ).bind fun x Γ => lift ((tr1 (isiT ty) Γ x).map .t) Γ
  | .bi f a, Γ => (ev Φ a Γ).bind fun x Γ => lift ((tr1 (biT f) Γ x).map .t) Γ
  | .call f as, Γ => (evAs Φ as Γ).bind fun as Γ => runCall Φ f as Γ
  | .lc elt tg one src c vs own, Γ => (evI Φ src Γ).bind fun ds Γ => if lineOk ds.length then noEx ((lcRun (lcTurn (bindTg one tg) (evB Φ false c) (fun Γ => (ev Φ elt Γ).bind fun o Γ => (esc o Γ).bind fun t Γ => if own then .ok t Γ else (fzO t Γ).bind fun d Γ => .ok (.sh d) Γ) vs) ds (wipeΓ Γ vs)).bind fun ts Γ' => .ok (.t (.ol ts)) (backΓ Γ Γ' vs)) else .no
  | .lc2 elt tg one src tg1 one1 src1 vs vs1, Γ => (evI Φ src Γ).bind fun ds Γ => noEx ((lcRun (lc2Turn (bindTg one tg) (evI Φ src1) (lcTurn (bindTg one1 tg1) (fun Γ => .ok true Γ) (fun Γ => (ev Φ elt Γ).bind fun o Γ => (escD o Γ).bind fun d Γ => .ok (.sh d) Γ) vs1) vs vs1) ds (wipeΓ Γ vs)).bind fun ts Γ' => if lineOk ts.length then .ok (.t (.ol ts)) (backΓ Γ Γ' vs) else .no)
def evDs (Φ : Nat → List T → FOut) : Es → Env → Out (List D)
  | .nil, Γ => .ok [] Γ
  | .cons e es, Γ => (ev Φ e Γ).bind fun o Γ => (escD o Γ).bind fun d Γ => (evDs Φ es Γ).bind fun ds Γ => .ok (d :: ds) Γ
def evAs (Φ : Nat → List T → FOut) : Es → Env → Out (List Arg)
  | .nil, Γ => .ok [] Γ
  | .cons (.io k) es, Γ => match Γ[k]? with
    | some (some _) => (evAs Φ es Γ).bind fun as Γ => .ok (.io k :: as) Γ
    | _ => .no
  | .cons e es, Γ => (ev Φ e Γ).bind fun o Γ => (escD o Γ).bind fun d Γ => (evAs Φ es Γ).bind fun as Γ => .ok (.val d :: as) Γ
/-- what a for or a comprehension walks -/
def evI (Φ : Nat → List T → FOut) : I → Env → Out (List D)
  | .rng a, Γ => (ev Φ a Γ).bind fun x Γ => (escD x Γ).bind fun x Γ => match x with
    | .int n => if rngOk n then .ok (rngD 0 n.toNat) Γ else .no
    | _ => .no
  | .rng2 a b, Γ => (ev Φ a Γ).bind fun x Γ => (escD x Γ).bind fun x Γ => (ev Φ b Γ).bind fun y Γ => (escD y Γ).bind fun y Γ => match x, y with
    | .int m, .int n => if rngOk m && rngOk n then .ok (rngD m (n - m).toNat) Γ else .no
    | _, _ => .no
  | .enm a, Γ => (ev Φ a Γ).bind fun x Γ => (escD x Γ).bind fun x Γ => (lift (els (.sh x)) Γ).bind fun ds Γ => .ok (enmD 0 ds) Γ
  | .zip a b, Γ => (ev Φ a Γ).bind fun x Γ => (escD x Γ).bind fun x Γ => (ev Φ b Γ).bind fun y Γ => (escD y Γ).bind fun y Γ => (lift (els (.sh x)) Γ).bind fun xs Γ => (lift (els (.sh y)) Γ).bind fun ys Γ => .ok (zipD xs ys) Γ
  | .seq e, Γ => (ev Φ e Γ).bind fun x Γ => (escD x Γ).bind fun x Γ => lift (itemsT (.sh x)) Γ
def evB (Φ : Nat → List T → FOut) (st : Bool) : B → Env → Out Bool
  | .tt, Γ => .ok true Γ
  | .val e, Γ => (ev Φ e Γ).bind fun x Γ => lift (tr1 (if st then strictT else truthT) Γ x) Γ
  | .not (.val e), Γ => (ev Φ e Γ).bind fun x Γ => (lift (tr1 truthT Γ x) Γ).bind fun k Γ => .ok (!k) Γ
  | .not b, Γ => (evB Φ st b Γ).bind fun k Γ => .ok (!k) Γ
  | .and a b, Γ => (evB Φ st a Γ).bind fun k Γ => if k then evB Φ st b Γ else .ok false Γ
  | .or a b, Γ => (evB Φ st a Γ).bind fun k Γ => if k then .ok true Γ else evB Φ st b Γ
  | .cmp o a b, Γ => (ev Φ a Γ).bind fun x Γ => (keepIf (spure b) x Γ).bind fun x Γ => (ev Φ b Γ).bind fun y Γ => lift (tr2 (cmpT o) Γ x y) Γ
  | .chn o o' a b c, Γ => (ev Φ a Γ).bind fun x Γ => (keepIf (spure b) x Γ).bind fun x Γ => (ev Φ b Γ).bind fun y Γ => (lift (tr2 (cmpT o) Γ x y) Γ).bind fun k Γ =>
      if k then (keepIf (spure c) y Γ).bind fun y Γ => (ev Φ c Γ).bind fun z Γ => lift (tr2 (cmpT o') Γ y z) Γ else .ok false Γ
end
example (Φ : Nat → List T → FOut) (Γ : Env) : ev Φ .non Γ = .ok (.t (.sh .none)) Γ := rfl
end Z

set_option Elab.async false
set_option linter.all false
set_option maxRecDepth 100000
namespace Z
open PySem L2

/-- along a path of children -/
inductive Fol (G : Hp) (C : List Cell) : V → List Nat → V → Prop
  | nil {v : V} : Fol G C v [] v
  | lst {p : Addr} {vs : List V} {j : Nat} {q : List Nat} {v' v : V} : (p, .lst vs) ∈ C → vs[j]? = some v' → Fol G C v' q v → Fol G C (.ref p) (j :: q) v
  | ins {p c dx : Addr} {fs : List (Str × V)} {f : Str} {j : Nat} {q : List Nat} {v' v : V} : (p, .ins c dx fs) ∈ C → fs[j]? = some (f, v') → Fol G C v' q v → Fol G C (.ref p) (j :: q) v
  | tup {p : Addr} {vs : List V} {j : Nat} {q : List Nat} {v' v : V} : G p = some (.tup vs) → vs[j]? = some v' → Fol G C v' q v → Fol G C (.ref p) (j :: q) v
theorem Fol.mono {G G' : Hp} {C : List Cell} (e : Same G G') {v : V} {p : List Nat} {v' : V} (h : Fol G C v p v') : Fol G' C v p v' := by
  induction h with
  | nil => exact .nil
  | lst h1 h2 _ ih => exact .lst h1 h2 ih
  | ins h1 h2 _ ih => exact .ins h1 h2 ih
  | tup h1 h2 _ ih => exact .tup (e _ _ h1) h2 ih
theorem Fol.snoc {G : Hp} {C : List Cell} {v : V} {p : List Nat} {v' : V} {q : List Nat} {v'' : V} (h : Fol G C v p v') (h' : Fol G C v' q v'') : Fol G C v (p ++ q) v'' := by
  induction h with
  | nil => exact h'
  | lst h1 h2 _ ih => exact .lst h1 h2 (ih h')
  | ins h1 h2 _ ih => exact .ins h1 h2 (ih h')
  | tup h1 h2 _ ih => exact .tup h1 h2 (ih h')

section
variable {K : PySem.W.Frag} {κ : Nat → Addr}
theorem RelTs.len {G : Hp} : ∀ {vs : List V} {ts : List T} {C : List Cell}, RelTs K κ G vs ts C → vs.length = ts.length
  | _, _, _, .nil => rfl
  | _, _, _, .cons _ h => by simp [h.len]
theorem RelTs.get {G : Hp} : ∀ {vs : List V} {ts : List T} {C : List Cell} {j : Nat} {t : T}, RelTs K κ G vs ts C → ts[j]? = some t → ∃ v Ct, vs[j]? = some v ∧ RelT K κ G v t Ct ∧ (∀ c ∈ Ct, c ∈ C) ∧ ∀ a, cnt a Ct ≤ cnt a C
  | _, _, _, j, _, .nil, e => by simp at e
  | _, _, _, 0, t, .cons (v := v) (C := C1) h1 h2, e => by
    simp at e; subst e
    exact ⟨v, C1, rfl, h1, fun c hc => List.mem_append_left _ hc, fun a => by simp⟩
  | _, _, _, j + 1, t, .cons h1 h2, e => by
    obtain ⟨v, Ct, a, b, c, d⟩ := h2.get (j := j) (t := t) (by simpa using e)
    exact ⟨v, Ct, by simpa using a, b, fun x hx => List.mem_append_right _ (c x hx), fun a => by have := d a; simp; omega⟩
theorem zip_get {ns : List Str} {vs : List V} (h : ns.length = vs.length) {j : Nat} {f : Str} {v : V} (e : (ns.zip vs)[j]? = some (f, v)) : vs[j]? = some v := by
  rw [List.getElem?_zip_eq_some] at e
  exact e.2
/-- a tree's part, and its value -/
theorem RelT.at {G : Hp} {C : List Cell} (hc : ∀ c ∈ C, ∀ c' ∈ C, c.1 = c'.1 → c = c') (hg : ∀ c ∈ C, G c.1 = none) : ∀ {p : List Nat} {v0 v : V} {t0 t : T} {C0 : List Cell}, RelT K κ G v0 t0 C0 → (∀ c ∈ C0, c ∈ C) → Fol G C v0 p v → sub t0 p = some t →
    ∃ Ct, RelT K κ G v t Ct ∧ ∀ c ∈ Ct, c ∈ C
  | [], v0, v, t0, t, C0, h, hs, hf, e => by
    cases hf
    unfold sub at e
    cases e
    exact ⟨C0, h, hs⟩
  | j :: p, v0, v, t0, t, C0, h, hs, hf, e => by
    unfold sub at e
    cases hk : kid t0 j with
    | none => rw [hk] at e; cases e
    | some u =>
      rw [hk] at e
      cases h with
      | sh h => unfold kid at hk; cases hk
      | @ol q vs ts C1 h =>
        unfold kid at hk
        obtain ⟨w, Cw, a, b, c, _⟩ := h.get hk
        have hm := hs _ List.mem_cons_self
        have sub' : ∀ x ∈ Cw, x ∈ C := fun x hx => hs x (List.mem_cons_of_mem _ (c x hx))
        cases hf with
        | @lst _ vs' _ _ v' _ m1 m2 m3 =>
          have e2 := hc _ hm _ m1 rfl
          injection e2 with _ e3
          injection e3 with e3
          subst e3
          rw [a] at m2; cases m2
          exact RelT.at hc hg b sub' m3 e
        | @ins _ _ _ fs f _ _ v' _ m1 m2 m3 =>
          have e2 := hc _ hm _ m1 rfl
          injection e2 with _ e3
          cases e3
        | tup m1 m2 m3 =>
          have := hg _ hm
          rw [m1] at this; cases this
      | @ob q dx cl ns vs ts C1 hl h =>
        unfold kid at hk
        obtain ⟨w, Cw, a, b, c, _⟩ := h.get hk
        have hm := hs _ List.mem_cons_self
        have sub' : ∀ x ∈ Cw, x ∈ C := fun x hx => hs x (List.mem_cons_of_mem _ (List.mem_cons_of_mem _ (c x hx)))
        cases hf with
        | @lst _ vs' _ _ v' _ m1 m2 m3 =>
          have e2 := hc _ hm _ m1 rfl
          injection e2 with _ e3
          cases e3
        | @ins _ _ _ fs f _ _ v' _ m1 m2 m3 =>
          have e2 := hc _ hm _ m1 rfl
          injection e2 with _ e3
          injection e3 with _ _ e4
          subst e4
          have := zip_get hl m2
          rw [a] at this; cases this
          exact RelT.at hc hg b sub' m3 e
        | tup m1 m2 m3 =>
          have := hg _ hm
          rw [m1] at this; cases this
      | @tp q vs ts C1 hq h =>
        unfold kid at hk
        obtain ⟨w, Cw, a, b, c, _⟩ := h.get hk
        have sub' : ∀ x ∈ Cw, x ∈ C := fun x hx => hs x (c x hx)
        cases hf with
        | @lst _ vs' _ _ v' _ m1 m2 m3 =>
          have := hg _ m1
          rw [hq] at this; cases this
        | @ins _ _ _ fs f _ _ v' _ m1 m2 m3 =>
          have := hg _ m1
          rw [hq] at this; cases this
        | @tup _ vs' _ _ v' _ m1 m2 m3 =>
          rw [hq] at m1; cases m1
          rw [a] at m2; cases m2
          exact RelT.at hc hg b sub' m3 e

theorem cells_one {C : List Cell} (nd : ∀ a, cnt a C ≤ 1) : ∀ c ∈ C, ∀ c' ∈ C, c.1 = c'.1 → c = c' := by
  induction C with
  | nil => intro c hc; cases hc
  | cons x C ih =>
    have nd' : ∀ a, cnt a C ≤ 1 := fun a => by have := nd a; rw [cnt_cons] at this; omega
    intro c hc c' hc' e
    rcases List.mem_cons.mp hc with h | h
    · rcases List.mem_cons.mp hc' with h' | h'
      · rw [h, h']
      · have := nd x.1
        rw [cnt_cons] at this
        have z := mem_cnt h'
        rw [← e, h] at z
        simp at this
        omega
    · rcases List.mem_cons.mp hc' with h' | h'
      · have := nd x.1
        rw [cnt_cons] at this
        have z := mem_cnt h
        rw [e, h'] at z
        simp at this
        omega
      · exact ih nd' c h c' h' e

/-- an operand and its value -/
def RelO (K : PySem.W.Frag) (κ : Nat → Addr) (G : Hp) (σ : St) (Γ : Env) (C : List Cell) (v : V) : O → List Cell → Prop
  | .t t, Co => RelT K κ G v t Co
  | .at k p, Co => Co = [] ∧ ∃ v0, σ[k]? = some (some v0) ∧ Fol G C v0 p v
theorem RelO.mono {G G' : Hp} (e : Same G G') {σ : St} {Γ : Env} {C : List Cell} {v : V} {o : O} {Co : List Cell} (h : RelO K κ G σ Γ C v o Co) : RelO K κ G' σ Γ C v o Co := by
  cases o with
  | t t => exact RelT.mono (show RelT K κ G v t Co from h) e
  | «at» k p =>
    obtain ⟨h1, v0, h2, h3⟩ := h
    exact ⟨h1, v0, h2, h3.mono e⟩
/-- the tree of an operand -/
theorem RelO.tree {G H : Hp} {σ : St} {Γ : Env} {C Co F : List Cell} {v : V} {o : O} {t : T} (h : RelO K κ G σ Γ C v o Co) (g : Good G (Co ++ (C ++ F)) H) (r : RelG K κ G σ Γ C) (e : o.tree Γ = some t) :
    ∃ Ct, RelT K κ G v t Ct ∧ ∀ c ∈ Ct, c ∈ Co ++ (C ++ F) := by
  cases o with
  | t x =>
    unfold O.tree at e
    cases e
    exact ⟨Co, h, fun c hc => List.mem_append_left _ hc⟩
  | «at» k p =>
    obtain ⟨h1, v0, h2, h3⟩ := h
    unfold O.tree look at e
    simp only at e
    split at e
    · rename_i t0 hk
      obtain ⟨w, Ca, Ct, Cb, q1, q2, q3, _, _⟩ := r.get hk
      rw [h2] at q1; cases q1
      have gC : Good G C H := g.re (fun a => by simp; omega) (fun c hc => by simp [hc])
      obtain ⟨Cs, a, b⟩ := RelT.at (C := C) (cells_one gC.nd) (fun c hc => (gC.mem c hc).2) q3 (fun c hc => by rw [q2]; simp [hc]) h3 e
      exact ⟨Cs, a, fun c hc => by simp [b c hc]⟩
    · cases e
end

/-! ### readings -/
/-- ea: where the classes of exceptions stand; κ: those of instances -/
structure Tb where
  κ : Nat → Addr
  ea : Nat → Addr

def tO (K : PySem.W.Frag) (τ : Tb) (W : WX) (run : Env → Out O) (sp : Bool) : TE := fun σ H Q => ∃ F Γ G C, Good G (C ++ F) H ∧ RelG K τ.κ G σ Γ C ∧ match run Γ with
  | .ok o Γ' => ∀ v H' G' C' Co, Same G G' → Good G' (Co ++ (C' ++ F)) H' → RelG K τ.κ G' σ Γ' C' → RelO K τ.κ G' σ Γ' C' v o Co → (sp = true → Γ' = Γ ∧ C' = C) → Q v H'
  | .ex c Γ' => ∀ H' G' C', Same G G' → Good G' (C' ++ F) H' → RelG K τ.κ G' σ Γ' C' → W (.ref (τ.ea c)) none σ H'
  | .no => False
/-- .. of data for good; of a list of such -/
def tD (K : PySem.W.Frag) (τ : Tb) (W : WX) (run : Env → Out D) : TE := fun σ H Q => ∃ F Γ G C, Good G (C ++ F) H ∧ RelG K τ.κ G σ Γ C ∧ match run Γ with
  | .ok d Γ' => ∀ v H' G' C', Same G G' → Good G' (C' ++ F) H' → RelG K τ.κ G' σ Γ' C' → Dp K G' v d → Q v H'
  | .ex c Γ' => ∀ H' G' C', Same G G' → Good G' (C' ++ F) H' → RelG K τ.κ G' σ Γ' C' → W (.ref (τ.ea c)) none σ H'
  | .no => False
def tDs (K : PySem.W.Frag) (τ : Tb) (W : WX) (run : Env → Out (List D)) : TA := fun σ H Q => ∃ F Γ G C, Good G (C ++ F) H ∧ RelG K τ.κ G σ Γ C ∧ match run Γ with
  | .ok ds Γ' => ∀ vs H' G' C', Same G G' → Good G' (C' ++ F) H' → RelG K τ.κ G' σ Γ' C' → DpAll K G' vs ds → Q vs H'
  | .ex c Γ' => ∀ H' G' C', Same G G' → Good G' (C' ++ F) H' → RelG K τ.κ G' σ Γ' C' → W (.ref (τ.ea c)) none σ H'
  | .no => False
def tB (K : PySem.W.Frag) (τ : Tb) (W : WX) (run : Env → Out Bool) (sp : Bool) : TT := fun σ H Q => ∃ F Γ G C, Good G (C ++ F) H ∧ RelG K τ.κ G σ Γ C ∧ match run Γ with
  | .ok b Γ' => ∀ H' G' C', Same G G' → Good G' (C' ++ F) H' → RelG K τ.κ G' σ Γ' C' → (sp = true → Γ' = Γ ∧ C' = C) → Q b H'
  | .ex c Γ' => ∀ H' G' C', Same G G' → Good G' (C' ++ F) H' → RelG K τ.κ G' σ Γ' C' → W (.ref (τ.ea c)) none σ H'
  | .no => False

theorem _root_.L2.PE.imp {X : Cx} {e : Expr} {t t' : TE} (h : PE X e t) (hi : ∀ σ H Q, t' σ H Q → t σ H Q) : PE X e t' := ⟨fun pins s σ H Q I q => h.run pins s σ H Q I (hi σ H Q q)⟩
theorem _root_.L2.PT.imp {X : Cx} {e : Expr} {t t' : TT} (h : PT X e t) (hi : ∀ σ H Q, t' σ H Q → t σ H Q) : PT X e t' := ⟨fun pins s σ H Q I q => h.run pins s σ H Q I (hi σ H Q q)⟩
theorem _root_.L2.PW.imp {X : Cx} {e : Expr} {t t' : TT} (h : PW X e t) (hi : ∀ σ H Q, t' σ H Q → t σ H Q) : PW X e t' := ⟨fun w pins s σ H Q I q => h.run w pins s σ H Q I (hi σ H Q q)⟩
theorem _root_.L2.PA.imp {X : Cx} {e : List Expr} {t t' : TA} (h : PA X e t) (hi : ∀ σ H Q, t' σ H Q → t σ H Q) : PA X e t' := ⟨fun pos pins s σ H Q I q => h.run pos pins s σ H Q I (hi σ H Q q)⟩

section
variable {X : Cx} {τ : Tb} {W : WX} {K : PySem.W.Frag}
/-- the operand is given up: what is given is data for good -/
theorem RelO.esc {G H : Hp} {σ : St} {Γ : Env} {C Co F : List Cell} {v : V} {o : O} {t : T} {Γ' : Env} (h : RelO K τ.κ G σ Γ C v o Co) (g : Good G (Co ++ (C ++ F)) H) (r : RelG K τ.κ G σ Γ C) (e : esc o Γ = .ok t Γ') :
    ∃ G' C' Ct, Same G G' ∧ Good G' (Ct ++ (C' ++ F)) H ∧ RelG K τ.κ G' σ Γ' C' ∧ RelT K τ.κ G' v t Ct := by
  cases o with
  | t x =>
    unfold Z.esc at e
    cases e
    exact ⟨G, C, Co, L2.Same.refl G, g, r, h⟩
  | «at» k p =>
    cases p with
    | cons j p => unfold Z.esc at e; cases e
    | nil =>
      obtain ⟨h1, v0, h2, h3⟩ := h
      cases h3
      unfold Z.esc at e
      simp only at e
      split at e
      · rename_i t0 hk
        split at e
        · rename_i d hz
          cases e
          unfold look at hk
          split at hk
          · rename_i t1 hk1
            unfold sub at hk
            cases hk
            obtain ⟨w, Ca, Ct, Cb, q1, q2, q3, q4, q5⟩ := r.get hk1
            rw [h2] at q1; cases q1
            subst q2 h1
            have g' : Good G (Ct ++ ((Ca ++ Cb) ++ F)) H := g.re (fun a => by simp; omega) (fun c hc => by simp at hc ⊢; grind)
            obtain ⟨G', s1, g1, d1⟩ := q3.freeze g' hz
            refine ⟨G', Ca ++ Cb, [], s1, g1, ?_, .sh d1⟩
            have r' := q5 G' (.sh d) [] s1 (.sh d1)
            exact r'
          · cases hk
        · cases e
      · cases e
end
end Z

set_option Elab.async false
set_option linter.all false
set_option maxRecDepth 100000
namespace Z
open PySem L2

section
variable {X : Cx} {τ : Tb} {W : WX} {K : PySem.W.Frag} {Φ : Nat → List T → FOut}

theorem esc_not_ex {o : O} {Γ Γ' : Env} {c : Nat} (h : esc o Γ = .ex c Γ') : False := by
  unfold esc at h
  split at h
  · cases h
  · split at h
    · split at h <;> cases h
    · cases h
  · cases h
theorem lift_not_ex {α : Type} {o : Option α} {Γ Γ' : Env} {c : Nat} (h : lift o Γ = .ex c Γ') : False := by
  cases o <;> cases h
theorem lift_ok {α : Type} {o : Option α} {Γ Γ' : Env} {a : α} (h : lift o Γ = .ok a Γ') : o = some a ∧ Γ' = Γ := by
  cases o with
  | none => cases h
  | some x => cases h; exact ⟨rfl, rfl⟩
theorem keep_step {G H : Hp} {σ : St} {Γ : Env} {C Co F : List Cell} {v : V} {o : O} {b : Bool} (h : RelO K τ.κ G σ Γ C v o Co) (g : Good G (Co ++ (C ++ F)) H) (r : RelG K τ.κ G σ Γ C) {o' : O} {Γ' : Env} (e : keepIf b o Γ = .ok o' Γ') :
    ∃ G' C' Co', Same G G' ∧ Good G' (Co' ++ (C' ++ F)) H ∧ RelG K τ.κ G' σ Γ' C' ∧ RelO K τ.κ G' σ Γ' C' v o' Co' ∧ (b = true ∨ ∃ t, o' = .t t) ∧ (b = true → Γ' = Γ ∧ C' = C) := by
  unfold keepIf at e
  cases b with
  | true =>
    simp at e
    obtain ⟨rfl, rfl⟩ := e
    exact ⟨G, C, Co, L2.Same.refl G, g, r, h, .inl rfl, fun _ => ⟨by first | rfl | trivial, rfl⟩⟩
  | false =>
    simp only [Bool.false_eq_true, if_false] at e
    cases q : esc o Γ with
    | no => rw [q] at e; cases e
    | ex c Γ1 => exact (esc_not_ex q).elim
    | ok t Γ1 =>
      rw [q] at e
      cases e
      obtain ⟨G', C', Ct, a, b, c, d⟩ := h.esc g r q
      exact ⟨G', C', Ct, a, b, c, d, .inr ⟨t, rfl⟩, fun z => nomatch z⟩
theorem keep_not_ex {b : Bool} {o : O} {Γ Γ' : Env} {c : Nat} (h : keepIf b o Γ = .ex c Γ') : False := by
  unfold keepIf at h
  cases b with
  | true => cases h
  | false =>
    simp only [Bool.false_eq_true, if_false] at h
    cases q : esc o Γ with
    | no => rw [q] at h; cases h
    | ex c Γ1 => exact esc_not_ex q
    | ok t Γ1 => rw [q] at h; cases h
/-- an operand waits while the next one is evaluated -/
theorem RelO.wait {G G' : Hp} {σ : St} {Γ Γ' : Env} {C C' Co : List Cell} {v : V} {o : O} {b : Bool} (h : RelO K τ.κ G σ Γ C v o Co) (e : Same G G') (hb : b = true ∨ ∃ t, o = .t t) (hs : b = true → Γ' = Γ ∧ C' = C) : RelO K τ.κ G' σ Γ' C' v o Co := by
  rcases hb with hb | ⟨t, rfl⟩
  · obtain ⟨rfl, rfl⟩ := hs hb
    exact h.mono e
  · exact RelT.mono (show RelT K τ.κ G v t Co from h) e

/-- a two-place operation on trees meets the rule r -/
def Op2 (K : PySem.W.Frag) (τ : Tb) (r : R2) (op : T → T → Option T) : Prop := ∀ (G : Hp) (C : List Cell) (H : Hp) (v w : V) (x y z : T) (Cx Cy : List Cell) (Q : VK), Good G C H → RelT K τ.κ G v x Cx → (∀ c ∈ Cx, c ∈ C) → RelT K τ.κ G w y Cy → (∀ c ∈ Cy, c ∈ C) → op x y = some z →
  (∀ u H' G' Cz, Same G G' → Good G' (Cz ++ C) H' → RelT K τ.κ G' u z Cz → Q u H') → r v w H Q
def Op1 (K : PySem.W.Frag) (τ : Tb) (r : V → Hp → VK → Prop) (op : T → Option T) : Prop := ∀ (G : Hp) (C : List Cell) (H : Hp) (v : V) (x z : T) (Cx : List Cell) (Q : VK), Good G C H → RelT K τ.κ G v x Cx → (∀ c ∈ Cx, c ∈ C) → op x = some z →
  (∀ u H' G' Cz, Same G G' → Good G' (Cz ++ C) H' → RelT K τ.κ G' u z Cz → Q u H') → r v H Q
/-- what is left to be shown of a result that is an operand, the slots as they are -/
def FinO (K : PySem.W.Frag) (τ : Tb) (G : Hp) (σ : St) (Γ : Env) (C F : List Cell) (o : O) (Q : VK) : Prop := ∀ u H' G' Co, Same G G' → Good G' (Co ++ (C ++ F)) H' → RelG K τ.κ G' σ Γ C → RelO K τ.κ G' σ Γ C u o Co → Q u H'

theorem two_opd {a b : E} {R : V → V → Hp → VK → Prop} {σ : St} {H : Hp} {Q : VK} {F : List Cell} {Γ : Env} {G : Hp} {C : List Cell} {α : Type} {fin : Env → O → O → Option α} {P : Env → α → Hp → List Cell → Prop} {Pe : Nat → Env → Prop}
    (g : Good G (C ++ F) H) (r0 : RelG K τ.κ G σ Γ C)
    (hW : ∀ c Γ', Pe c Γ' → ∀ H' G' C', Same G G' → Good G' (C' ++ F) H' → RelG K τ.κ G' σ Γ' C' → W (.ref (τ.ea c)) none σ H')
    (h : match ((ev Φ a Γ).bind fun x Γ => (keepIf (spure b) x Γ).bind fun x Γ => (ev Φ b Γ).bind fun y Γ => lift (fin Γ x y) Γ : Out α) with
      | .ok z Γ' => ∀ G' C', Same G G' → ((spure a && spure b) = true → Γ' = Γ ∧ C' = C) → P Γ' z G' C'
      | .ex c Γ' => Pe c Γ'
      | .no => False)
    (hfin : ∀ (G' : Hp) (Γ' : Env) (C' Cx Cy : List Cell) (H' : Hp) (v w : V) (x y : O) (z : α), Same G G' → Good G' (Cx ++ (Cy ++ (C' ++ F))) H' → RelG K τ.κ G' σ Γ' C' → RelO K τ.κ G' σ Γ' C' v x Cx → RelO K τ.κ G' σ Γ' C' w y Cy → fin Γ' x y = some z → P Γ' z G' C' → R v w H' Q) :
    tO K τ W (ev Φ a) (spure a) σ H fun x H1 => tO K τ W (ev Φ b) (spure b) σ H1 fun y H2 => R x y H2 Q := by
  refine ⟨F, Γ, G, C, g, r0, ?_⟩
  cases hA : ev Φ a Γ with
  | no => simp only [hA, Out.bind_no] at h
  | ex c Γ1 => simp only [hA, Out.bind_ex] at h ⊢; exact hW c Γ1 h
  | ok x Γ1 =>
    simp only [hA, Out.bind_ok] at h ⊢
    intro v1 H1 G1 C1 Co1 e1 g1 r1 o1 sp1
    cases hK : keepIf (spure b) x Γ1 with
    | no => simp only [hK, Out.bind_no] at h
    | ex c Γ2 => exact (keep_not_ex hK).elim
    | ok x' Γ2 =>
      simp only [hK, Out.bind_ok] at h
      obtain ⟨G2, C2, Co2, e2, g2, r2, o2, k2, sp2⟩ := keep_step o1 g1 r1 hK
      refine ⟨Co2 ++ F, Γ2, G2, C2, g2.re (fun a => by simp <;> omega) (fun c hc => by simp at hc ⊢; grind), r2, ?_⟩
      cases hB : ev Φ b Γ2 with
      | no => simp only [hB, Out.bind_no] at h
      | ex c Γ3 =>
        simp only [hB, Out.bind_ex] at h ⊢
        intro H3 G3 C3 e3 g3 r3
        exact hW c Γ3 h H3 G3 C3 (e1.trans (e2.trans e3)) (g3.re (fun a => by simp <;> omega) (fun c hc => by simp at hc ⊢; grind)) r3
      | ok y Γ3 =>
        simp only [hB, Out.bind_ok] at h ⊢
        intro w3 H3 G3 C3 Co3 e3 g3 r3 o3 sp3
        have o2' := o2.wait e3 k2 sp3
        cases hz : fin Γ3 x' y with
        | none => simp only [hz, lift_none] at h
        | some z =>
          simp only [hz, lift_some] at h
          have hs : (spure a && spure b) = true → Γ3 = Γ ∧ C3 = C := fun z => by
            rw [Bool.and_eq_true] at z
            obtain ⟨q1, q2⟩ := sp1 z.1
            obtain ⟨q3, q4⟩ := sp2 z.2
            obtain ⟨q5, q6⟩ := sp3 z.2
            exact ⟨q5.trans (q3.trans q1), q6.trans (q4.trans q2)⟩
          exact hfin G3 Γ3 C3 Co2 Co3 H3 v1 w3 x' y z ((e1.trans e2).trans e3) (g3.re (fun a => by simp <;> omega) (fun c hc => by simp at hc ⊢; grind)) r3 o2' o3 hz (h G3 C3 ((e1.trans e2).trans e3) hs)
/-! ### leaves -/
theorem s_const {e : Expr} {v : V} {d : D} {i : E} (he : PE X e (tC v)) (hd : ∀ G, Dp X.K G v d) (hi : ∀ Γ, ev Φ i Γ = .ok (.t (.sh d)) Γ) : PE X e (tO X.K τ W (ev Φ i) true) := by
  refine he.imp fun σ H Q h => ?_
  obtain ⟨F, Γ, G, C, g, r0, h⟩ := h
  simp only [hi] at h
  exact h v H G C [] (L2.Same.refl G) g r0 (.sh (hd G)) fun _ => ⟨by first | rfl | trivial, rfl⟩
theorem s_non {j pos} : PE X (.Constant .none j pos) (tO X.K τ W (ev Φ .non) true) := s_const pe_non (fun _ => .non) fun _ => rfl
theorem s_bl {b j pos} : PE X (.Constant (.bool b) j pos) (tO X.K τ W (ev Φ (.bl b)) true) := s_const pe_bl (fun _ => .bl b) fun _ => rfl
theorem s_num {i j pos} : PE X (.Constant (.int i) j pos) (tO X.K τ W (ev Φ (.num i)) true) := s_const pe_int (fun _ => .int i) fun _ => rfl
theorem s_text {x j pos} : PE X (.Constant (.str x) j pos) (tO X.K τ W (ev Φ (.text x)) true) := s_const pe_str (fun _ => .str x) fun _ => rfl
theorem s_var {i : Nat} {x : Str} {pos : Pos} (hN : X.N[i]? = some x) (hv : Vis X.env.scope x) (hd : (x == ("__debug__" : Str)) = false) (hcd : (x == ("__classdict__" : Str)) = false) : PE X (.Name x pos) (tO X.K τ W (ev Φ (.var i)) true) := by
  refine (pe_var hN hv hd hcd).imp fun σ H Q h => ?_
  obtain ⟨F, Γ, G, C, g, r0, h⟩ := h
  unfold ev at h
  cases hk : Γ[i]? with
  | none => simp only [hk] at h
  | some o =>
    cases o with
    | none => simp only [hk] at h
    | some t =>
      obtain ⟨v, Ca, Ct, Cb, h1, h2, h3, _, _⟩ := r0.get hk
      refine ⟨v, h1, ?_⟩
      have owned : (∀ v1 H' G' C' Co, Same G G' → Good G' (Co ++ (C' ++ F)) H' → RelG X.K τ.κ G' σ Γ C' → RelO X.K τ.κ G' σ Γ C' v1 (.at i []) Co → (True → True ∧ C' = C) → Q v1 H') → Q v H := fun q =>
        q v H G C [] (L2.Same.refl G) g r0 ⟨rfl, v, h1, .nil⟩ fun _ => ⟨by first | rfl | trivial, rfl⟩
      cases t with
      | sh d =>
        simp only [hk] at h
        cases h3 with
        | sh h3 => exact h v H G C [] (L2.Same.refl G) g r0 (.sh h3) fun _ => ⟨by first | rfl | trivial, rfl⟩
      | ol ts => simp only [hk] at h; exact owned h
      | ob c ns ts => simp only [hk] at h; exact owned h
      | tp ts => simp only [hk] at h; exact owned h
/-- data for good -/
theorem s_D {e : Expr} {i : E} (he : PE X e (tO X.K τ W (ev Φ i) (spure i))) : PE X e (tD X.K τ W (fun Γ => (ev Φ i Γ).bind fun o Γ => escD o Γ)) := by
  refine he.imp fun σ H Q h => ?_
  obtain ⟨F, Γ, G, C, g, r0, h⟩ := h
  refine ⟨F, Γ, G, C, g, r0, ?_⟩
  cases hA : ev Φ i Γ with
  | no => simp only [hA, Out.bind_no] at h
  | ex c Γ1 => simp only [hA, Out.bind_ex] at h ⊢; exact h
  | ok o Γ1 =>
    simp only [hA, Out.bind_ok] at h ⊢
    intro v H1 G1 C1 Co e1 g1 r1 o1 _
    unfold escD fzO at h
    cases hE : esc o Γ1 with
    | no => simp only [hE, Out.bind_no] at h
    | ex c Γ2 => exact (esc_not_ex hE).elim
    | ok t Γ2 =>
      simp only [hE, Out.bind_ok] at h
      obtain ⟨G2, C2, Ct, e2, g2, r2, t2⟩ := o1.esc g1 r1 hE
      cases hz : t.fz with
      | none => simp only [hz, lift_none] at h
      | some d =>
        simp only [hz, lift_some] at h
        obtain ⟨G3, e3, g3, d3⟩ := t2.freeze g2 hz
        exact h v H1 G3 C2 ((e1.trans e2).trans e3) g3 (r2.mono e3) d3
/-- several, from the left -/
theorem s_Ds_nil : PA X [] (tDs X.K τ W (evDs Φ .nil)) := by
  refine pa_nil.imp fun σ H Q h => ?_
  obtain ⟨F, Γ, G, C, g, r0, h⟩ := h
  unfold evDs at h
  exact h [] H G C (L2.Same.refl G) g r0 .nil
theorem s_Ds_cons {e : Expr} {es : List Expr} {i : E} {is : Es} (he : PE X e (tO X.K τ W (ev Φ i) (spure i))) (hes : PA X es (tDs X.K τ W (evDs Φ is))) (hs : starEach (e :: es) X.env = (false, eval e X.env) :: starEach es X.env) : PA X (e :: es) (tDs X.K τ W (evDs Φ (.cons i is))) := by
  refine (pa_cons (s_D he) hes hs).imp fun σ H Q h => ?_
  obtain ⟨F, Γ, G, C, g, r0, h⟩ := h
  refine ⟨F, Γ, G, C, g, r0, ?_⟩
  unfold evDs at h
  cases hA : ev Φ i Γ with
  | no => simp only [hA, Out.bind_no] at h
  | ex c Γ1 => simp only [hA, Out.bind_ex] at h ⊢; exact h
  | ok o Γ1 =>
    simp only [hA, Out.bind_ok] at h ⊢
    cases hD : escD o Γ1 with
    | no => simp only [hD, Out.bind_no] at h
    | ex c Γ2 => simp only [hD, Out.bind_ex] at h ⊢; exact h
    | ok d Γ2 =>
      simp only [hD, Out.bind_ok] at h ⊢
      intro v H1 G1 C1 e1 g1 r1 d1
      refine ⟨F, Γ2, G1, C1, g1, r1, ?_⟩
      cases hR : evDs Φ is Γ2 with
      | no => simp only [hR, Out.bind_no] at h
      | ex c Γ3 => simp only [hR, Out.bind_ex] at h ⊢; exact fun H3 G3 C3 e3 g3 r3 => h H3 G3 C3 (e1.trans e3) g3 r3
      | ok ds Γ3 =>
        simp only [hR, Out.bind_ok] at h ⊢
        exact fun vs H3 G3 C3 e3 g3 r3 d3 => h (v :: vs) H3 G3 C3 (e1.trans e3) g3 r3 (.cons (d1.mono e3) d3)
theorem DpAll.len {K : PySem.W.Frag} {H : Hp} : ∀ {vs : List V} {ds : List D}, DpAll K H vs ds → vs.length = ds.length
  | _, _, .nil => rfl
  | _, _, .cons _ h => by simp [DpAll.len h]
theorem relTs_sh {K : PySem.W.Frag} {κ : Nat → Addr} {G : Hp} : ∀ {vs : List V} {ds : List D}, DpAll K G vs ds → RelTs K κ G vs (ds.map .sh) []
  | _, _, .nil => .nil
  | _, _, .cons h1 h2 => .cons (C := []) (.sh h1) (relTs_sh h2)
theorem s_tup {es : List Expr} {is : Es} {k : Nat} {pos : Pos} (h : PA X es (tDs X.K τ W (evDs Φ is))) (hl : es.length ≤ 1000) (hlen : ∀ Γ ds Γ', evDs Φ is Γ = .ok ds Γ' → ds.length ≤ 1000) : PE X (.Tuple es k pos) (tO X.K τ W (ev Φ (.tup is)) false) := by
  refine (pe_tup h).imp fun σ H Q h => ?_
  obtain ⟨F, Γ, G, C, g, r0, h⟩ := h
  refine ⟨F, Γ, G, C, g, r0, ?_⟩
  unfold ev at h
  cases hA : evDs Φ is Γ with
  | no => simp only [hA, Out.bind_no] at h
  | ex c Γ1 => simp only [hA, Out.bind_ex] at h ⊢; exact h
  | ok ds Γ1 =>
    simp only [hA, Out.bind_ok] at h ⊢
    intro vs H1 G1 C1 e1 g1 r1 d1
    have hz := hlen Γ ds Γ1 hA
    have hz' : vs.length ≤ sizeLine := by rw [DpAll.len d1]; exact Nat.le_trans hz (by decide)
    refine ⟨hz', fun p hp => ?_⟩
    have g2 := g1.newG (.tup vs) hp
    have e2 : Same G1 (upd G1 p (.tup vs)) := L2.Same.new (g1.fresh hp).1
    exact h (.ref p) _ _ C1 [] (e1.trans e2) g2 (r1.mono e2) (.sh (.tup (SqT.of upd_same) (d1.mono e2))) (fun z => nomatch z)
theorem s_lst {es : List Expr} {is : Es} {pos : Pos} (h : PA X es (tDs X.K τ W (evDs Φ is))) (hlen : ∀ Γ ds Γ', evDs Φ is Γ = .ok ds Γ' → ds.length ≤ 1000) : PE X (.List es pos) (tO X.K τ W (ev Φ (.lst is)) false) := by
  refine (pe_lst h).imp fun σ H Q h => ?_
  obtain ⟨F, Γ, G, C, g, r0, h⟩ := h
  refine ⟨F, Γ, G, C, g, r0, ?_⟩
  unfold ev at h
  cases hA : evDs Φ is Γ with
  | no => simp only [hA, Out.bind_no] at h
  | ex c Γ1 => simp only [hA, Out.bind_ex] at h ⊢; exact h
  | ok ds Γ1 =>
    simp only [hA, Out.bind_ok] at h ⊢
    intro vs H1 G1 C1 e1 g1 r1 d1
    have hz := hlen Γ ds Γ1 hA
    have hz' : vs.length ≤ sizeLine := by rw [DpAll.len d1]; exact Nat.le_trans hz (by decide)
    refine ⟨hz', fun p hp => ?_⟩
    have g2 := g1.new (.lst vs) hp
    exact h (.ref p) _ G1 C1 [(p, .lst vs)] e1 g2 r1 (.ol (relTs_sh d1)) (fun z => nomatch z)
end
end Z

set_option Elab.async false
set_option linter.all false
set_option maxRecDepth 100000
namespace Z
open PySem PySem.Spec PyProof.Rows L2

section
variable {X : Cx} {τ : Tb} {W : WX} {K : PySem.W.Frag} {Φ : Nat → List T → FOut}

/-- the widest rule -/
def rAny (X : Cx) (f : Value → Value → Sem Value) : R2 := fun x y H Q => ∃ r : R2, OpR X f r ∧ r x y H Q
theorem op_any {f : Value → Value → Sem Value} : OpR X f (rAny X f) := fun pins s σ H x y v u Q I rx ry ⟨r, h, q⟩ => h pins s σ H x y v u Q I rx ry q
def uAny (X : Cx) (f : Value → Sem Value) : V → Hp → VK → Prop := fun x H Q => ∃ r : V → Hp → VK → Prop, UnR X f r ∧ r x H Q
theorem un_any {f : Value → Sem Value} : UnR X f (uAny X f) := fun pins s σ H x v Q I rx ⟨r, h, q⟩ => h pins s σ H x v Q I rx q
def cAny (X : Cx) (f : Value) : List V → Hp → VK → Prop := fun xs H Q => ∃ r : List V → Hp → VK → Prop, CallR X f r ∧ r xs H Q
theorem call_any {f : Value} : CallR X f (cAny X f) := fun pins s σ H xs us Q I rx ⟨r, h, q⟩ => h pins s σ H xs us Q I rx q

/-! ### trees that are data -/
theorem RelT.dp {G : Hp} {v : V} {d : D} {C : List Cell} (h : RelT K τ.κ G v (.sh d) C) : Dp K G v d := by cases h; assumption
/-- a result that is data that needs no heap -/
theorem fin_flat {G H : Hp} {C : List Cell} {u : V} {d : D} {Q : VK} (g : Good G C H) (hd : Dp K G u d) (h : ∀ u H' G' Cz, Same G G' → Good G' (Cz ++ C) H' → RelT K τ.κ G' u (.sh d) Cz → Q u H') : Q u H :=
  h u H G [] (L2.Same.refl G) g (.sh hd)
theorem fin_lst {G H : Hp} {C : List Cell} {vs : List V} {ds : List D} {Q : VK} (g : Good G C H) (hd : DpAll K G vs ds) (h : ∀ u H' G' Cz, Same G G' → Good G' (Cz ++ C) H' → RelT K τ.κ G' u (ol ds) Cz → Q u H') : ∀ p, H p = none → Q (.ref p) (upd H p (.lst vs)) := fun p hp =>
  h (.ref p) _ G [(p, .lst vs)] (L2.Same.refl G) (g.new _ hp) (.ol (relTs_sh hd))
theorem fin_tup {G H : Hp} {C : List Cell} {vs : List V} {ds : List D} {Q : VK} (g : Good G C H) (hd : DpAll K G vs ds) (h : ∀ u H' G' Cz, Same G G' → Good G' (Cz ++ C) H' → RelT K τ.κ G' u (.sh (.tuple ds)) Cz → Q u H') : ∀ p, H p = none → Q (.ref p) (upd H p (.tup vs)) := fun p hp => by
  have e2 : Same G (upd G p (.tup vs)) := L2.Same.new (g.fresh hp).1
  exact h (.ref p) _ _ [] e2 (g.newG _ hp) (.sh (.tup (SqT.of upd_same) (hd.mono e2)))

/-- a sequence whose items are all shared -/
theorem relTs_shs {G : Hp} : ∀ {vs : List V} {ts : List T} {C : List Cell} {ds : List D}, RelTs K τ.κ G vs ts C → shs ts = some ds → DpAll K G vs ds
  | _, _, _, ds, .nil, e => by unfold shs at e; cases e; exact .nil
  | _, _, _, ds, .cons (t := t) (ts := ts) h1 h2, e => by
    cases t with
    | sh d =>
      unfold shs at e
      cases q : shs ts with
      | none => rw [q] at e; cases e
      | some es =>
        rw [q] at e; cases e
        exact .cons h1.dp (relTs_shs h2 q)
    | ol _ => unfold shs at e; cases e
    | ob _ _ _ => unfold shs at e; cases e
    | tp _ => unfold shs at e; cases e
theorem shs_fzs : ∀ {ts : List T} {ds : List D}, shs ts = some ds → T.fzs ts = some ds
  | [], ds, e => by unfold shs at e; cases e; rfl
  | t :: ts, ds, e => by
    cases t with
    | sh d =>
      unfold shs at e
      cases q : shs ts with
      | none => rw [q] at e; cases e
      | some es =>
        rw [q] at e; cases e
        unfold T.fzs
        rw [shs_fzs q]
        rfl
    | ol _ => unfold shs at e; cases e
    | ob _ _ _ => unfold shs at e; cases e
    | tp _ => unfold shs at e; cases e
/-- a list, its items shared -/
theorem els_list {G H : Hp} {C C' : List Cell} {v : V} {t : T} {ds : List D} (g : Good G C' H) (h : RelT K τ.κ G v t C) (hs : ∀ c ∈ C, c ∈ C') (hl : isL t = true) (e : els t = some ds) :
    ∃ p vs, v = .ref p ∧ SqL K H p vs ∧ DpAll K G vs ds := by
  cases h with
  | sh h =>
    cases h with
    | lst hq ha => unfold els at e; cases e; exact ⟨_, _, rfl, g.ex.seq hq, ha⟩
    | non => unfold els at e; cases e
    | bl _ => unfold els at e; cases e
    | int _ => unfold els at e; cases e
    | str _ => unfold els at e; cases e
    | tup _ _ => unfold isL at hl; cases hl
  | @ol p vs ts C1 h =>
    unfold els at e
    exact ⟨p, vs, rfl, SqL.of (g.mem _ (hs _ List.mem_cons_self)).1, relTs_shs h e⟩
  | ob _ _ => unfold els at e; cases e
  | tp _ _ => unfold els at e; cases e
theorem els_any {G H : Hp} {C C' : List Cell} {v : V} {t : T} {ds : List D} (g : Good G C' H) (h : RelT K τ.κ G v t C) (hs : ∀ c ∈ C, c ∈ C') (e : els t = some ds) :
    ∃ p vs, v = .ref p ∧ (SqL K H p vs ∨ SqT K H p vs) ∧ DpAll K G vs ds := by
  cases h with
  | sh h =>
    cases h with
    | lst hq ha => unfold els at e; cases e; exact ⟨_, _, rfl, .inl (g.ex.seq hq), ha⟩
    | non => unfold els at e; cases e
    | bl _ => unfold els at e; cases e
    | int _ => unfold els at e; cases e
    | str _ => unfold els at e; cases e
    | tup hq ha => unfold els at e; cases e; exact ⟨_, _, rfl, .inr (g.ex.sqT hq), ha⟩
  | @ol p vs ts C1 h =>
    unfold els at e
    exact ⟨p, vs, rfl, .inl (SqL.of (g.mem _ (hs _ List.mem_cons_self)).1), relTs_shs h e⟩
  | ob _ _ => unfold els at e; cases e
  | tp _ _ => unfold els at e; cases e

/-! ### rules that the layer lacks -/
theorem op_add_bi : OpR X (binaryOp .Add) (fun x y H Q => ∃ k i, x = .bl k ∧ y = .int i ∧ Q (.int ((if k = true then (1 : Int) else 0) + i)) H) := by
  intro pins s σ H x y v u Q I rx ry h
  obtain ⟨k, i, rfl, rfl, q⟩ := h
  cases rx
  obtain ⟨t, rfl⟩ := ry
  exact IntBool.add_bool_int ⟨.int _, H, I.tok _, ⟨_, rfl⟩, q⟩
theorem op_sub_bi : OpR X (binaryOp .Sub) (fun x y H Q => ∃ k i, x = .bl k ∧ y = .int i ∧ Q (.int ((if k = true then (1 : Int) else 0) - i)) H) := by
  intro pins s σ H x y v u Q I rx ry h
  obtain ⟨k, i, rfl, rfl, q⟩ := h
  cases rx
  obtain ⟨t, rfl⟩ := ry
  exact IntBool.sub_bool_int ⟨.int _, H, I.tok _, ⟨_, rfl⟩, q⟩
def rCatS (K : PySem.W.Frag) : R2 := fun x y H Q => ∃ l b xs zs, x = .ref l ∧ y = .ref b ∧ SqL K H l xs ∧ SqL K H b zs ∧ xs.length + zs.length ≤ sizeLine ∧ ∀ p, H p = none → Q (.ref p) (upd H p (.lst (xs ++ zs)))
theorem op_catS : OpR X (binaryOp .Add) (rCatS X.K) := by
  intro pins s σ H x y v u Q I rx ry h
  obtain ⟨l, b, xs, zs, rfl, rfl, hH, hB, hz, q⟩ := h
  cases rx
  cases ry
  obtain ⟨its, r, p1, z1⟩ := I.list hH
  obtain ⟨its2, r2, p2, z2⟩ := I.list hB
  obtain ⟨⟨cls, dd, data, sl⟩, ho, hc, n, hd⟩ := p1.isList
  obtain ⟨⟨cls2, dd2, data2, sl2⟩, ho2, hc2, n2, hd2⟩ := p2.isList
  simp only at hc hd hc2 hd2
  subst hc hd hc2 hd2
  have e : its.toArray ++ its2.toArray = (its ++ its2).toArray := by simp
  have l1 := r.length
  have l2 := r2.length
  refine concat_meets ⟨_, ho, rfl⟩ ⟨_, ho2, rfl⟩ noFill_list_add seq_list_add PySem.F.slot_list_add PySem.F.entry_list_add (PySem.F.args_list_add_2 _ _) (list_addW l b its.toArray its2.toArray n n2 dd dd2 sl sl2 (by simp; omega)) ⟨ho, ho2, ?_⟩
  rw [e]
  exact ⟨.ref _, _, I.lnew (t' := s.toks) (r.append r2) (by rw [List.length_append]; omega), rfl, q _ I.fresh⟩
def CMulX (i j : Int) : Prop := mulOk i j = true
theorem CMulX.ok {i j : Int} (h : CMulX i j) : IntMulOk i j := by
  have b : ∀ x : Int, Builtin.Int.intBits x ≤ x.natAbs.log2 + 1 := fun x => by
    unfold Builtin.Int.intBits
    split <;> omega
  have h1 := b i
  have h2 := b j
  have h3 : i.natAbs.log2 + j.natAbs.log2 < 100000000 := by unfold CMulX mulOk at h; exact of_decide_eq_true h
  have e : bitsLine = 134217728 := by decide
  unfold IntMulOk
  intro z
  rw [Bool.and_eq_true] at z
  have z2 := z.2
  unfold Builtin.Int.intTooBig at z2
  have z3 := of_decide_eq_true z2
  rw [e] at z3
  omega
theorem op_mulX' : OpR X (binaryOp .Mult) (rI CMulX fun i j => .int (i * j)) := opI fun _ _ _ _ _ _ _ hc q => mul_int q hc.ok
/-- the heap's facts for a division of long ints, told by the fragment -/
def noName (r : Option (Option Value)) : Bool := match r with
  | some none => true
  | _ => false
def strKey (e : DictEntry) : Bool := match e.key with
  | .str _ _ => true
  | _ => false
def modsB (r : Option Obj) : Bool := match r with
  | some ⟨_, _, .dict es _, _⟩ => es.toList.all strKey && (nsFind es "_pylong").isNone
  | _ => false
def bmB (K : PySem.W.Frag) (r : Option (Option Value)) : Bool := match r with
  | some (some (.ref bm)) => (match K.lookup bm with
    | some ob => (match ob.cls with
      | .type n => n == "module"
      | _ => false) && decide (ob.dict = some builtinsNs)
    | none => false)
  | _ => false
def seerB (K : PySem.W.Frag) : Bool := noName (PySem.W.nsIn K cStatics "sys.audit-hooks") && (noName (PySem.W.nsIn K cStatics "sys.dict") && (modsB (K.lookup sysModules) && bmB K (PySem.W.nsIn K mainGlobals "__builtins__")))
theorem ns_none {K : PySem.W.Frag} {h : Heap} {a : Addr} {m : Str → Option Value} {x : Str} (hk : K.In h) (hn : h.Ns a m) (e : noName (PySem.W.nsIn K a x) = true) : m x = none := by
  have e : PySem.W.nsIn K a x = some none := by
    unfold noName at e
    split at e
    · assumption
    · cases e
  obtain ⟨ob, ents, k, h1, h2, h3, h4⟩ := hn
  unfold PySem.W.nsIn at e
  cases q : K.lookup a with
  | none => rw [q] at e; cases e
  | some o2 =>
    have h5 := (hk a o2 q).symm.trans h1
    cases h5
    rw [q] at e
    obtain ⟨c1, c2, c3, c4⟩ := ob
    subst h2
    simp only at e
    cases q2 : ents.toList.find? (·.key.isStr x) with
    | some en => rw [q2] at e; cases e
    | none =>
      rw [← h4 x]
      show findBy (fun n v => v.isStr n) ents x = none
      unfold findBy
      rw [← Array.find?_toList, q2]
      rfl
theorem seer_ok {K : PySem.W.Frag} {mg : Str → Option Value} {h : Heap} (M : L2.Mod K mg h) (e : seerB K = true) : h.NoSeer := by
  unfold seerB at e
  simp only [Bool.and_eq_true] at e
  obtain ⟨e1, e2, e3, e4⟩ := e
  obtain ⟨mc, hc, _⟩ := M.nolimit
  refine ⟨⟨mc, hc, ns_none M.kin hc e1, ns_none M.kin hc e2⟩, ?_, M.blt, ?_⟩
  · cases q : K.lookup sysModules with
    | none => rw [q] at e3; cases e3
    | some o =>
      rw [q] at e3
      obtain ⟨c1, c2, c3, c4⟩ := o
      unfold modsB at e3
      split at e3
      · rename_i es k z heq
        cases heq
        rw [Bool.and_eq_true] at e3
        refine ⟨fun x => nsFind es x, ⟨_, es, _, M.kin _ _ q, rfl, fun en hen => ?_, fun x => rfl⟩, by simpa using e3.2⟩
        have := List.all_eq_true.mp e3.1 en (by simpa using hen)
        unfold strKey at this
        split at this
        · rename_i n t hq; exact ⟨n, t, hq⟩
        · cases this
      · cases e3
  · cases q : PySem.W.nsIn K mainGlobals "__builtins__" with
    | none => rw [q] at e4; cases e4
    | some r =>
      rw [q] at e4
      unfold bmB at e4
      split at e4
      · rename_i bm heq
        cases heq
        split at e4
        · rename_i ob hob
          rw [Bool.and_eq_true] at e4
          obtain ⟨a1, a2⟩ := e4
          split at a1
          · rename_i n hcl
            exact ⟨mg, bm, ob, M.glob, PySem.W.mg_of M.kin M.glob q, M.kin _ _ hob, by rw [hcl, eq_of_beq a1], of_decide_eq_true a2⟩
          · cases a1
        · cases e4
      · cases e4
/-- a division of long ints has its room -/
def PyR (X : L2.Cx) : Prop := seerB X.K = true ∧ X.prog.given.tree = none ∧ X.A.depth + Builtin.pylongFrames < recursionLimit ∧ ∃ env l, X.stack = env :: l ∧ env.scope.isGenerator = false ∧ env.scope.isCoroutine = false ∧ env.builtins = builtinsNs ∧ env.globals = mainGlobals
theorem PyR.room {X : L2.Cx} {pins : List (Addr × Obj)} {σ : L2.St} {H : L2.Hp} {s : Shared} (hp : PyR X) (I : L2.Inv X pins σ H s) : PySem.PylongRoom (model X.prog X.w) X.A s := by
  obtain ⟨h1, h2, h3, env, l, h4, h5, h6, h7, h8⟩ := hp
  refine PySem.PylongRoom.of I.nolimit h3 (PySem.SeerAt.of ((seer_ok I.mod h1).keeps I.bk) h2 (env := env) (l := l) ?_ h5 h6 h7 h8)
  rw [← h4]
  exact I.ok.frames
theorem op_fdivA (hp : PyR X) : OpR X (binaryOp .FloorDiv) (rI (fun _ j => j ≠ 0) fun i j => .int (i.fdiv j)) := by
  intro pins s σ H x y v u Q I rx ry h
  obtain ⟨i, j, rfl, rfl, hj, q⟩ := h
  obtain ⟨t, rfl⟩ := rx
  obtain ⟨t', rfl⟩ := ry
  exact floordiv_int hj ⟨.int (i.fdiv j), H, I.tok _, ⟨_, rfl⟩, q⟩ (.inr (hp.room I))
end
end Z

set_option Elab.async false
set_option linter.all false
set_option maxRecDepth 100000
namespace Z
open PySem PySem.Spec PyProof.Rows L2

section
variable {X : Cx} {τ : Tb} {W : WX} {K : PySem.W.Frag} {Φ : Nat → List T → FOut}
theorem line_ok {n : Nat} (h : lineOk n = true) : n ≤ sizeLine := Nat.le_trans (of_decide_eq_true h) (by decide)
theorem line_lt {n : Nat} (h : lineOk n = true) : n < sizeLine := Nat.lt_of_le_of_lt (of_decide_eq_true h) (by decide)
theorem DpAll.append {H : Hp} : ∀ {vs ws : List V} {ds es : List D}, DpAll K H vs ds → DpAll K H ws es → DpAll K H (vs ++ ws) (ds ++ es)
  | _, _, _, _, .nil, h => h
  | _, _, _, _, .cons h1 h2, h => .cons h1 (DpAll.append h2 h)
theorem DpAll.rep {H : Hp} {vs : List V} {ds : List D} (h : DpAll K H vs ds) : ∀ n : Nat, DpAll K H (List.replicate n vs).flatten (List.replicate n ds).flatten
  | 0 => .nil
  | n + 1 => by
    rw [List.replicate_succ, List.replicate_succ, List.flatten_cons, List.flatten_cons]
    exact DpAll.append h (DpAll.rep h n)
def bopOf : Operator → Option Bop
  | .Add => some .add
  | .Sub => some .sub
  | .Mult => some .mul
  | .FloorDiv => some .fdiv
  | .Mod => some .mod
  | .LShift => some .shl
  | .RShift => some .shr
  | .BitAnd => some .band
  | _ => none
theorem opI_any (hp : PyR X) {po : Operator} {o : Bop} (ho : bopOf po = some o) {i j : Int} {z : D} (e : binI o i j = some z) : ∃ k, z = .int k ∧ ∀ (H : Hp) (Q : VK), Q (.int k) H → rAny X (binaryOp po) (.int i) (.int j) H Q := by
  cases po <;> cases ho <;> unfold binI at e <;> simp only at e
  · cases e; exact ⟨_, rfl, fun H Q q => ⟨_, op_add, i, j, rfl, rfl, q⟩⟩
  · cases e; exact ⟨_, rfl, fun H Q q => ⟨_, op_sub, i, j, rfl, rfl, q⟩⟩
  · split at e
    · cases e; rename_i h; exact ⟨_, rfl, fun H Q q => ⟨_, op_mulX', i, j, rfl, rfl, h, q⟩⟩
    · cases e
  · split at e
    · cases e
    · cases e
      rename_i h
      exact ⟨_, rfl, fun H Q q => ⟨_, op_modN, i, j, rfl, rfl, h, q⟩⟩
  · split at e
    · cases e; rename_i h; exact ⟨_, rfl, fun H Q q => ⟨_, op_shl, i, j, rfl, rfl, h, q⟩⟩
    · cases e
  · split at e
    · cases e; rename_i h; exact ⟨_, rfl, fun H Q q => ⟨_, op_shr, i, j, rfl, rfl, h, q⟩⟩
    · cases e
  · cases e; exact ⟨_, rfl, fun H Q q => ⟨_, op_and, i, j, rfl, rfl, q⟩⟩
  · split at e
    · cases e
    · cases e
      rename_i h
      exact ⟨_, rfl, fun H Q q => ⟨_, op_fdivA hp, i, j, rfl, rfl, h, q⟩⟩
theorem tuple_mul1 (l : Addr) (items : Array Value) (n : Nat) (dd : Option Addr) (sl : Array (Option Value)) (x : Int) (u : Tok) (c0 : (decide (x < -(2 ^ 63)) || decide (x ≥ 2 ^ 63)) = false) (c1 : (items.isEmpty || x == 1) = true) :
    Meets (Builtin.«tuple.__mul__» ⟨[.ref l, .int x u], []⟩) (fun _ R s => s.heap.get? l = some { cls := .type "tuple", dict := dd, data := .seq items n, slots := sl } ∧ R (.ok (.ret (Value.ref l))) s) :=
  .of_wp fun prog w A R s h => by
    obtain ⟨hp, g, d, tk, os⟩ := s
    obtain ⟨hl, h⟩ := h
    have f1 := AutoSeq1.idx_int
    wp_walk using wpAny_loadPart' hl
    refine wpAny_ite_false (decide_eq_false (by rw [c0]; exact Bool.false_ne_true)) ?_
    wp_walk using wpAny_loadPart' hl
    exact ⟨_, rfl, h⟩
theorem tuple_mul0 (l : Addr) (items : Array Value) (n : Nat) (dd : Option Addr) (sl : Array (Option Value)) (x : Int) (u : Tok) (c0 : (decide (x < -(2 ^ 63)) || decide (x ≥ 2 ^ 63)) = false) (c1 : (items.isEmpty || x == 1) = false) (c2 : (decide (x ≤ 0) || items.isEmpty) = true) :
    Meets (Builtin.«tuple.__mul__» ⟨[.ref l, .int x u], []⟩) (fun _ R s => s.heap.get? l = some { cls := .type "tuple", dict := dd, data := .seq items n, slots := sl } ∧
      R (.ok (.ret (Value.ref s.heap.objs.size))) { s with heap := s.heap.push { cls := Value.type "tuple", data := Data.seq #[] }, toks := s.toks }) :=
  .of_wp fun prog w A R s h => by
    obtain ⟨hp, g, d, tk, os⟩ := s
    obtain ⟨hl, h⟩ := h
    have f1 := AutoSeq1.idx_int
    wp_walk using wpAny_loadPart' hl
    refine wpAny_ite_false (decide_eq_false (by rw [c0]; exact Bool.false_ne_true)) ?_
    wp_walk using wpAny_loadPart' hl
    repeat (first
      | (refine wpAny_ite_false (decide_eq_false (by rw [c1]; exact Bool.false_ne_true)) ?_; wp_walk using wpAny_loadPart' hl)
      | (refine wpAny_ite_true (decide_eq_true (by rw [c2])) ?_; wp_walk using wpAny_loadPart' hl))
    exact ⟨_, rfl, h⟩
def rRep1 (K : PySem.W.Frag) : R2 := fun x y H Q => ∃ l k xs, x = .ref l ∧ y = .int k ∧ SqT K H l xs ∧ -1000 ≤ k ∧ k ≤ 1000 ∧ (xs = [] ∨ k = 1) ∧ Q (.ref l) H
def rRep0 (K : PySem.W.Frag) : R2 := fun x y H Q => ∃ l k xs, x = .ref l ∧ y = .int k ∧ SqT K H l xs ∧ xs ≠ [] ∧ -1000 ≤ k ∧ k ≤ 0 ∧ ∀ p, H p = none → Q (.ref p) (upd H p (.tup []))
theorem op_rep1 : OpR X (binaryOp .Mult) (rRep1 X.K) := by
  intro pins s σ H x y v u Q I rx ry h
  obtain ⟨l, k, xs, rfl, rfl, hT, h1, h2, hz, q⟩ := h
  cases rx
  obtain ⟨t, rfl⟩ := ry
  obtain ⟨its, r, ⟨⟨cls, dd, data, sl⟩, ho, hc, n, hd⟩, hs⟩ := I.tuple hT
  simp only at hc hd
  subst hc hd
  have hle : its.length = xs.length := r.length.symm
  have c0 : (decide (k < -(2 ^ 63)) || decide (k ≥ 2 ^ 63)) = false := by
    rw [decide_eq_false (by omega), decide_eq_false (by omega)] <;> rfl
  have c1 : (its.toArray.isEmpty || k == 1) = true := by
    rcases hz with e | e
    · have : its = [] := List.eq_nil_of_length_eq_zero (by rw [hle, e]; rfl)
      subst this
      rfl
    · subst e
      simp
  refine wpAny_binaryOp_repeat_ref (T := "tuple") (U := "int") (by decide) ⟨_, ho, rfl⟩ (fun s' => typeIs_int s' k t) noFill_tuple_mul F.fills_int_mul F.slot_int_rmul repeat_tuple F.slot_int_index.lookup
    (call_meets F.slot_int_rmul (typeIs_int s k t) F.entry_int_rmul (F.args_int_rmul_2 _ _) (int_rmul_tuple k t l its.toArray n dd sl)
      ⟨ho, rfl, ⟨_, ho, rfl⟩, call_meets F.slot_tuple_mul ⟨_, ho, rfl⟩ F.entry_tuple_mul (F.args_tuple_mul_2 _ _) (tuple_mul1 l its.toArray n dd sl k t c0 c1) ⟨ho, ?_⟩⟩)
  exact ⟨.ref l, _, I, rfl, q⟩
theorem op_rep0 : OpR X (binaryOp .Mult) (rRep0 X.K) := by
  intro pins s σ H x y v u Q I rx ry h
  obtain ⟨l, k, xs, rfl, rfl, hT, hne, h1, h2, q⟩ := h
  cases rx
  obtain ⟨t, rfl⟩ := ry
  obtain ⟨its, r, ⟨⟨cls, dd, data, sl⟩, ho, hc, n, hd⟩, hs⟩ := I.tuple hT
  simp only at hc hd
  subst hc hd
  have hle : its.length = xs.length := r.length.symm
  have hi : its.toArray.isEmpty = false := by
    cases its with
    | nil => exact absurd (List.eq_nil_of_length_eq_zero hle.symm) hne
    | cons a b => rfl
  have c0 : (decide (k < -(2 ^ 63)) || decide (k ≥ 2 ^ 63)) = false := by
    rw [decide_eq_false (by omega), decide_eq_false (by omega)] <;> rfl
  have c1 : (its.toArray.isEmpty || k == 1) = false := by
    rw [hi, Bool.false_or]
    exact beq_eq_false_iff_ne.mpr (by omega)
  have c2 : (decide (k ≤ 0) || its.toArray.isEmpty) = true := by
    rw [decide_eq_true h2]
    rfl
  refine wpAny_binaryOp_repeat_ref (T := "tuple") (U := "int") (by decide) ⟨_, ho, rfl⟩ (fun s' => typeIs_int s' k t) noFill_tuple_mul F.fills_int_mul F.slot_int_rmul repeat_tuple F.slot_int_index.lookup
    (call_meets F.slot_int_rmul (typeIs_int s k t) F.entry_int_rmul (F.args_int_rmul_2 _ _) (int_rmul_tuple k t l its.toArray n dd sl)
      ⟨ho, rfl, ⟨_, ho, rfl⟩, call_meets F.slot_tuple_mul ⟨_, ho, rfl⟩ F.entry_tuple_mul (F.args_tuple_mul_2 _ _) (tuple_mul0 l its.toArray n dd sl k t c0 c1 c2) ⟨ho, ?_⟩⟩)
  refine ⟨.ref s.heap.objs.size, _, I.laid (t' := s.toks) (o := .tup []) (fun b ob q => Heap.get?_push_of_some _ q) (Nat.le_refl _) ?_, rfl, q _ (I.hok.fresh (Nat.le_refl _))⟩
  exact ⟨by rw [sizeLine_eq]; exact Nat.zero_le _, [], .nil, IsTup.new _ _⟩
theorem rep_size {α : Type} (a : Array α) : ∀ (m : Nat) (acc : Array α), ((List.replicate m a).foldl (· ++ ·) acc).size = acc.size + m * a.size
  | 0, acc => by simp
  | m + 1, acc => by
    rw [List.replicate_succ, List.foldl_cons, rep_size a m, Array.size_append, Nat.succ_mul]
    omega
theorem op_strRep : OpR X (binaryOp .Mult) (fun x y H Q => ∃ a n, x = .str a ∧ y = .int n ∧ -1000 ≤ n ∧ n ≤ 1000 ∧ a.length ≤ 1000 ∧ Q (.str (strRep a n)) H) := by
  intro pins s σ H x y v u Q I rx ry h
  obtain ⟨a, n, rfl, rfl, h1, h2, h3, q⟩ := h
  obtain ⟨t, rfl⟩ := rx
  obtain ⟨t', rfl⟩ := ry
  have hsz : a.length * n.toNat ≤ 1000 * 1000 := Nat.mul_le_mul h3 (by omega)
  have hle : a.length * n.toNat ≤ sizeLine := by rw [sizeLine_eq]; omega
  refine PySem.P.mul_str (by rw [decide_eq_false (by omega), decide_eq_false (by omega)]; rfl) (fun z _ => ?_) (fun _ _ => ?_) ?_
  · have hm : (a.length : Int) * n ≤ 2 ^ 63 - 1 := by
      have : (a.length : Int) * n ≤ 1000 * 1000 := Int.mul_le_mul (by omega) h2 (by omega) (by omega)
      omega
    have := (Int.le_ediv_iff_mul_le (show 0 < n by omega)).mpr hm
    omega
  · unfold Builtin.Str.tooLong
    exact decide_eq_false (by omega)
  · unfold strRep at q
    split
    · rename_i hn
      rw [if_pos hn] at q
      exact ⟨by decide, .str Str.empty, H, I.tok _, ⟨_, rfl⟩, q⟩
    · rename_i hn
      rw [if_neg hn] at q
      split
      · rename_i hk
        rw [if_pos hk] at q
        exact ⟨.str a, H, I, ⟨_, rfl⟩, q⟩
      · rename_i hk
        rw [if_neg hk] at q
        refine ⟨?_, .str _, H, I.tok _, ⟨_, rfl⟩, q⟩
        show Array.size ((List.replicate n.toNat a.cps).foldl (· ++ ·) #[]) ≤ sizeLine
        rw [rep_size]
        have : n.toNat * a.cps.size ≤ 1000 * 1000 := Nat.mul_le_mul (by omega) h3
        rw [sizeLine_eq]
        simp
        omega
theorem op2_bin (hp : PyR X) {po : Operator} {o : Bop} (ho : bopOf po = some o) : Op2 X.K τ (rAny X (binaryOp po)) (binT o) := by
  intro G C H v w x y z Cx Cy Q g hx sx hy sy e h
  unfold binT at e
  split at e
  · -- ints
    rename_i i j
    cases q : binI o i j with
    | none => rw [q] at e; cases e
    | some d =>
      rw [q] at e; cases e
      obtain ⟨k, rfl, hk⟩ := opI_any hp ho q
      cases hx.dp
      cases hy.dp
      exact hk H Q (fin_flat g (.int k) h)
  · -- bool + int
    cases e
    cases hx.dp
    cases hy.dp
    cases po <;> cases ho
    exact ⟨_, op_add_bi, _, _, rfl, rfl, fin_flat g (.int _) h⟩
  · cases e
    cases hx.dp
    cases hy.dp
    cases po <;> cases ho
    exact ⟨_, op_sub_bi, _, _, rfl, rfl, fin_flat g (.int _) h⟩
  · -- texts
    split at e
    · rename_i hl
      cases e
      cases hx.dp
      cases hy.dp
      cases po <;> cases ho
      exact ⟨_, op_add_str, _, _, rfl, rfl, line_ok hl, fin_flat g (.str _) h⟩
    · cases e
  · -- tuples
    rename_i xs ys
    split at e
    · rename_i hl
      cases e
      cases hx.dp with
      | @tup a vs _ hq ha =>
        cases hy.dp with
        | @tup b ws _ hq2 ha2 =>
          cases po <;> cases ho
          refine ⟨_, op_catA, a, b, vs, ws, rfl, rfl, g.ex.sqT hq, g.ex.sqT hq2, ?_, fun e0 => ?_, fun _ e1 => ?_, fun _ _ => fin_tup g (DpAll.append ha ha2) h⟩
          · rw [DpAll.len ha, DpAll.len ha2]; exact line_ok hl
          · subst e0
            cases ha
            exact fin_flat g (.tup hq2 ha2) h
          · subst e1
            cases ha2
            rw [List.append_nil] at h
            exact fin_flat g (.tup hq ha) h
    · cases e
  · -- tuple * n
    rename_i xs n
    split at e
    · rename_i hc
      cases e
      simp only [Bool.and_eq_true, decide_eq_true_eq, Bool.not_eq_true'] at hc
      obtain ⟨⟨h1, h2⟩, h3⟩ := hc
      cases hx.dp with
      | @tup a vs _ hq ha =>
        cases hy.dp
        cases po <;> cases ho
        have hl := DpAll.len ha
        by_cases hv : vs = []
        · subst hv
          cases ha
          rw [show (List.replicate n.toNat ([] : List D)).flatten = [] by simp] at h
          exact ⟨_, op_rep1, a, n, [], rfl, rfl, g.ex.sqT hq, h1, h2, .inl rfl, fin_flat g (.tup hq .nil) h⟩
        by_cases hn1 : n = 1
        · subst hn1
          rw [show (List.replicate (1 : Int).toNat xs).flatten = xs by simp] at h
          exact ⟨_, op_rep1, a, 1, vs, rfl, rfl, g.ex.sqT hq, h1, h2, .inr rfl, fin_flat g (.tup hq ha) h⟩
        by_cases hn0 : n ≤ 0
        · rw [show (List.replicate n.toNat xs).flatten = [] by rw [Int.toNat_of_nonpos hn0]; rfl] at h
          exact ⟨_, op_rep0, a, n, vs, rfl, rfl, g.ex.sqT hq, hv, h1, hn0, fin_tup g .nil h⟩
        exact ⟨_, op_repT, a, n, vs, rfl, rfl, g.ex.sqT hq, hv, by omega, h2, by omega, fin_tup g (DpAll.rep ha n.toNat) h⟩
    · cases e
  · -- text * n
    rename_i xs n
    split at e
    · rename_i hc
      cases e
      simp only [Bool.and_eq_true, decide_eq_true_eq] at hc
      obtain ⟨⟨h1, h2⟩, h3⟩ := hc
      cases hx.dp
      cases hy.dp
      cases po <;> cases ho
      exact ⟨_, op_strRep, _, _, rfl, rfl, h1, h2, h3, fin_flat g (.str _) h⟩
    · cases e
  · -- lists
    split at e
    · rename_i hl
      rw [Bool.and_eq_true] at hl
      split at e
      · rename_i xs ys e1 e2
        split at e
        · rename_i hz
          cases e
          obtain ⟨a, vs, rfl, hq, ha⟩ := els_list g hx sx hl.1 e1
          obtain ⟨b, ws, rfl, hq2, ha2⟩ := els_list g hy sy hl.2 e2
          cases po <;> cases ho
          exact ⟨_, op_catS, a, b, vs, ws, rfl, rfl, hq, hq2, by rw [DpAll.len ha, DpAll.len ha2]; exact line_ok hz, fin_lst g (DpAll.append ha ha2) h⟩
        · cases e
      · cases e
    · cases e
  · -- list * n
    rename_i ts n
    split at e
    · rename_i xs e1
      split at e
      · rename_i hz
        cases e
        rw [Bool.and_eq_true] at hz
        cases hx with
        | @ol p vs _ C1 hr =>
          cases hy.dp
          have ha := relTs_shs hr e1
          cases po <;> cases ho
          have hn : n.natAbs ≤ 1000000 := of_decide_eq_true hz.2
          exact ⟨_, op_rep, p, n, vs, rfl, rfl, (g.mem _ (sx _ List.mem_cons_self)).1, by omega, by omega, by rw [DpAll.len ha]; exact line_ok hz.1, fin_lst g (DpAll.rep ha n.toNat) h⟩
      · cases e
    · cases e
  · cases e
def copOf : CmpOp → Cop
  | .Eq => .eq | .NotEq => .ne | .Lt => .lt | .LtE => .le | .Gt => .gt | .GtE => .ge | .Is => .is | .IsNot => .isnot | .In => .isin | .NotIn => .notin
def rInT (K : PySem.W.Frag) : R2 := fun x y H Q => ∃ d ds, Dp K H x d ∧ Dp K H y (.tuple ds) ∧ SeqAt.shaped d = true ∧ SeqAt.shaped (.tuple ds) = true ∧ Q (.bl (ds.any fun z => PyData.eqv z d)) H
def rNotInT (K : PySem.W.Frag) : R2 := fun x y H Q => ∃ d ds, Dp K H x d ∧ Dp K H y (.tuple ds) ∧ SeqAt.shaped d = true ∧ SeqAt.shaped (.tuple ds) = true ∧ Q (.bl (!ds.any fun z => PyData.eqv z d)) H
theorem op_inT (hu : X.A.units + 65 < cLine) : OpR X (compareOp .In) (rInT X.K) := by
  intro pins s σ H x y v u Q I rx ry h
  obtain ⟨d, ds, hd, he, sd, se, q⟩ := h
  obtain ⟨as, r1⟩ := Dp.reads I d x v hd rx
  obtain ⟨bs, r2⟩ := Dp.reads I (.tuple ds) y u he ry
  exact SeqAt.in_tuple_reads r2 r1 (SeqAt.canLay_of_shaped se) (SeqAt.canLay_of_shaped sd) (room_in_shaped sd hu) ⟨.bl _, H, I, rfl, q⟩
theorem op_notInT (hu : X.A.units + 65 < cLine) : OpR X (compareOp .NotIn) (rNotInT X.K) := by
  intro pins s σ H x y v u Q I rx ry h
  obtain ⟨d, ds, hd, he, sd, se, q⟩ := h
  obtain ⟨as, r1⟩ := Dp.reads I d x v hd rx
  obtain ⟨bs, r2⟩ := Dp.reads I (.tuple ds) y u he ry
  exact SeqAt.notIn_tuple_reads r2 r1 (SeqAt.canLay_of_shaped se) (SeqAt.canLay_of_shaped sd) (room_in_shaped sd hu) ⟨.bl _, H, I, rfl, q⟩
theorem isNone_iff {H : Hp} {v : V} {d : D} (h : Dp K H v d) : isNone d = decide (v = .non) := by
  cases h <;> simp [isNone]
/-- a comparison of two trees -/
theorem cmp_any (hu : X.A.units + 65 < cLine) {op : CmpOp} {G H : Hp} {C Cx Cy : List Cell} {v w : V} {x y : T} {b : Bool} (g : Good G C H) (hx : RelT X.K τ.κ G v x Cx) (sx : ∀ c ∈ Cx, c ∈ C) (hy : RelT X.K τ.κ G w y Cy) (sy : ∀ c ∈ Cy, c ∈ C)
    (e : cmpT (copOf op) x y = some b) (Q : VK) (q : Q (.bl b) H) : rAny X (compareOp op) v w H Q := by
  unfold cmpT at e
  split at e
  · rename_i dx dy e1 e2
    have d1 := hx.read g sx e1
    have d2 := hy.read g sy e2
    have hu' : X.A.units + 64 < cLine := by omega
    cases op <;> simp only [copOf, cmpD] at e
    · split at e
      · rename_i hf
        rw [Bool.and_eq_true] at hf
        cases e
        exact ⟨_, op_eqD hu', dx, dy, d1, d2, hf.1, hf.2, q⟩
      · cases e
    · split at e
      · rename_i hf
        rw [Bool.and_eq_true] at hf
        cases e
        exact ⟨_, op_neD hu', dx, dy, d1, d2, hf.1, hf.2, q⟩
      · cases e
    · unfold ltD at e
      split at e
      · cases e; cases d1; cases d2; exact ⟨_, op_lt, _, _, rfl, rfl, q⟩
      · cases e; cases d1; cases d2; exact ⟨_, op_lt_str, _, _, rfl, rfl, q⟩
      · cases e
    · unfold leD at e
      split at e
      · cases e; cases d1; cases d2; exact ⟨_, op_le, _, _, rfl, rfl, q⟩
      · cases e; cases d1; cases d2; exact ⟨_, op_le_str, _, _, rfl, rfl, q⟩
      · cases e
    · unfold ltD at e
      split at e
      · cases e; cases d1; cases d2; exact ⟨_, op_gt, _, _, rfl, rfl, q⟩
      · cases e; cases d1; cases d2; exact ⟨_, op_gt_str, _, _, rfl, rfl, q⟩
      · cases e
    · unfold leD at e
      split at e
      · cases e; cases d1; cases d2; exact ⟨_, op_ge, _, _, rfl, rfl, q⟩
      · cases e; cases d1; cases d2; exact ⟨_, op_ge_str, _, _, rfl, rfl, q⟩
      · cases e
    · split at e
      · rename_i hn
        cases e
        rw [isNone_iff d2] at hn
        rw [isNone_iff d1] at q
        exact ⟨_, op_isN, of_decide_eq_true hn, q⟩
      · cases e
    · split at e
      · rename_i hn
        cases e
        rw [isNone_iff d2] at hn
        rw [isNone_iff d1] at q
        exact ⟨_, op_notN, of_decide_eq_true hn, q⟩
      · cases e
    · split at e
      · split at e
        · rename_i hf
          rw [Bool.and_eq_true] at hf
          cases e
          exact ⟨_, op_inD hu, dx, _, d1, d2, hf.1, hf.2, q⟩
        · cases e
      · split at e
        · rename_i hf
          rw [Bool.and_eq_true] at hf
          cases e
          exact ⟨_, op_inT hu, dx, _, d1, d2, hf.1, hf.2, q⟩
        · cases e
      · cases e
    · split at e
      · split at e
        · rename_i hf
          rw [Bool.and_eq_true] at hf
          cases e
          exact ⟨_, op_notInD hu, dx, _, d1, d2, hf.1, hf.2, q⟩
        · cases e
      · split at e
        · rename_i hf
          rw [Bool.and_eq_true] at hf
          cases e
          exact ⟨_, op_notInT hu, dx, _, d1, d2, hf.1, hf.2, q⟩
        · cases e
      · cases e
  · cases e
end
end Z

set_option Elab.async false
set_option linter.all false
set_option maxRecDepth 100000
namespace Z
open PySem PySem.Spec PyProof.Rows L2

section
variable {X : Cx} {τ : Tb} {W : WX} {K : PySem.W.Frag} {Φ : Nat → List T → FOut}
theorem tr2_some {α : Type} {f : T → T → Option α} {Γ : Env} {x y : O} {z : α} (h : tr2 f Γ x y = some z) : ∃ a b, x.tree Γ = some a ∧ y.tree Γ = some b ∧ f a b = some z := by
  unfold tr2 at h
  split at h
  · rename_i a b e1 e2
    exact ⟨a, b, e1, e2, h⟩
  · cases h
theorem tr1_some {α : Type} {f : T → Option α} {Γ : Env} {x : O} {z : α} (h : tr1 f Γ x = some z) : ∃ a, x.tree Γ = some a ∧ f a = some z := by
  unfold tr1 at h
  split at h
  · rename_i a e1
    exact ⟨a, e1, h⟩
  · cases h
/-- two operands, then a value -/
theorem s_two {e ea eb : Expr} {a b : E} {r : R2} {fin : Env → O → O → Option O} (hmk : ∀ {ta tb : TE}, PE X ea ta → PE X eb tb → PE X e (tOp r ta tb))
    (ha : PE X ea (tO X.K τ W (ev Φ a) (spure a))) (hb : PE X eb (tO X.K τ W (ev Φ b) (spure b)))
    (hfin : ∀ (G : Hp) (σ : L2.St) (Γ : Env) (C F Cx Cy : List Cell) (H : Hp) (v w : V) (x y o : O) (Q : VK), Good G (Cx ++ (Cy ++ (C ++ F))) H → RelG X.K τ.κ G σ Γ C → RelO X.K τ.κ G σ Γ C v x Cx → RelO X.K τ.κ G σ Γ C w y Cy → fin Γ x y = some o → FinO X.K τ G σ Γ C F o Q → r v w H Q) :
    PE X e (tO X.K τ W (fun Γ => (ev Φ a Γ).bind fun x Γ => (keepIf (spure b) x Γ).bind fun x Γ => (ev Φ b Γ).bind fun y Γ => lift (fin Γ x y) Γ) (spure a && spure b)) := by
  refine (hmk ha hb).imp fun σ H Q h => ?_
  obtain ⟨F, Γ, G, C, g, r0, h⟩ := h
  refine two_opd (K := X.K) (R := r) (fin := fin) (P := fun Γ' o G' C' => ∀ v H' G'' Co, Same G' G'' → Good G'' (Co ++ (C' ++ F)) H' → RelG X.K τ.κ G'' σ Γ' C' → RelO X.K τ.κ G'' σ Γ' C' v o Co → Q v H')
    (Pe := fun c Γ' => ∀ H' G' C', Same G G' → Good G' (C' ++ F) H' → RelG X.K τ.κ G' σ Γ' C' → W (.ref (τ.ea c)) none σ H') g r0 (fun c Γ' h => h) ?_ ?_
  · split
    · rename_i o Γ' e
      simp only [e] at h
      exact fun G' C' s1 s2 v H' G'' Co s3 g3 r3 o3 => h v H' G'' C' Co (s1.trans s3) g3 r3 o3 s2
    · rename_i c Γ' e
      simp only [e] at h
      exact h
    · rename_i e
      simp only [e] at h
  · intro G' Γ' C' Cx Cy H' v w x y z s1 g1 r1 o1 o2 e1 hP
    exact hfin G' σ Γ' C' F Cx Cy H' v w x y z Q g1 r1 o1 o2 e1 fun u H2 G2 Co s2 g2 r2 o3 => hP u H2 G2 Co s2 g2 r2 o3
/-- .. by trees -/
theorem fin_tr2 {r : R2} {op : T → T → Option T} (hop : Op2 X.K τ r op) : ∀ (G : Hp) (σ : L2.St) (Γ : Env) (C F Cx Cy : List Cell) (H : Hp) (v w : V) (x y o : O) (Q : VK), Good G (Cx ++ (Cy ++ (C ++ F))) H → RelG X.K τ.κ G σ Γ C → RelO X.K τ.κ G σ Γ C v x Cx → RelO X.K τ.κ G σ Γ C w y Cy → (tr2 op Γ x y).map O.t = some o → FinO X.K τ G σ Γ C F o Q → r v w H Q := by
  intro G σ Γ C F Cx Cy H v w x y o Q g r1 o1 o2 e h
  cases q : tr2 op Γ x y with
  | none => rw [q] at e; cases e
  | some z =>
    rw [q] at e; cases e
    obtain ⟨tx, ty, hx, hy, hz⟩ := tr2_some q
    have g1 : Good G (Cx ++ (C ++ (Cy ++ F))) H := g.re (fun a => by simp <;> omega) (fun c hc => by simp at hc ⊢; grind)
    have g2 : Good G (Cy ++ (C ++ (Cx ++ F))) H := g.re (fun a => by simp <;> omega) (fun c hc => by simp at hc ⊢; grind)
    obtain ⟨C1, t1, s1⟩ := o1.tree g1 r1 hx
    obtain ⟨C2, t2, s2⟩ := o2.tree g2 r1 hy
    refine hop G _ H v w tx ty z C1 C2 Q g1 t1 s1 t2 (fun c hc => by have := s2 c hc; simp at this ⊢; grind) hz fun u H' G' Cz e4 g4 t4 => ?_
    exact h u H' G' Cz e4 (g4.re (fun a => by simp <;> omega) (fun c hc => by simp at hc ⊢; grind)) (r1.mono e4) t4
theorem s_bin (hp : PyR X) {ea eb : Expr} {a b : E} {po : Operator} {o : Bop} {pos : Pos} (ho : bopOf po = some o) (ha : PE X ea (tO X.K τ W (ev Φ a) (spure a))) (hb : PE X eb (tO X.K τ W (ev Φ b) (spure b))) :
    PE X (.BinOp ea po eb pos) (tO X.K τ W (ev Φ (.bin o a b)) (spure (.bin o a b))) :=
  (s_two (fin := fun Γ x y => (tr2 (binT o) Γ x y).map .t) (r := rAny X (binaryOp po)) (fun h1 h2 => pe_op op_any h1 h2) ha hb (fin_tr2 (op2_bin hp ho))).imp fun _ _ _ h => h
/-- one operand, then a value -/
theorem s_one {e ea : Expr} {a : E} {r : V → Hp → VK → Prop} {op : T → Option T} (hmk : ∀ {ta : TE}, PE X ea ta → PE X e (tUn r ta))
    (ha : PE X ea (tO X.K τ W (ev Φ a) (spure a))) (hop : Op1 X.K τ r op) :
    PE X e (tO X.K τ W (fun Γ => (ev Φ a Γ).bind fun x Γ => lift ((tr1 op Γ x).map .t) Γ) (spure a)) := by
  refine (hmk ha).imp fun σ H Q h => ?_
  obtain ⟨F, Γ, G, C, g, r0, h⟩ := h
  refine ⟨F, Γ, G, C, g, r0, ?_⟩
  cases hA : ev Φ a Γ with
  | no => simp only [hA, Out.bind_no] at h
  | ex c Γ1 => simp only [hA, Out.bind_ex] at h ⊢; exact h
  | ok x Γ1 =>
    simp only [hA, Out.bind_ok] at h ⊢
    intro v1 H1 G1 C1 Co1 e1 g1 r1 o1 sp1
    cases hz : tr1 op Γ1 x with
    | none => simp only [hz, Option.map_none, lift_none] at h
    | some z =>
      simp only [hz, Option.map_some, lift_some] at h
      obtain ⟨tx, hx, hz⟩ := tr1_some hz
      obtain ⟨Cx, t1, s1⟩ := o1.tree g1 r1 hx
      refine hop G1 (Co1 ++ (C1 ++ F)) H1 v1 tx z Cx Q g1 t1 s1 hz fun u H4 G4 Cz e4 g4 t4 => ?_
      exact h u H4 G4 C1 Cz (e1.trans e4) (g4.re (fun a => by simp <;> omega) (fun c hc => by simp at hc ⊢; grind)) (r1.mono e4) t4 sp1
theorem op1_neg : Op1 X.K τ (uAny X (unaryOp .USub)) negT := by
  intro G C H v x z Cx Q g hx sx e h
  unfold negT at e
  split at e
  · cases e
    cases hx.dp
    exact ⟨_, un_neg, _, rfl, fin_flat g (.int _) h⟩
  · cases e
theorem s_neg {ea : Expr} {a : E} {pos : Pos} (ha : PE X ea (tO X.K τ W (ev Φ a) (spure a))) : PE X (.UnaryOp .USub ea pos) (tO X.K τ W (ev Φ (.neg a)) (spure (.neg a))) :=
  (s_one (r := uAny X (unaryOp .USub)) (fun h => pe_un un_any h) ha op1_neg).imp fun _ _ _ h => h

/-! ### items -/
def ixAny (X : Cx) : R2 := fun x y H Q => ∃ r : R2, IxR X r ∧ r x y H Q
theorem ix_any : IxR X (ixAny X) := fun value slice pins s σ H x y v u Q I rx ry ⟨r, h, q⟩ hs => h value slice pins s σ H x y v u Q I rx ry q hs
theorem DpAll.get {H : Hp} : ∀ {vs : List V} {ds : List D} {j : Nat} {d : D}, DpAll K H vs ds → ds[j]? = some d → ∃ v, vs[j]? = some v ∧ Dp K H v d
  | _, _, j, _, .nil, e => by simp at e
  | _, _, 0, d, .cons (v := v) h1 h2, e => by simp at e; subst e; exact ⟨v, rfl, h1⟩
  | _, _, j + 1, d, .cons h1 h2, e => by
    obtain ⟨v, a, b⟩ := DpAll.get h2 (j := j) (d := d) (by simpa using e)
    exact ⟨v, by simpa using a, b⟩
theorem bind_get {α β : Type} {o : Option α} {f : α → Option β} {z : β} (h : o.bind f = some z) : ∃ a, o = some a ∧ f a = some z := by
  cases o with
  | none => cases h
  | some a => exact ⟨a, rfl, h⟩
theorem at_of {α : Type} {xs : List α} {i : Int} {j : Nat} {x : α} (h1 : ixJ xs.length i = some j) (h2 : xs[j]? = some x) : L2.atI xs i = some x := by
  unfold L2.atI
  unfold ixJ at h1
  rw [h1]
  exact h2
theorem fin_ix (G : Hp) (σ : L2.St) (Γ : Env) (C F Cx Cy : List Cell) (H : Hp) (v w : V) (x y o : O) (Q : VK) (g : Good G (Cx ++ (Cy ++ (C ++ F))) H) (r1 : RelG X.K τ.κ G σ Γ C) (o1 : RelO X.K τ.κ G σ Γ C v x Cx) (o2 : RelO X.K τ.κ G σ Γ C w y Cy)
    (e : ixO Γ x y = some o) (h : FinO X.K τ G σ Γ C F o Q) : ixAny X v w H Q := by
  unfold ixO at e
  split at e
  · rename_i i
    have hw := (show RelT X.K τ.κ G w (.sh (.int i)) Cy from o2).dp
    cases hw
    have dataCase : ∀ {d z : D}, Dp X.K G v d → ixD d i = some z → FinO X.K τ G σ Γ C F (.t (.sh z)) Q → ixAny X v (.int i) H Q := by
      intro d z hd ez hq
      have g0 : Good G ([] ++ (C ++ F)) H := g.re (fun a => by simp <;> omega) (fun c hc => by simp at hc ⊢; grind)
      unfold ixD at ez
      split at ez
      · rename_i ds
        obtain ⟨j, e1, e2⟩ := bind_get ez
        cases hd with
        | @lst a vs _ hs ha =>
          obtain ⟨u, e3, e4⟩ := DpAll.get ha e2
          exact ⟨_, ix_list, a, vs, i, u, rfl, rfl, g.ex.seq hs, at_of (by rw [DpAll.len ha]; exact e1) e3, hq u H G [] (L2.Same.refl G) g0 r1 (.sh e4)⟩
      · rename_i ds
        obtain ⟨j, e1, e2⟩ := bind_get ez
        cases hd with
        | @tup a vs _ hs ha =>
          obtain ⟨u, e3, e4⟩ := DpAll.get ha e2
          exact ⟨_, ix_tup, a, vs, i, u, rfl, rfl, g.ex.sqT hs, at_of (by rw [DpAll.len ha]; exact e1) e3, hq u H G [] (L2.Same.refl G) g0 r1 (.sh e4)⟩
      · split at ez
        · rename_i hl
          cases hd
          cases q : L2.atI _ i with
          | none => rw [q] at ez; cases ez
          | some c =>
            rw [q] at ez; cases ez
            exact ⟨_, ix_str, _, i, c, rfl, rfl, line_ok hl, q, hq _ H G [] (L2.Same.refl G) g0 r1 (.sh (.str _))⟩
        · cases ez
      · cases ez
    split at e
    · rename_i t
      have ht : RelT X.K τ.κ G v t Cx := o1
      cases ez : ixT t i with
      | none => rw [ez] at e; cases e
      | some z =>
        rw [ez] at e; cases e
        unfold ixT at ez
        split at ez
        · rename_i d
          cases q : ixD d i with
          | none => rw [q] at ez; cases ez
          | some d' =>
            rw [q] at ez; cases ez
            exact dataCase ht.dp q h
        · rename_i ts
          obtain ⟨j, e1, e2⟩ := bind_get ez
          cases ht with
          | @ol p vs _ C1 hr =>
            split at e2
            · rename_i d hd
              cases e2
              obtain ⟨u, Cu, a1, a2, a3, a4⟩ := hr.get hd
              refine ⟨_, ix_list, p, vs, i, u, rfl, rfl, SqL.of (g.mem (p, .lst vs) (by simp)).1, at_of (by rw [hr.len]; exact e1) a1, h u H G [] (L2.Same.refl G) (g.re (fun a => by simp <;> omega) (fun c hc => by simp at hc ⊢; grind)) r1 (.sh a2.dp)⟩
            · cases e2
        · rename_i ts
          obtain ⟨j, e1, e2⟩ := bind_get ez
          cases ht with
          | @tp p vs _ C1 hq hr =>
            obtain ⟨u, Cu, a1, a2, a3, a4⟩ := hr.get e2
            refine ⟨_, ix_tup, p, vs, i, u, rfl, rfl, SqT.of (g.ex _ _ hq), at_of (by rw [hr.len]; exact e1) a1, h u H G Cu (L2.Same.refl G) (g.re (fun a => by have := a4 a; simp <;> omega) (fun c hc => by simp at hc ⊢; have := a3 c; grind)) r1 a2⟩
        · cases ez
    · rename_i k p
      obtain ⟨hC, v0, hk, hf⟩ := o1
      subst hC
      split at e
      · rename_i t hl
        have g1 : Good G ([] ++ (C ++ (Cy ++ F))) H := g.re (fun a => by simp <;> omega) (fun c hc => by simp at hc ⊢; grind)
        have gC : Good G C H := g.re (fun a => by simp <;> omega) (fun c hc => by simp at hc ⊢; grind)
        have ht : ∃ Ct, RelT X.K τ.κ G v t Ct ∧ ∀ c ∈ Ct, c ∈ C := by
          unfold look at hl
          split at hl
          · rename_i t0 hk0
            obtain ⟨w0, Ca, Ct, Cb, q1, q2, q3, _, _⟩ := r1.get hk0
            rw [hk] at q1; cases q1
            exact RelT.at (C := C) (cells_one gC.nd) (fun c hc => (gC.mem c hc).2) q3 (fun c hc => by rw [q2]; simp [hc]) hf hl
          · cases hl
        obtain ⟨Ct, ht, hs⟩ := ht
        have g0 : Good G ([] ++ (C ++ F)) H := g.re (fun a => by simp <;> omega) (fun c hc => by simp at hc ⊢; grind)
        unfold ixAt at e
        split at e
        · rename_i d
          cases q : ixD d i with
          | none => rw [q] at e; cases e
          | some d' =>
            rw [q] at e; cases e
            exact dataCase ht.dp q h
        · rename_i ts
          obtain ⟨j, e1, e2⟩ := bind_get e
          cases ht with
          | @ol q vs _ C1 hr =>
            have hm : (q, HO.lst vs) ∈ C := hs _ List.mem_cons_self
            split at e2
            · rename_i d hd
              cases e2
              obtain ⟨u, Cu, a1, a2, a3, a4⟩ := hr.get hd
              exact ⟨_, ix_list, q, vs, i, u, rfl, rfl, SqL.of (gC.mem _ hm).1, at_of (by rw [hr.len]; exact e1) a1, h u H G [] (L2.Same.refl G) g0 r1 (.sh a2.dp)⟩
            · rename_i t' hn hd
              cases e2
              obtain ⟨u, Cu, a1, a2, a3, a4⟩ := hr.get hd
              exact ⟨_, ix_list, q, vs, i, u, rfl, rfl, SqL.of (gC.mem _ hm).1, at_of (by rw [hr.len]; exact e1) a1, h u H G [] (L2.Same.refl G) g0 r1 ⟨rfl, v0, hk, hf.snoc (.lst hm a1 .nil)⟩⟩
            · cases e2
        · rename_i ts
          obtain ⟨j, e1, e2⟩ := bind_get e
          cases ht with
          | @tp q vs _ C1 hq hr =>
            split at e2
            · rename_i d hd
              cases e2
              obtain ⟨u, Cu, a1, a2, a3, a4⟩ := hr.get hd
              exact ⟨_, ix_tup, q, vs, i, u, rfl, rfl, SqT.of (g.ex _ _ hq), at_of (by rw [hr.len]; exact e1) a1, h u H G [] (L2.Same.refl G) g0 r1 (.sh a2.dp)⟩
            · rename_i t' hn hd
              cases e2
              obtain ⟨u, Cu, a1, a2, a3, a4⟩ := hr.get hd
              exact ⟨_, ix_tup, q, vs, i, u, rfl, rfl, SqT.of (g.ex _ _ hq), at_of (by rw [hr.len]; exact e1) a1, h u H G [] (L2.Same.refl G) g0 r1 ⟨rfl, v0, hk, hf.snoc (.tup hq a1 .nil)⟩⟩
            · cases e2
        · cases e
      · cases e
  · cases e
theorem s_ix {ea eb : Expr} {a b : E} {pos : Pos} (hp : PlainIx eb) (ha : PE X ea (tO X.K τ W (ev Φ a) (spure a))) (hb : PE X eb (tO X.K τ W (ev Φ b) (spure b))) :
    PE X (.Subscript ea eb pos) (tO X.K τ W (ev Φ (.ix a b)) (spure (.ix a b))) :=
  (s_two (fin := ixO) (r := ixAny X) (fun h1 h2 => pe_ix ix_any h1 h2 hp) ha hb fin_ix).imp fun _ _ _ h => h
end
end Z

set_option Elab.async false
set_option linter.all false
set_option maxRecDepth 100000
namespace HT
open PySem PySem.Spec PyProof.Rows
section
variable {prog : Program} {w : World} {A : Around} {E : Value → Shared → Prop} {s : Shared}
theorem adjust_back (n : Nat) : Builtin.Slice.sliceAdjust none none (-1) (n : Int) = ((n : Int) - 1, -1) := by
  unfold Builtin.Slice.sliceAdjust
  simp
theorem places_back (n : Nat) : Builtin.Slice.slicePlaces ((n : Int) - 1) (-1) (-1) = n := by
  unfold Builtin.Slice.slicePlaces
  simp
  split <;> omega
theorem sliceApplied_back {sl : Addr} {vs : Value} {n : Nat} {Q : Int × Int × Nat → Shared → Prop} (hs : s.heap.IsSliceOf sl .none .none vs) (ps : IsPart vs (some (-1)))
    (h : Q ((n : Int) - 1, -1, n) s) : wpAny (model prog w) A (Builtin.Slice.sliceApplied (.ref sl) (pure (n : Int))) Q E s := by
  obtain ⟨os, hos, hcs, hds⟩ := id hs
  unfold Builtin.Slice.sliceApplied Builtin.Slice.sliceFields
  refine wpAny_bind (wpAny_bind (wpAny_field hos hds (x := .none) rfl (wpAny_bind (wpAny_field hos hds (x := .none) rfl (wpAny_bind (wpAny_field hos hds (x := vs) rfl (wpAny_pure ?_)))))))
  refine wpAny_bind (slicePart_ ps ?_)
  show wpAny _ _ (if ((-1 : Int) == 0) = true then _ else _) _ _ s
  rw [if_neg (by decide)]
  refine wpAny_bind (slicePart_none (wpAny_bind (slicePart_none (wpAny_bind (wpAny_pure ?_)))))
  show wpAny _ _ (match Builtin.Slice.sliceAdjust none none (-1) (n : Int) with | (lo, hi) => pure (lo, (-1 : Int), Builtin.Slice.slicePlaces lo hi (-1))) _ _ s
  rw [adjust_back n]
  show wpAny _ _ (pure ((n : Int) - 1, (-1 : Int), Builtin.Slice.slicePlaces ((n : Int) - 1) (-1) (-1))) _ _ s
  rw [places_back]
  exact wpAny_pure h
theorem fm_congr {α β : Type} {f g : α → Option β} : ∀ {l : List α}, (∀ x ∈ l, f x = g x) → l.filterMap f = l.filterMap g
  | [], _ => rfl
  | a :: l, h => by
    rw [List.filterMap_cons, List.filterMap_cons, h a List.mem_cons_self, fm_congr fun x hx => h x (List.mem_cons_of_mem _ hx)]
theorem pick_back (xs : Array Value) : ((List.range xs.size).filterMap fun (m : Nat) => xs[((xs.size : Int) - 1 + (m : Int) * (-1)).toNat]?).toArray = xs.toList.reverse.toArray := by
  have e : ((List.range xs.size).filterMap fun (m : Nat) => xs[((xs.size : Int) - 1 + (m : Int) * (-1)).toNat]?) = ((List.range xs.size).map (fun k => xs.size - 1 - k)).filterMap (xs[·]?) := by
    rw [List.filterMap_map]
    refine fm_congr fun m hm => ?_
    have := List.mem_range.mp hm
    show xs[((xs.size : Int) - 1 + (m : Int) * (-1)).toNat]? = xs[xs.size - 1 - m]?
    congr 1
    omega
  rw [e, PySem.W.krv_range, List.filterMap_reverse, PySem.W.krv_all]
theorem getItem_tuple_back {t sl : Addr} {items : Array Value} {vs : Value} {Q : Value → Shared → Prop} (ht : IsTup s.heap t items) (hs : s.heap.IsSliceOf sl .none .none vs) (ps : IsPart vs (some (-1)))
    (h : Q (.ref s.heap.objs.size) { s with heap := s.heap.push { cls := .type "tuple", data := .seq items.toList.reverse.toArray } })
    (hsz : items.size ≤ sizeLine) : wpAny (model prog w) A (getItem (.ref t) (.ref sl)) Q E s := by
  have htake : sizeOk (.seq items.toList.reverse.toArray) := by
    show items.toList.reverse.toArray.size ≤ sizeLine
    rw [List.size_toArray, List.length_reverse, Array.length_toList]
    exact hsz
  obtain ⟨os, hos, hcs, hds⟩ := id hs
  have hTs : s.TypeIs (.ref sl) "slice" := ⟨os, hos, hcs⟩
  unfold getItem
  try with_reducible refine wpAny_holding ?_
  first | refine wpAny_bind (wpAny_pure ?_) | skip
  refine wpAny_bind (wpAny_sequenceKey ht.typeIs (by decide) ?_)
  refine wpAny_bind (wpAny_callSpecial?_slot (name := Str.ofString "__getitem__") ht.typeIs PyProof.Rows.slot_tuple_getitem
    (wpAny_call_entry PyProof.Rows.slot_tuple_getitem ht.typeIs entry_tuple_getitem ?_ (args_tuple_getitem _ _)))
  show wpAny _ _ (Builtin.Tuple.tupleItemsOf (.ref t) >>= _) _ _ s
  refine wpAny_bind (tupleItemsOf_ ht ?_)
  refine wpAny_bind (wpAny_typeOf hTs ?_)
  rw [if_pos (by decide)]
  refine wpAny_bind (sliceApplied_back hs ps ?_)
  have hno : ¬ ((((items.size : Int) - 1) == 0 && (-1 : Int) == 1 && items.size == items.size) = true) := by
    intro q
    rw [Bool.and_eq_true, Bool.and_eq_true] at q
    exact absurd q.1.2 (by decide)
  show wpAny _ _ (if (((items.size : Int) - 1) == 0 && (-1 : Int) == 1 && items.size == items.size) = true then _ else _) _ _ s
  rw [if_neg hno, pick_back]
  first
    | exact wpAny_bind (m := Builtin.Tuple.tupleExact _) (wpAny_newObj_type (wpAny_pure ⟨_, rfl, wpAny_pure h⟩) htake)
    | exact wpAny_bind (m := Builtin.Tuple.tupleExact _) (wpAny_newObj_type (wpAny_bind (wpAny_pure (wpAny_pure ⟨_, rfl, wpAny_pure h⟩))) htake)
    | exact wpAny_bind (wpAny_bind (m := Builtin.Tuple.tupleExact _) (wpAny_newObj_type (wpAny_pure (wpAny_pure ⟨_, rfl, wpAny_pure h⟩)) htake))
    | exact wpAny_bind (wpAny_bind (m := Builtin.Tuple.tupleExact _) (wpAny_newObj_type (wpAny_pure ⟨_, rfl, wpAny_pure h⟩) htake))
end
end HT
namespace Z
open PySem PySem.Spec PyProof.Rows L2

section
variable {X : Cx} {τ : Tb} {W : WX} {K : PySem.W.Frag} {Φ : Nat → List T → FOut}
/-! ### a[::-1] -/
def rRevA (K : PySem.W.Frag) : V → Hp → VK → Prop := fun x H Q => ∃ a xs, x = .ref a ∧ ((SqL K H a xs ∧ ∀ p, H p = none → Q (.ref p) (upd H p (.lst xs.reverse))) ∨ (SqT K H a xs ∧ ∀ p, H p = none → Q (.ref p) (upd H p (.tup xs.reverse))))
theorem pe_revA' {e : Expr} {te : TE} {k : Nat} {p1 p2 p3 pos : Pos} (he : PE X e te) : PE X (.Subscript e (.Slice none none (some (.UnaryOp .USub (.Constant (.int 1) k p1) p2)) p3) pos) (tUn (rRevA X.K) te) := by
  refine ⟨fun pins s σ H Q I h => ?_⟩
  refine Subscript_ (thn (he.run pins s σ H _ I h) fun v s1 ⟨x, H1, I1, r1, q1⟩ => ?_)
  obtain ⟨a, xs, ex, hx⟩ := q1
  subst ex
  cases r1
  have hst : PO X (some (.UnaryOp .USub (.Constant (.int 1) k p1) p2)) (tPart (tUn (rU fun i => .int (-i)) (tC (.int 1)))) := po_some (pe_un un_neg pe_int)
  refine wpAny_Slice ?_
  show wpAny _ _ (evalPart none X.env) _ _ _
  rw [evalPart_none]
  refine wpAny_pure ?_
  show wpAny _ _ (evalPart none X.env) _ _ _
  rw [evalPart_none]
  refine wpAny_pure ?_
  refine thn (hst.run pins s1 σ H1 (fun o H4 => o = some (-1) ∧ H4 = H1) I1 ⟨1, rfl, -1, rfl, rfl, rfl⟩) fun vs s4 ⟨o, H4, I4, ps, eo, e4⟩ => ?_
  subst eo e4
  have I5 : Inv X pins σ H4 { s4 with heap := s4.heap.push { cls := .type "slice", data := .fields #[.none, .none, vs] } } := I4.kept (t' := s4.toks) fun b ob q => Heap.get?_push_of_some _ q
  show wpAny (model X.prog X.w) X.A (subscriptTail e (.Slice none none (some (.UnaryOp .USub (.Constant (.int 1) k p1) p2)) p3) (.ref a) (.ref s4.heap.objs.size)) (EP X pins σ Q) X.xe { s4 with heap := s4.heap.push { cls := .type "slice", data := .fields #[.none, .none, vs] } }
  rcases hx with ⟨hx, q⟩ | ⟨hx, q⟩
  · obtain ⟨its, r, ht, hz⟩ := I5.list hx
    have hlen := r.length
    refine tail_any (ops := [.ref a, .ref s4.heap.objs.size]) ht.isList.typeIs (PySem.slot_list_getitem.lookup) ?_ (by with_unfolding_all rfl)
    refine wpAny_getItem_list_slice ht.isList (Heap.IsSliceOf.new _ .none .none vs) .none .none ps (by decide) ?_ (by rw [List.size_toArray]; omega)
    rw [PySem.W.krv_pick]
    refine ⟨.ref _, _, I5.laid (t' := s4.toks) (o := .lst xs.reverse) (fun b ob q => Heap.get?_push_of_some _ q) (Nat.le_refl _) ?_, rfl, q _ (I5.hok.fresh (Nat.le_refl _))⟩
    exact ⟨by rw [List.length_reverse]; exact hz, _, 0, r.reverse, Heap.get?_push_size _ rfl⟩
  · obtain ⟨its, r, ht, hz⟩ := I5.tuple hx
    have hlen := r.length
    refine tail_any (ops := [.ref a, .ref s4.heap.objs.size]) ht.typeIs (PyProof.Rows.slot_tuple_getitem.lookup) ?_ (by with_unfolding_all rfl)
    refine HT.getItem_tuple_back ht (Heap.IsSliceOf.new _ .none .none vs) ps ?_ (by rw [List.size_toArray]; omega)
    refine ⟨.ref _, _, I5.laid (t' := s4.toks) (o := .tup xs.reverse) (fun b ob q => Heap.get?_push_of_some _ q) (Nat.le_refl _) ?_, rfl, q _ (I5.hok.fresh (Nat.le_refl _))⟩
    exact ⟨by rw [List.length_reverse]; exact hz, _, r.reverse, IsTup.new _ _⟩
theorem DpAll.reverse {H : Hp} : ∀ {vs : List V} {ds : List D}, DpAll K H vs ds → DpAll K H vs.reverse ds.reverse
  | _, _, .nil => .nil
  | _, _, .cons h1 h2 => by
    rw [List.reverse_cons, List.reverse_cons]
    exact DpAll.append (DpAll.reverse h2) (.cons h1 .nil)
theorem DpAll.drop {H : Hp} : ∀ {vs : List V} {ds : List D} (n : Nat), DpAll K H vs ds → DpAll K H (vs.drop n) (ds.drop n)
  | _, _, 0, h => h
  | _, _, _ + 1, .nil => .nil
  | _, _, n + 1, .cons _ h => DpAll.drop n h
theorem DpAll.take {H : Hp} : ∀ {vs : List V} {ds : List D} (n : Nat), DpAll K H vs ds → DpAll K H (vs.take n) (ds.take n)
  | _, _, 0, h => .nil
  | _, _, _ + 1, .nil => .nil
  | _, _, n + 1, .cons h1 h => .cons h1 (DpAll.take n h)
theorem DpAll.cut {H : Hp} {vs : List V} {ds : List D} (lo hi : Option Int) (h : DpAll K H vs ds) : DpAll K H (cutV vs lo hi) (cut ds lo hi) := by
  unfold cutV Z.cut
  rw [DpAll.len h]
  exact DpAll.take _ (DpAll.drop _ h)
theorem op1_rev : Op1 X.K τ (rRevA X.K) revT := by
  intro G C H v x z Cx Q g hx sx e h
  unfold revT at e
  split at e
  · cases e
    cases hx.dp with
    | @tup a vs _ hq ha => exact ⟨a, vs, rfl, .inr ⟨g.ex.sqT hq, fin_tup g (DpAll.reverse ha) h⟩⟩
  · split at e
    · rename_i hl
      cases q : els x with
      | none => rw [q] at e; cases e
      | some ds =>
        rw [q] at e; cases e
        obtain ⟨a, vs, rfl, hq, ha⟩ := els_list g hx sx hl q
        exact ⟨a, vs, rfl, .inl ⟨hq, fin_lst g (DpAll.reverse ha) h⟩⟩
    · cases e
theorem s_rev {ea : Expr} {a : E} {k : Nat} {p1 p2 p3 pos : Pos} (ha : PE X ea (tO X.K τ W (ev Φ a) (spure a))) :
    PE X (.Subscript ea (.Slice none none (some (.UnaryOp .USub (.Constant (.int 1) k p1) p2)) p3) pos) (tO X.K τ W (ev Φ (.rev a)) (spure (.rev a))) :=
  (s_one (r := rRevA X.K) (fun h => pe_revA' h) ha op1_rev).imp fun _ _ _ h => h

/-! ### calls of built-ins with one argument -/
def isBi : Bi → Option (Str × String)
  | .len => some ("len", "len")
  | .abs => some ("abs", "abs")
  | .max => some ("max", "max")
  | .sum => some ("sum", "sum")
  | .all => some ("all", "all")
  | .any => some ("any", "any")
  | .sorted => some ("sorted", "sorted")
  | _ => none
def isTy : Bi → Option (Str × String)
  | .int => some ("int", "int")
  | .str => some ("str", "str")
  | .tuple => some ("tuple", "tuple")
  | .list => some ("list", "list")
  | _ => none
theorem asInts_all {G : Hp} : ∀ {vs : List V} {ds : List D} {is : List Int}, DpAll K G vs ds → asInts ds = some is → vs = is.map V.int
  | _, _, is, .nil, e => by unfold asInts at e; cases e; rfl
  | _, _, is, .cons (d := d) (ds := ds) h1 h2, e => by
    cases d with
    | int i =>
      unfold asInts at e
      cases q : asInts ds with
      | none => rw [q] at e; cases e
      | some js =>
        rw [q] at e; cases e
        cases h1
        rw [List.map_cons, asInts_all h2 q]
    | none => unfold asInts at e; cases e
    | bool _ => unfold asInts at e; cases e
    | str _ => unfold asInts at e; cases e
    | list _ => unfold asInts at e; cases e
    | tuple _ => unfold asInts at e; cases e
    | dict _ => unfold asInts at e; cases e
theorem bools_all {G : Hp} : ∀ {vs : List V} {ds : List D} {is : List Bool}, DpAll K G vs ds → bools ds = some is → vs = is.map V.bl
  | _, _, is, .nil, e => by unfold bools at e; cases e; rfl
  | _, _, is, .cons (d := d) (ds := ds) h1 h2, e => by
    cases d with
    | bool i =>
      unfold bools at e
      cases q : bools ds with
      | none => rw [q] at e; cases e
      | some js =>
        rw [q] at e; cases e
        cases h1
        rw [List.map_cons, bools_all h2 q]
    | none => unfold bools at e; cases e
    | int _ => unfold bools at e; cases e
    | str _ => unfold bools at e; cases e
    | list _ => unfold bools at e; cases e
    | tuple _ => unfold bools at e; cases e
    | dict _ => unfold bools at e; cases e
theorem maxI_is : ∀ {is : List Int} {m : Int}, maxI is = some m → m ∈ is ∧ ∀ y ∈ is, y ≤ m
  | [], m, e => by unfold maxI at e; cases e
  | [i], m, e => by unfold maxI at e; cases e; simp
  | i :: j :: is, m, e => by
    unfold maxI at e
    cases q : maxI (j :: is) with
    | none => rw [q] at e; cases e
    | some k =>
      rw [q] at e
      obtain ⟨h1, h2⟩ := maxI_is q
      simp only [Option.some.injEq] at e
      split at e
      · subst e
        refine ⟨List.mem_cons_of_mem _ h1, fun y hy => ?_⟩
        rcases List.mem_cons.mp hy with rfl | hy
        · omega
        · exact h2 y hy
      · subst e
        refine ⟨List.mem_cons_self, fun y hy => ?_⟩
        rcases List.mem_cons.mp hy with rfl | hy
        · omega
        · have := h2 y hy; omega
theorem cr_sumT (hc : X.calm = true) : CallR X (.builtin "sum") (fun vs H Q => ∃ (a : Addr) (ns : List Int), vs = [V.ref a] ∧ SqT X.K H a (ns.map V.int) ∧ Q (.int ns.sum) H) := by
  intro pins s σ H vs us Q I r h
  obtain ⟨a, ns, rfl, hs, q⟩ := h
  obtain ⟨its, rv, hl, _⟩ := I.tuple hs
  rw [Vals.ref1 r]
  have hi : IntsAre its ns := intsAre_of rv
  obtain ⟨xs, e⟩ := hi.allInts.items
  have hn : numsOf (intItems xs).toList = ns := by rw [← e]; exact hi.numsOf
  rw [nums_intItems] at hn
  have hl' : s.heap.IsTuple a its.toArray := hl
  rw [e] at hl'
  refine PySem.W.ktm_sumG (I.ok.hd hc) hl' fun h' tk t' hk => ?_
  rw [preSum_eq, List.take_of_length_le (by simp), hn]
  exact ⟨.int _, H, I.kept hk, ⟨_, rfl⟩, q⟩
theorem call_str_bool : CallR X (.type "str") (fun xs H Q => ∃ b, xs = [.bl b] ∧ Q (.str (if b then "True" else "False")) H) := by
  intro pins s σ H xs us Q I r h
  obtain ⟨i, rfl, q⟩ := h
  obtain ⟨u, rfl, r1⟩ := vals1 r
  cases r1
  exact PySem.P.str_of_bool ⟨.str _, H, I.tok _, ⟨_, rfl⟩, q⟩
theorem dp_ints' {G : Hp} : ∀ (ns : List Int), DpAll K G (ns.map V.int) (ns.map PyData.int)
  | [] => .nil
  | n :: ns => .cons (.int n) (dp_ints' ns)
theorem tups_all {G : Hp} : ∀ {vs : List V} {ds : List D} {nss : List (List Int)}, DpAll K G vs ds → tupsOf ds = some nss → ∃ zs : List (Addr × List Int), (zs.map fun z => V.ref z.1) = vs ∧ zs.map (·.2) = nss ∧ ∀ z ∈ zs, SqT K G z.1 (z.2.map V.int)
  | _, _, nss, .nil, e => by unfold tupsOf at e; cases e; exact ⟨[], rfl, rfl, fun z h => by cases h⟩
  | _, _, nss, .cons (d := d) (ds := ds) h1 h2, e => by
    cases d with
    | tuple xs =>
      unfold tupsOf at e
      cases q : asInts xs with
      | none => rw [q] at e; cases e
      | some ns =>
        rw [q] at e
        simp only [Option.bind_some] at e
        cases q2 : tupsOf ds with
        | none => rw [q2] at e; cases e
        | some ms =>
          rw [q2] at e
          cases e
          obtain ⟨zs, z1, z2, z3⟩ := tups_all h2 q2
          cases h1 with
          | @tup a us _ hs ha =>
            have := asInts_all ha q
            subst this
            refine ⟨(a, ns) :: zs, by rw [← z1]; rfl, by rw [← z2]; rfl, fun z hz => ?_⟩
            rcases List.mem_cons.mp hz with rfl | hz
            · exact hs
            · exact z3 z hz
    | none => unfold tupsOf at e; cases e
    | bool _ => unfold tupsOf at e; cases e
    | int _ => unfold tupsOf at e; cases e
    | str _ => unfold tupsOf at e; cases e
    | list _ => unfold tupsOf at e; cases e
    | dict _ => unfold tupsOf at e; cases e
theorem dp_tups {G : Hp} : ∀ (zs : List (Addr × List Int)), (∀ z ∈ zs, SqT K G z.1 (z.2.map V.int)) → DpAll K G (zs.map fun z => V.ref z.1) ((zs.map (·.2)).map tupD)
  | [], _ => .nil
  | z :: zs, h => .cons (.tup (h z List.mem_cons_self) (dp_ints' z.2)) (dp_tups zs fun y hy => h y (List.mem_cons_of_mem _ hy))
theorem perm_lift {α β : Type} {f : α → β} {l ys : List β} (h : l.Perm ys) : ∀ zs : List α, zs.map f = l → ∃ zs' : List α, zs'.Perm zs ∧ zs'.map f = ys := by
  induction h with
  | nil => intro zs e; exact ⟨zs, .refl _, e⟩
  | cons x _ ih =>
    intro zs e
    cases zs with
    | nil => cases e
    | cons z zs =>
      cases e
      obtain ⟨zs', p, e'⟩ := ih zs rfl
      exact ⟨z :: zs', p.cons z, by rw [List.map_cons, e']⟩
  | swap x y l =>
    intro zs e
    cases zs with
    | nil => cases e
    | cons z zs =>
      cases zs with
      | nil => cases e
      | cons w zs =>
        cases e
        exact ⟨w :: z :: zs, .swap _ _ _, rfl⟩
  | trans _ _ ih1 ih2 =>
    intro zs e
    obtain ⟨z1, p1, e1⟩ := ih1 zs e
    obtain ⟨z2, p2, e2⟩ := ih2 z1 e1
    exact ⟨z2, p2.trans p1, e2⟩
theorem code_inj' {B : Int} : ∀ {r q : List Int}, r.length = q.length → TS.Bd B r → TS.Bd B q → TS.code B r = TS.code B q → r = q
  | [], [], _, _, _, _ => rfl
  | [], _ :: _, h, _, _, _ => by cases h
  | _ :: _, [], h, _, _, _ => by cases h
  | d :: r, e :: q, hl, hr, hq, h => by
    have hl' : r.length = q.length := by simpa using hl
    rcases Int.lt_trichotomy d e with c | c | c
    · have := TS.code_lt (B := B) hl' hr.tail hq.tail c
      omega
    · subst c
      have h1 := TS.code_same (B := B) (d := d) hl'
      have h2 := TS.code_same (B := B) (d := d) hl'.symm
      rw [code_inj' hl' hr.tail hq.tail (by
        rcases Int.lt_trichotomy (TS.code B r) (TS.code B q) with c | c | c
        · have := h1.mpr c; omega
        · exact c
        · have := h2.mpr c; omega)]
    · have := TS.code_lt (B := B) hl'.symm hq.tail hr.tail c
      omega
theorem okTups_is {nss : List (List Int)} (h : okTups nss = true) : nss.length < 64 ∧ ∃ d, 1 ≤ d ∧ ∀ ns ∈ nss, ns.length = d ∧ TS.Bd srtB ns := by
  unfold okTups at h
  rw [Bool.and_eq_true] at h
  refine ⟨of_decide_eq_true h.1, ?_⟩
  cases nss with
  | nil => exact ⟨1, Nat.le_refl _, fun ns h => by cases h⟩
  | cons n0 nss =>
    have h2 := h.2
    simp only [Bool.and_eq_true] at h2
    refine ⟨n0.length, of_decide_eq_true h2.1, fun ns hm => ?_⟩
    have := List.all_eq_true.mp h2.2 ns hm
    unfold okTup at this
    rw [Bool.and_eq_true] at this
    refine ⟨of_decide_eq_true this.1, fun m hm => ?_⟩
    have := List.all_eq_true.mp this.2 m hm
    simp only [Bool.and_eq_true, decide_eq_true_eq] at this
    exact this
theorem srtL_perm (nss : List (List Int)) : (srtL nss).Perm nss := List.mergeSort_perm _ _
theorem srtL_sorted (nss : List (List Int)) : (srtL nss).Pairwise fun a b => TS.code srtB a ≤ TS.code srtB b := by
  have := List.pairwise_mergeSort (le := fun a b => decide (TS.code srtB a ≤ TS.code srtB b)) (fun a b c h1 h2 => by simp at h1 h2 ⊢; omega) (fun a b => by simp; omega) nss
  exact this.imp fun h => by simpa using h
theorem srtL_eq {nss ms : List (List Int)} {d : Nat} (h : ∀ ns ∈ nss, ns.length = d ∧ TS.Bd srtB ns) (hp : ms.Perm nss) (hs : ms.Pairwise fun a b => TS.code srtB a ≤ TS.code srtB b) : ms = srtL nss := by
  refine List.Perm.eq_of_pairwise (fun a b ha hb h1 h2 => ?_) hs (srtL_sorted nss) (hp.trans (srtL_perm nss).symm)
  obtain ⟨a1, a2⟩ := h a (hp.mem_iff.mp ha)
  obtain ⟨b1, b2⟩ := h b ((srtL_perm nss).mem_iff.mp hb)
  exact code_inj' (by omega) a2 b2 (Int.le_antisymm h1 h2)
theorem mem_ddup {x : List Int} : ∀ {l : List (List Int)}, x ∈ ddup l ↔ x ∈ l
  | [] => Iff.rfl
  | y :: l => by
    unfold ddup
    split
    · rename_i hy
      rw [mem_ddup (l := l), List.mem_cons]
      exact ⟨.inr, fun h => h.elim (fun e => e ▸ hy) id⟩
    · rw [List.mem_cons, List.mem_cons, mem_ddup (l := l)]
theorem nodup_ddup : ∀ {l : List (List Int)}, (ddup l).Nodup
  | [] => List.nodup_nil
  | y :: l => by
    unfold ddup
    split
    · exact nodup_ddup
    · rename_i hy
      exact List.nodup_cons.mpr ⟨fun h => hy (mem_ddup.mp h), nodup_ddup⟩
theorem op1_bi (hc : X.calm = true) {f : Bi} {x : Str} {id : String} (hf : isBi f = some (x, id)) : Op1 X.K τ (fun v H Q => cAny X (.builtin id) [v] H Q) (biT f) := by
  intro G C H v t z Ct Q g ht st e h
  cases f <;> cases hf <;> simp only [biT] at e
  · -- len
    split at e
    · rename_i ds hz
      cases e
      cases ht.read g st hz with
      | @lst a vs _ hs ha =>
        refine ⟨_, call_len_seq, a, vs, rfl, .inl hs, ?_⟩
        rw [DpAll.len ha]
        exact fin_flat g (.int _) h
    · rename_i ds hz
      cases e
      cases ht.read g st hz with
      | @tup a vs _ hs ha =>
        refine ⟨_, call_len_seq, a, vs, rfl, .inr hs, ?_⟩
        rw [DpAll.len ha]
        exact fin_flat g (.int _) h
    · rename_i s hz
      split at e
      · rename_i hl
        cases e
        cases ht.read g st hz
        exact ⟨_, call_len_str, s, rfl, line_ok hl, fin_flat g (.int _) h⟩
      · cases e
    · cases e
  · -- abs
    split at e
    · cases e
      cases ht.dp
      exact ⟨_, call_abs, _, rfl, fin_flat g (.int _) h⟩
    · cases e
  · -- max
    split at e
    · rename_i hl
      split at e
      · rename_i ds hz
        obtain ⟨a, vs, rfl, hq, ha⟩ := els_list g ht st hl hz
        cases q : (asInts ds).bind maxI with
        | none => rw [q] at e; cases e
        | some m =>
          rw [q] at e; cases e
          obtain ⟨ns, e1, e2⟩ := bind_get q
          have := asInts_all ha e1
          subst this
          obtain ⟨h1, h2⟩ := maxI_is e2
          refine ⟨_, cr_max hc, a, ns, rfl, hq, List.length_pos_of_mem h1, fun m' h3 h4 => ?_⟩
          have : m' = m := Int.le_antisymm (h2 _ h3) (h4 _ h1)
          subst this
          exact fin_flat g (.int _) h
      · cases e
    · cases e
  · -- sum
    split at e
    · rename_i ds hz
      obtain ⟨a, vs, rfl, hq, ha⟩ := els_any g ht st hz
      cases q : asInts ds with
      | none => rw [q] at e; cases e
      | some ns =>
        rw [q] at e; cases e
        have := asInts_all ha q
        subst this
        rcases hq with hq | hq
        · exact ⟨_, cr_sum hc, a, ns, rfl, hq, fin_flat g (.int _) h⟩
        · exact ⟨_, cr_sumT hc, a, ns, rfl, hq, fin_flat g (.int _) h⟩
    · cases e
  · -- all
    split at e
    · rename_i hl
      split at e
      · rename_i ds hz
        obtain ⟨a, vs, rfl, hq, ha⟩ := els_list g ht st hl hz
        cases q : bools ds with
        | none => rw [q] at e; cases e
        | some ns =>
          rw [q] at e; cases e
          have := bools_all ha q
          subst this
          exact ⟨_, cr_all hc, a, ns, rfl, hq, fin_flat g (.bl _) h⟩
      · cases e
    · cases e
  · -- any
    split at e
    · rename_i hl
      split at e
      · rename_i ds hz
        obtain ⟨a, vs, rfl, hq, ha⟩ := els_list g ht st hl hz
        cases q : bools ds with
        | none => rw [q] at e; cases e
        | some ns =>
          rw [q] at e; cases e
          have := bools_all ha q
          subst this
          exact ⟨_, cr_any hc, a, ns, rfl, hq, fin_flat g (.bl _) h⟩
      · cases e
    · cases e
  · -- sorted
    split at e
    · rename_i hl
      cases hz : els t with
      | none => rw [hz] at e; cases e
      | some ds =>
        rw [hz] at e
        simp only [Option.bind_some] at e
        obtain ⟨a, vs, rfl, hq, ha⟩ := els_list g ht st hl hz
        unfold srtD at e
        cases q : tupsOf ds with
        | none => rw [q] at e; cases e
        | some nss =>
          rw [q] at e
          simp only [Option.bind_some] at e
          split at e
          · rename_i hok
            cases e
            obtain ⟨h64, d, hd, hB⟩ := okTups_is hok
            obtain ⟨zs, z1, z2, z3⟩ := tups_all ha q
            have hlen : vs.length < 64 := by rw [← z1, List.length_map, ← List.length_map (f := (·.2)) (as := zs), z2]; exact h64
            refine ⟨_, cr_sortT (d := d) (B := srtB) hd, a, vs, rfl, hq, hlen, fun x hx => ?_, fun ys p hp hpw hn => ?_⟩
            · rw [← z1] at hx
              obtain ⟨z, hz, rfl⟩ := List.mem_map.mp hx
              have hm : z.2 ∈ nss := by rw [← z2]; exact List.mem_map.mpr ⟨z, hz, rfl⟩
              exact ⟨z.2, ⟨z.1, rfl, g.ex.sqT (z3 z hz)⟩, (hB _ hm).1, (hB _ hm).2⟩
            · obtain ⟨zs', p1, e1⟩ := perm_lift hp.symm zs z1
              have hz' : ∀ z ∈ zs', SqT X.K G z.1 (z.2.map V.int) := fun z hz => z3 z (p1.mem_iff.mp hz)
              have hsort : zs'.map (·.2) = srtL nss := by
                refine srtL_eq hB (by rw [← z2]; exact p1.map _) ?_
                rw [List.pairwise_map]
                rw [← e1, List.pairwise_map] at hpw
                exact hpw.imp_of_mem fun {x y} hx hy h => h _ _ ⟨x.1, rfl, g.ex.sqT (hz' x hx)⟩ ⟨y.1, rfl, g.ex.sqT (hz' y hy)⟩
              have hdp := dp_tups (K := X.K) (G := G) zs' hz'
              rw [e1, hsort] at hdp
              exact fin_lst g hdp h p hn
          · cases e
    · cases e
/-- sorted(set(xs)), xs a list of tuples of ints -/
theorem op1_sset (hc : X.calm = true) (hu : X.A.units + 64 < cLine) : Op1 X.K τ (fun v H Q => cAny X (.type "set") [v] H fun u H' => cAny X (.builtin "sorted") [u] H' Q) (biT .sset) := by
  intro G C H v t z Ct Q g ht st e h
  simp only [biT] at e
  split at e
  · rename_i hl
    cases hz : els t with
    | none => rw [hz] at e; cases e
    | some ds =>
      rw [hz] at e
      simp only [Option.bind_some] at e
      obtain ⟨a, vs, rfl, hq, ha⟩ := els_list g ht st hl hz
      unfold ssetD at e
      cases q : tupsOf ds with
      | none => rw [q] at e; cases e
      | some nss =>
        rw [q] at e
        simp only [Option.bind_some] at e
        split at e
        · rename_i hok
          cases e
          obtain ⟨h64, d, hd, hB⟩ := okTups_is hok
          obtain ⟨zs, z1, z2, z3⟩ := tups_all ha q
          have hlen : zs.length < 64 := by rw [← List.length_map (f := (·.2)) (as := zs), z2]; exact h64
          refine ⟨_, cr_setOfT hc hu, a, zs, rfl, by rw [z1]; exact hq, fun p hp => g.ex.sqT (z3 p hp), hlen, fun b L hb s1 s2 => ?_⟩
          have g' := g.newG (SetTO X.prog X.w b L) hb
          have eG : Same G (upd G b (SetTO X.prog X.w b L)) := L2.Same.new (g.fresh hb).1
          have zL : ∀ p ∈ L, SqT X.K (upd G b (SetTO X.prog X.w b L)) p.1 (p.2.map V.int) := fun p hp => eG.sqT (z3 p (s1 p hp))
          refine ⟨_, cr_sortedT hc, b, L, d, srtB, rfl, upd_same, fun p hp => g'.ex.sqT (zL p hp), hd, fun p hp => hB _ (by rw [← z2]; exact List.mem_map.mpr ⟨p, s1 p hp, rfl⟩), fun L' p p1 p2 p3 p4 hn => ?_⟩
          have hsub : ∀ x, x ∈ L'.map (·.2) ↔ x ∈ ddup nss := fun x => by
            rw [mem_ddup, (p1.map (·.2)).mem_iff]
            refine ⟨fun hx => ?_, fun hx => ?_⟩
            · obtain ⟨y, hy, rfl⟩ := List.mem_map.mp hx
              rw [← z2]
              exact List.mem_map.mpr ⟨y, s1 y hy, rfl⟩
            · rw [← z2] at hx
              obtain ⟨y, hy, rfl⟩ := List.mem_map.mp hx
              exact s2 y hy
          have hperm : (L'.map (·.2)).Perm (ddup nss) := (List.perm_ext_iff_of_nodup p2 nodup_ddup).mpr hsub
          have hsort : L'.map (·.2) = srtL (ddup nss) := srtL_eq (d := d) (fun ns hm => hB ns (mem_ddup.mp hm)) hperm (by rw [List.pairwise_map]; exact p4)
          have hdp := dp_tups (K := X.K) (G := upd G b (SetTO X.prog X.w b L)) L' fun z hz => zL z (p1.mem_iff.mp hz)
          rw [hsort] at hdp
          exact fin_lst g' hdp (fun u H' G' Cz e1 e2 e3 => h u H' G' Cz (eG.trans e1) e2 e3) p hn
        · cases e
  · cases e
/-! ### sep.join(texts) -/
theorem strs_all {G : Hp} : ∀ {vs : List V} {ds : List D} {ys : List Str}, DpAll K G vs ds → strsOf ds = some ys → vs = ys.map V.str
  | _, _, ys, .nil, e => by unfold strsOf at e; cases e; rfl
  | _, _, ys, .cons (d := d) (ds := ds) h1 h2, e => by
    cases d with
    | str x =>
      unfold strsOf at e
      cases q : strsOf ds with
      | none => rw [q] at e; cases e
      | some js =>
        rw [q] at e; cases e
        cases h1
        rw [List.map_cons, strs_all h2 q]
    | none => unfold strsOf at e; cases e
    | bool _ => unfold strsOf at e; cases e
    | int _ => unfold strsOf at e; cases e
    | list _ => unfold strsOf at e; cases e
    | tuple _ => unfold strsOf at e; cases e
    | dict _ => unfold strsOf at e; cases e
def rJoin (K : PySem.W.Frag) (z : Str) : V → Hp → VK → Prop := fun v H Q => ∃ a p, ∃ ys : List Str, V.str z = .str a ∧ [v] = [.ref p] ∧ (SqL K H p (ys.map V.str) ∨ SqT K H p (ys.map V.str)) ∧ (ys.map (·.length)).sum + ys.length * a.length ≤ 16777216 ∧ Q (.str (Txt.join a ys)) H
theorem op1_join {z : Str} : Op1 X.K τ (rJoin X.K z) (biT (.join z)) := by
  intro G C H v t w Ct Q g ht st e h
  simp only [biT] at e
  cases hz : els t with
  | none => rw [hz] at e; cases e
  | some ds =>
    rw [hz] at e
    simp only [Option.bind_some] at e
    obtain ⟨a, vs, rfl, hq, ha⟩ := els_any g ht st hz
    unfold joinD at e
    cases q : strsOf ds with
    | none => rw [q] at e; cases e
    | some ys =>
      rw [q] at e
      simp only [Option.bind_some] at e
      split at e
      · rename_i hl
        cases e
        have := strs_all ha q
        subst this
        have hl := of_decide_eq_true hl
        exact ⟨z, a, ys, rfl, rfl, hq, by omega, fin_flat g (.str _) h⟩
      · cases e
theorem s_join {ea : Expr} {a : E} {z : Str} {k : Nat} {p apos cpos : Pos} (hst : starEach [ea] X.env = (false, eval ea X.env) :: starEach [] X.env)
    (hfew : ((backTo cpos (starEach [ea] X.env)).all (fun x => !x.1) && (backToKw cpos (keywordEach [] X.env)).all (fun x => x.1.isSome) && decide ([ea].length + ([] : List Keyword).length + (if ([] : List Keyword).isEmpty then 0 else 1) < 30)) = true)
    (hline : (apos.endLine == cpos.line) = true) (ha : PE X ea (tO X.K τ W (ev Φ a) (spure a))) :
    PE X (.Call (.Attribute (.Constant (.str z) k p) "join" apos) [ea] [] cpos) (tO X.K τ W (ev Φ (.bi (.join z) a)) (spure (.bi (.join z) a))) :=
  (s_one (r := rJoin X.K z) (fun h => (pe_bm (T := "str") (id := "str.join") PySem.F.plainAttrs_str PySem.F.slot_str_join PySem.F.type_str_join mt_join pe_str (pa_cons h pa_nil hst) rfl hfew hline hst rfl).imp fun σ H Q h => ⟨rfl, h⟩) ha op1_join).imp fun _ _ _ h => h
theorem s_sset {ea : Expr} {a : E} {x y : Str} {p p2 pos pos2 : Pos} (hc : X.calm = true) (hu : X.A.units + 64 < cLine) (hx : x = "sorted") (hy : y = "set") (hg : Gl X x) (hm : X.mg x = none) (hg2 : Gl X y) (hm2 : X.mg y = none) (hst : starEach [ea] X.env = (false, eval ea X.env) :: starEach [] X.env) (hst2 : starEach [.Call (.Name y p2) [ea] [] pos2] X.env = (false, eval (.Call (.Name y p2) [ea] [] pos2) X.env) :: starEach [] X.env) (ha : PE X ea (tO X.K τ W (ev Φ a) (spure a))) :
    PE X (.Call (.Name x p) [.Call (.Name y p2) [ea] [] pos2] [] pos) (tO X.K τ W (ev Φ (.bi .sset a)) (spure (.bi .sset a))) := by
  subst hx hy
  have b1 : bootBuiltins "sorted" = some (.builtin "sorted") ∧ ("sorted" : Str) ≠ "__name__" ∧ (("sorted" : Str) == ("__debug__" : Str)) = false := ⟨by decide +kernel, by decide +kernel, by decide +kernel⟩
  have b2 : bootBuiltins "set" = some (.type "set") ∧ ("set" : Str) ≠ "__name__" ∧ (("set" : Str) == ("__debug__" : Str)) = false := ⟨by decide +kernel, by decide +kernel, by decide +kernel⟩
  exact (s_one (r := fun v H Q => cAny X (.type "set") [v] H fun u H' => cAny X (.builtin "sorted") [u] H' Q) (fun h => (pe_callB call_any hg hm b1.1 (pa_cons ((pe_callTy call_any hg2 hm2 b2.1 (pa_cons h pa_nil hst) b2.2.1 b2.2.2 hst)) pa_nil hst2) b1.2.1 b1.2.2 hst2).imp fun _ _ _ h => h) ha (op1_sset hc hu)).imp fun _ _ _ h => h
theorem op1_ty {f : Bi} {x : Str} {id : String} (hf : isTy f = some (x, id)) : Op1 X.K τ (fun v H Q => cAny X (.type id) [v] H Q) (biT f) := by
  intro G C H v t z Ct Q g ht st e h
  cases f <;> cases hf <;> simp only [biT] at e
  · -- int
    split at e
    · cases e
      cases ht.dp
      exact ⟨_, call_int1, .inl ⟨_, rfl, fin_flat g (.int _) h⟩⟩
    · cases e
      cases ht.dp
      exact ⟨_, call_int1, .inr ⟨_, rfl, fin_flat g (.int _) h⟩⟩
    · split at e
      · rename_i x hl
        cases q : PySem.intText? x with
        | none => rw [q] at e; cases e
        | some n =>
          rw [q] at e; cases e
          cases ht.dp
          exact ⟨_, call_int_str, x, n, rfl, q, hl, fin_flat g (.int _) h⟩
      · cases e
    · cases e
  · -- str
    split at e
    · split at e
      · rename_i hl
        cases e
        cases ht.dp
        exact ⟨_, call_str_int, _, rfl, hl, fin_flat g (.str _) h⟩
      · cases e
    · cases e
      cases ht.dp
      exact ⟨_, call_str_bool, _, rfl, fin_flat g (.str _) h⟩
    · cases e
  · -- tuple
    cases q : els t with
    | none => rw [q] at e; cases e
    | some ds =>
      rw [q] at e; cases e
      obtain ⟨a, vs, rfl, hq, ha⟩ := els_any g ht st q
      cases t with
      | sh d =>
        cases ht.dp with
        | @lst _ xs _ hs hb =>
          cases q
          exact ⟨_, call_tuple_of, a, xs, rfl, .inl ⟨g.ex.seq hs, fin_tup g hb h⟩⟩
        | @tup _ xs _ hs hb =>
          cases q
          exact ⟨_, call_tuple_of, a, xs, rfl, .inr ⟨g.ex.sqT hs, fin_flat g (.tup hs hb) h⟩⟩
      | ol ts =>
        obtain ⟨a', vs', e', hq', ha'⟩ := els_list g ht st rfl q
        cases e'
        exact ⟨_, call_tuple_of, a, vs', rfl, .inl ⟨hq', fin_tup g ha' h⟩⟩
      | ob _ _ _ => cases q
      | tp _ => cases q
  · -- list
    cases q : els t with
    | none => rw [q] at e; cases e
    | some ds =>
      rw [q] at e; cases e
      obtain ⟨a, vs, rfl, hq, ha⟩ := els_any g ht st q
      exact ⟨_, call_list_of, a, vs, rfl, hq, fin_lst g ha h⟩
theorem s_bi {ea : Expr} {a : E} {f : Bi} {x : Str} {id : String} {p pos : Pos} (hc : X.calm = true) (hf : isBi f = some (x, id)) (hg : Gl X x) (hm : X.mg x = none) (hst : starEach [ea] X.env = (false, eval ea X.env) :: starEach [] X.env) (ha : PE X ea (tO X.K τ W (ev Φ a) (spure a))) :
    PE X (.Call (.Name x p) [ea] [] pos) (tO X.K τ W (ev Φ (.bi f a)) (spure (.bi f a))) := by
  have hb : bootBuiltins x = some (.builtin id) ∧ x ≠ "__name__" ∧ (x == ("__debug__" : Str)) = false := by
    cases f <;> cases hf <;> exact ⟨by decide +kernel, by decide +kernel, by decide +kernel⟩
  exact (s_one (r := fun v H Q => cAny X (.builtin id) [v] H Q) (fun h => (pe_callB call_any hg hm hb.1 (pa_cons h pa_nil hst) hb.2.1 hb.2.2 hst).imp fun _ _ _ h => h) ha (op1_bi hc hf)).imp fun _ _ _ h => h
theorem s_ty {ea : Expr} {a : E} {f : Bi} {x : Str} {id : String} {p pos : Pos} (hf : isTy f = some (x, id)) (hg : Gl X x) (hm : X.mg x = none) (hst : starEach [ea] X.env = (false, eval ea X.env) :: starEach [] X.env) (ha : PE X ea (tO X.K τ W (ev Φ a) (spure a))) :
    PE X (.Call (.Name x p) [ea] [] pos) (tO X.K τ W (ev Φ (.bi f a)) (spure (.bi f a))) := by
  have hb : bootBuiltins x = some (.type id) ∧ x ≠ "__name__" ∧ (x == ("__debug__" : Str)) = false := by
    cases f <;> cases hf <;> exact ⟨by decide +kernel, by decide +kernel, by decide +kernel⟩
  exact (s_one (r := fun v H Q => cAny X (.type id) [v] H Q) (fun h => (pe_callTy call_any hg hm hb.1 (pa_cons h pa_nil hst) hb.2.1 hb.2.2 hst).imp fun _ _ _ h => h) ha (op1_ty hf)).imp fun _ _ _ h => h
/-! ### isinstance -/
def tyName : Ty → Str × String
  | .int => ("int", "int")
  | .bool => ("bool", "bool")
  | .tuple => ("tuple", "tuple")
  | .list => ("list", "list")
  | .str => ("str", "str")
theorem sqT_ty {H : Hp} {a : Addr} {xs : List V} (h : SqT X.K H a xs) : TyX X.K H (.ref a) (.type "tuple") := by
  rcases h with (h | ⟨o, h⟩) | ⟨o, its, n, h1, h2, _⟩
  · exact .base (.tup h)
  · exact .fTuple h
  · exact .kTuple h1 h2
theorem sqL_ty {H : Hp} {a : Addr} {xs : List V} (h : SqL X.K H a xs) : TyX X.K H (.ref a) (.type "list") := by
  rcases h with (h | ⟨o, h⟩) | ⟨o, its, n, h1, h2, _⟩
  · exact .base (.lst h)
  · exact .base (.frz h)
  · exact .kList h1 h2
theorem op1_isi {ty : Ty} : Op1 X.K τ (fun v H Q => cAny X (.builtin "isinstance") [v, .ty (tyName ty).2] H Q) (isiT ty) := by
  intro G C H v t z Ct Q g ht st e h
  unfold isiT at e
  split at e
  · rename_i d hz
    cases e
    have hd := ht.read g st hz
    have fin : ∀ (tv : String) (b : Bool), TyX X.K H v (.type tv) → kitB tv (tyName ty).2 = some b → isiD ty d = b → cAny X (.builtin "isinstance") [v, .ty (tyName ty).2] H Q := fun tv b h1 h2 h3 =>
      ⟨_, call_isi, v, .ty (tyName ty).2, .type tv, .type (tyName ty).2, b, rfl, .ty _, h1, kit_ty h2, by rw [h3] at h; exact fin_flat g (.bl _) h⟩
    cases hd with
    | non => cases ty <;> exact fin "NoneType" false (.base .non) (by decide +kernel) rfl
    | bl b => cases ty <;> first | exact fin "bool" false (.base (.bl b)) (by decide +kernel) rfl | exact fin "bool" true (.base (.bl b)) (by decide +kernel) rfl
    | int i => cases ty <;> first | exact fin "int" false (.base (.int i)) (by decide +kernel) rfl | exact fin "int" true (.base (.int i)) (by decide +kernel) rfl
    | str x => cases ty <;> first | exact fin "str" false (.base (.str x)) (by decide +kernel) rfl | exact fin "str" true (.base (.str x)) (by decide +kernel) rfl
    | lst hs ha => cases ty <;> first | exact fin "list" false (sqL_ty hs) (by decide +kernel) rfl | exact fin "list" true (sqL_ty hs) (by decide +kernel) rfl
    | tup hs ha => cases ty <;> first | exact fin "tuple" false (sqT_ty hs) (by decide +kernel) rfl | exact fin "tuple" true (sqT_ty hs) (by decide +kernel) rfl
  · cases e
theorem s_isi {ea : Expr} {a : E} {ty : Ty} {p p2 pos : Pos} (hg : Gl X "isinstance") (hm : X.mg "isinstance" = none) (hg2 : Gl X (tyName ty).1) (hm2 : X.mg (tyName ty).1 = none)
    (hst : starEach [ea, .Name (tyName ty).1 p2] X.env = (false, eval ea X.env) :: starEach [.Name (tyName ty).1 p2] X.env) (ha : PE X ea (tO X.K τ W (ev Φ a) (spure a))) :
    PE X (.Call (.Name "isinstance" p) [ea, .Name (tyName ty).1 p2] [] pos) (tO X.K τ W (ev Φ (.isi ty a)) (spure (.isi ty a))) := by
  have hb : bootBuiltins (tyName ty).1 = some (.type (tyName ty).2) ∧ (tyName ty).1 ≠ "__name__" ∧ ((tyName ty).1 == ("__debug__" : Str)) = false := by
    cases ty <;> exact ⟨by decide +kernel, by decide +kernel, by decide +kernel⟩
  have ht : PE X (.Name (tyName ty).1 p2) (tC (.ty (tyName ty).2)) := pe_bltn hg2 hm2 hb.1 rfl hb.2.1 hb.2.2
  exact (s_one (r := fun v H Q => cAny X (.builtin "isinstance") [v, .ty (tyName ty).2] H Q) (fun h => (pe_callB call_any hg hm (by decide +kernel) (pa_cons h (pa_cons ht pa_nil rfl) hst) (by decide +kernel) (by decide +kernel) hst rfl).imp fun _ _ _ h => h) ha op1_isi).imp fun _ _ _ h => h
end
end Z

set_option Elab.async false
set_option linter.all false
set_option maxRecDepth 100000
namespace Z
open PySem PySem.Spec PyProof.Rows L2

section
variable {X : Cx} {τ : Tb} {W : WX} {K : PySem.W.Frag} {Φ : Nat → List T → FOut}
/-! ### slices -/
def PStep (K : PySem.W.Frag) (τ : Tb) (W : WX) (Φ : Nat → List T → FOut) (tl : TO) (i : E) : Prop := ∀ (σ : L2.St) (H : Hp) (R : Option Int → Hp → Prop) (F : List Cell) (Γ : Env) (G : Hp) (C : List Cell), Good G (C ++ F) H → RelG K τ.κ G σ Γ C →
  (match ev Φ i Γ with
    | .ok o Γ' => ∃ p, part i o = some p ∧ ∀ H' G' C', Same G G' → Good G' (C' ++ F) H' → RelG K τ.κ G' σ Γ' C' → (spure i = true → Γ' = Γ ∧ C' = C) → R p H'
    | .ex c Γ' => ∀ H' G' C', Same G G' → Good G' (C' ++ F) H' → RelG K τ.κ G' σ Γ' C' → W (.ref (τ.ea c)) none σ H'
    | .no => False) → tl σ H R
structure PartOk (X : Cx) (τ : Tb) (W : WX) (Φ : Nat → List T → FOut) (e : Option Expr) (i : E) : Prop where
  ok : ∃ tl, PO X e tl ∧ PStep X.K τ W Φ tl i
theorem part_none : PartOk X τ W Φ none .non := by
  refine ⟨tNoPart, po_none, fun σ H R F Γ G C g r h => ?_⟩
  have e : ev Φ .non Γ = .ok (.t (.sh .none)) Γ := rfl
  simp only [e] at h
  obtain ⟨p, hp, h⟩ := h
  unfold part at hp
  cases hp
  exact h H G C (L2.Same.refl G) g r fun _ => ⟨trivial, rfl⟩
theorem part_some {e : Expr} {i : E} (hn : i ≠ .non) (he : PE X e (tO X.K τ W (ev Φ i) (spure i))) : PartOk X τ W Φ (some e) i := by
  refine ⟨_, po_some he, fun σ H R F Γ G C g r h => ?_⟩
  refine ⟨F, Γ, G, C, g, r, ?_⟩
  cases hA : ev Φ i Γ with
  | no => simp only [hA] at h
  | ex c Γ1 => simp only [hA] at h; exact h
  | ok o Γ1 =>
    simp only [hA] at h
    intro v H1 G1 C1 Co e1 g1 r1 o1 sp1
    obtain ⟨p, hp, h⟩ := h
    unfold part at hp
    split at hp
    · exact absurd rfl hn
    · cases hp
      have ht := (show RelT X.K τ.κ G1 v (.sh (.int _)) Co from o1)
      cases ht.dp
      exact ⟨_, rfl, h H1 G1 C1 e1 (g1.re (fun a => by simp) (fun c hc => by simp at hc ⊢; grind)) r1 sp1⟩
    · cases hp
def slAny (X : Cx) : V → Option Int → Option Int → Hp → VK → Prop := fun x lo hi H Q => ∃ r, SlR X r ∧ r x lo hi H Q
theorem sl_any : SlR X (slAny X) := fun pins s σ H x v vl vu lo hi sl Q I rx hs pl pu ⟨r, h, q⟩ => h pins s σ H x v vl vu lo hi sl Q I rx hs pl pu q
theorem op1_sl (lo hi : Option Int) : Op1 X.K τ (fun v H Q => slAny X v lo hi H Q) (slT lo hi) := by
  intro G C H v t z Ct Q g ht st e h
  unfold slT at e
  split at e
  · rename_i ds
    cases e
    cases ht.dp with
    | @tup a vs _ hq ha =>
      refine ⟨_, sl_tupA, a, vs, rfl, g.ex.sqT hq, fun hw => ?_, fun _ => fin_tup g (DpAll.cut lo hi ha) h⟩
      have hl := DpAll.len ha
      have hd : Z.cut ds lo hi = ds := by
        unfold Z.cut
        rw [← hl, hw.1, hw.2]
        show List.take (vs.length - 0) (List.drop 0 _) = _
        rw [List.drop_zero, Nat.sub_zero, hl, List.take_length]
      rw [hd] at h
      exact fin_flat g (.tup hq ha) h
  · split at e
    · rename_i hl
      cases e
      cases ht.dp
      exact ⟨_, sl_str, _, rfl, line_ok hl, fin_flat g (.str _) h⟩
    · cases e
  · split at e
    · rename_i hl
      cases q : els t with
      | none => rw [q] at e; cases e
      | some ds =>
        rw [q] at e; cases e
        obtain ⟨a, vs, rfl, hq, ha⟩ := els_list g ht st hl q
        exact ⟨_, sl_list, a, vs, rfl, hq, fin_lst g (DpAll.cut lo hi ha) h⟩
    · cases e
theorem s_sl {ea : Expr} {elo ehi : Option Expr} {a lo hi : E} {p2 pos : Pos} (ha : PE X ea (tO X.K τ W (ev Φ a) (spure a))) (hl : PartOk X τ W Φ elo lo) (hh : PartOk X τ W Φ ehi hi) :
    PE X (.Subscript ea (.Slice elo ehi none p2) pos) (tO X.K τ W (ev Φ (.sl a lo hi)) (spure (.sl a lo hi))) := by
  obtain ⟨tl, pl, sl⟩ := hl
  obtain ⟨th, ph, sh⟩ := hh
  refine (pe_slice (r := slAny X) sl_any ha pl ph).imp fun σ H Q h => ?_
  obtain ⟨F, Γ, G, C, g, r0, h⟩ := h
  refine ⟨F, Γ, G, C, g, r0, ?_⟩
  unfold ev at h
  cases hA : ev Φ a Γ with
  | no => simp only [hA, Out.bind_no] at h
  | ex c Γ1 => simp only [hA, Out.bind_ex] at h ⊢; exact h
  | ok x Γ1 =>
    simp only [hA, Out.bind_ok] at h ⊢
    intro v1 H1 G1 C1 Co1 e1 g1 r1 o1 sp1
    cases hK : keepIf (spure lo && spure hi) x Γ1 with
    | no => simp only [hK, Out.bind_no] at h
    | ex c Γ2 => exact (keep_not_ex hK).elim
    | ok x' Γ2 =>
      simp only [hK, Out.bind_ok] at h
      obtain ⟨G2, C2, Co2, e2, g2, r2, o2, k2, sp2⟩ := keep_step o1 g1 r1 hK
      refine sl σ H1 _ (Co2 ++ F) Γ2 G2 C2 (g2.re (fun a => by simp <;> omega) (fun c hc => by simp at hc ⊢; grind)) r2 ?_
      cases hB : ev Φ lo Γ2 with
      | no => simp only [hB, Out.bind_no] at h
      | ex c Γ3 =>
        simp only [hB, Out.bind_ex] at h ⊢
        intro H3 G3 C3 e3 g3 r3
        exact h H3 G3 C3 (e1.trans (e2.trans e3)) (g3.re (fun a => by simp <;> omega) (fun c hc => by simp at hc ⊢; grind)) r3
      | ok l Γ3 =>
        simp only [hB, Out.bind_ok] at h ⊢
        cases pl' : part lo l with
        | none => simp only [pl', lift_none, Out.bind_no] at h
        | some p1 =>
          simp only [pl', lift_some, Out.bind_ok] at h
          refine ⟨p1, rfl, fun H3 G3 C3 e3 g3 r3 sp3 => ?_⟩
          refine sh σ H3 _ (Co2 ++ F) Γ3 G3 C3 g3 r3 ?_
          cases hD : ev Φ hi Γ3 with
          | no => simp only [hD, Out.bind_no] at h
          | ex c Γ4 =>
            simp only [hD, Out.bind_ex] at h ⊢
            intro H4 G4 C4 e4 g4 r4
            exact h H4 G4 C4 (e1.trans (e2.trans (e3.trans e4))) (g4.re (fun a => by simp <;> omega) (fun c hc => by simp at hc ⊢; grind)) r4
          | ok u Γ4 =>
            simp only [hD, Out.bind_ok] at h ⊢
            cases pu' : part hi u with
            | none => simp only [pu', lift_none, Out.bind_no] at h
            | some p2 =>
              simp only [pu', lift_some, Out.bind_ok] at h
              refine ⟨p2, rfl, fun H4 G4 C4 e4 g4 r4 sp4 => ?_⟩
              have o4 := (o2.wait (Γ' := Γ4) (C' := C4) (e3.trans e4) k2 (fun z => by
                rw [Bool.and_eq_true] at z
                obtain ⟨a1, a2⟩ := sp3 z.1
                obtain ⟨a3, a4⟩ := sp4 z.2
                exact ⟨a3.trans a1, a4.trans a2⟩))
              cases hz : tr1 (slT p1 p2) Γ4 x' with
              | none => simp only [hz, Option.map_none, lift_none] at h
              | some z =>
                simp only [hz, Option.map_some, lift_some] at h
                obtain ⟨tx, hx, hz⟩ := tr1_some hz
                have g5 : Good G4 (Co2 ++ (C4 ++ F)) H4 := g4.re (fun a => by simp <;> omega) (fun c hc => by simp at hc ⊢; grind)
                obtain ⟨Cx, t1, s1⟩ := o4.tree g5 r4 hx
                refine op1_sl p1 p2 G4 (Co2 ++ (C4 ++ F)) H4 v1 tx z Cx Q g5 t1 s1 hz fun w H6 G6 Cz e6 g6 t6 => ?_
                refine h w H6 G6 C4 Cz (e1.trans (e2.trans (e3.trans (e4.trans e6)))) (g6.re (fun a => by simp <;> omega) (fun c hc => by simp at hc ⊢; grind)) (r4.mono e6) t6 fun z => ?_
                simp only [spure, Bool.and_eq_true] at z
                obtain ⟨⟨z1, z2⟩, z3⟩ := z
                obtain ⟨a1, a2⟩ := sp1 z1
                obtain ⟨a3, a4⟩ := sp2 (by rw [z2, z3]; rfl)
                obtain ⟨a5, a6⟩ := sp3 z2
                obtain ⟨a7, a8⟩ := sp4 z3
                exact ⟨a7.trans (a5.trans (a3.trans a1)), a8.trans (a6.trans (a4.trans a2))⟩
end
end Z

set_option Elab.async false
set_option linter.all false
set_option maxRecDepth 100000
namespace Z
open PySem PySem.Spec PyProof.Rows L2

section
variable {X : Cx} {τ : Tb} {W : WX} {K : PySem.W.Frag} {Φ : Nat → List T → FOut}
theorem truth_ok {G H : Hp} {C C' : List Cell} {v : V} {t : T} {k : Bool} (g : Good G C' H) (h : RelT K τ.κ G v t C) (hs : ∀ c ∈ C, c ∈ C') (e : truthT t = some k) : TruV K v H k := by
  unfold truthT at e
  split at e
  · rename_i d hz
    have hd := h.read g hs hz
    unfold truthD at e
    split at e
    · cases e; cases hd; rfl
    · cases e; cases hd; rfl
    · cases e; cases hd; rfl
    · split at e
      · rename_i hl
        cases e; cases hd
        refine ⟨line_ok hl, ?_⟩
        rename_i x
        show (x.length != 0) = ((x.length : Int) != 0)
        cases x.length <;> rfl
      · cases e
    · cases e
      cases hd with
      | @lst a vs _ hq ha =>
        refine .inl ⟨vs, hq, ?_⟩
        cases ha <;> rfl
    · cases e
      cases hd with
      | @tup a vs _ hq ha =>
        refine .inr (.inl ⟨vs, hq, ?_⟩)
        cases ha <;> rfl
    · cases e
  · cases e
/-- a value as a test -/
theorem t_val {e : Expr} {i : E} (he : PE X e (tO X.K τ W (ev Φ i) (spure i))) (hp : ∀ whole, isTrue e X.env whole = (do let v ← whole; standAt e.pos; holding [v] (truthy v))) : PT X e (tB X.K τ W (evB Φ false (.val i)) (spureB (.val i))) := by
  refine (pt_truth he hp).imp fun σ H Q h => ?_
  obtain ⟨F, Γ, G, C, g, r0, h⟩ := h
  refine ⟨F, Γ, G, C, g, r0, ?_⟩
  unfold evB at h
  cases hA : ev Φ i Γ with
  | no => simp only [hA, Out.bind_no] at h
  | ex c Γ1 => simp only [hA, Out.bind_ex] at h ⊢; exact h
  | ok x Γ1 =>
    simp only [hA, Out.bind_ok] at h ⊢
    intro v1 H1 G1 C1 Co1 e1 g1 r1 o1 sp1
    simp only [Bool.false_eq_true, if_false] at h
    cases hz : tr1 truthT Γ1 x with
    | none => simp only [hz, lift_none] at h
    | some k =>
      simp only [hz, lift_some] at h
      obtain ⟨tx, hx, hz⟩ := tr1_some hz
      obtain ⟨Cx, t1, s1⟩ := o1.tree g1 r1 hx
      exact ⟨k, truth_ok g1 t1 s1 hz, h H1 G1 C1 e1 (g1.re (fun a => by simp) (fun c hc => by simp at hc ⊢; grind)) r1 sp1⟩
theorem evB_not {st : Bool} {b : B} {Γ : Env} (h : ∀ e, b ≠ .val e) : evB Φ st (.not b) Γ = (evB Φ st b Γ).bind fun k Γ => .ok (!k) Γ := by
  cases b with
  | val e => exact absurd rfl (h e)
  | tt => rfl
  | not _ => rfl
  | and _ _ => rfl
  | or _ _ => rfl
  | cmp _ _ _ => rfl
  | chn _ _ _ _ _ => rfl
theorem evB_notF {b : B} {Γ : Env} : evB Φ false (.not b) Γ = (evB Φ false b Γ).bind fun k Γ => .ok (!k) Γ := by
  cases b with
  | val e =>
    show (ev Φ e Γ).bind _ = ((ev Φ e Γ).bind _).bind _
    cases ev Φ e Γ <;> rfl
  | tt => rfl
  | not _ => rfl
  | and _ _ => rfl
  | or _ _ => rfl
  | cmp _ _ _ => rfl
  | chn _ _ _ _ _ => rfl
theorem t_not {e : Expr} {b : B} {pos : Pos} (he : PT X e (tB X.K τ W (evB Φ false b) (spureB b))) : PT X (.UnaryOp .Not e pos) (tB X.K τ W (evB Φ false (.not b)) (spureB (.not b))) := by
  refine (pt_not he).imp fun σ H Q h => ?_
  obtain ⟨F, Γ, G, C, g, r0, h⟩ := h
  refine ⟨F, Γ, G, C, g, r0, ?_⟩
  rw [evB_notF] at h
  cases hA : evB Φ false b Γ with
  | no => simp only [hA, Out.bind_no] at h
  | ex c Γ1 => simp only [hA, Out.bind_ex] at h ⊢; exact h
  | ok k Γ1 => simp only [hA, Out.bind_ok] at h ⊢; exact h
theorem w_one {e : Expr} {b : B} {op : BoolOp} {pos : Pos} (he : PT X e (tB X.K τ W (evB Φ false b) (spureB b))) : PW X (.BoolOp op [e] pos) (tB X.K τ W (evB Φ false b) (spureB b)) := by
  cases op with
  | And => exact pw_and1 he
  | Or => exact pw_or1 he
theorem w_and {e e2 : Expr} {es : List Expr} {a b : B} {pos : Pos} (he : PT X e (tB X.K τ W (evB Φ false a) (spureB a))) (hb : PW X (.BoolOp .And (e2 :: es) pos) (tB X.K τ W (evB Φ false b) (spureB b))) :
    PW X (.BoolOp .And (e :: e2 :: es) pos) (tB X.K τ W (evB Φ false (.and a b)) (spureB (.and a b))) := by
  refine (pw_and he hb).imp fun σ H Q h => ?_
  obtain ⟨F, Γ, G, C, g, r0, h⟩ := h
  refine ⟨F, Γ, G, C, g, r0, ?_⟩
  unfold evB at h
  cases hA : evB Φ false a Γ with
  | no => simp only [hA, Out.bind_no] at h
  | ex c Γ1 => simp only [hA, Out.bind_ex] at h ⊢; exact h
  | ok k Γ1 =>
    simp only [hA, Out.bind_ok] at h ⊢
    intro H1 G1 C1 e1 g1 r1 sp1
    cases k with
    | true =>
      show tB X.K τ W (evB Φ false b) (spureB b) σ H1 Q
      refine ⟨F, Γ1, G1, C1, g1, r1, ?_⟩
      simp only [if_true] at h
      cases hB : evB Φ false b Γ1 with
      | no => simp only [hB] at h
      | ex c Γ2 => simp only [hB] at h ⊢; exact fun H2 G2 C2 e2 g2 r2 => h H2 G2 C2 (e1.trans e2) g2 r2
      | ok k2 Γ2 =>
        simp only [hB] at h ⊢
        intro H2 G2 C2 e2 g2 r2 sp2
        refine h H2 G2 C2 (e1.trans e2) g2 r2 fun z => ?_
        simp only [spureB, Bool.and_eq_true] at z
        obtain ⟨a1, a2⟩ := sp1 z.1
        obtain ⟨a3, a4⟩ := sp2 z.2
        exact ⟨a3.trans a1, a4.trans a2⟩
    | false =>
      show Q false H1
      simp only [Bool.false_eq_true, if_false] at h
      refine h H1 G1 C1 e1 g1 r1 fun z => ?_
      simp only [spureB, Bool.and_eq_true] at z
      exact sp1 z.1
theorem w_or {e e2 : Expr} {es : List Expr} {a b : B} {pos : Pos} (he : PT X e (tB X.K τ W (evB Φ false a) (spureB a))) (hb : PW X (.BoolOp .Or (e2 :: es) pos) (tB X.K τ W (evB Φ false b) (spureB b))) :
    PW X (.BoolOp .Or (e :: e2 :: es) pos) (tB X.K τ W (evB Φ false (.or a b)) (spureB (.or a b))) := by
  refine (pw_or he hb).imp fun σ H Q h => ?_
  obtain ⟨F, Γ, G, C, g, r0, h⟩ := h
  refine ⟨F, Γ, G, C, g, r0, ?_⟩
  unfold evB at h
  cases hA : evB Φ false a Γ with
  | no => simp only [hA, Out.bind_no] at h
  | ex c Γ1 => simp only [hA, Out.bind_ex] at h ⊢; exact h
  | ok k Γ1 =>
    simp only [hA, Out.bind_ok] at h ⊢
    intro H1 G1 C1 e1 g1 r1 sp1
    cases k with
    | false =>
      show tB X.K τ W (evB Φ false b) (spureB b) σ H1 Q
      refine ⟨F, Γ1, G1, C1, g1, r1, ?_⟩
      simp only [Bool.false_eq_true, if_false] at h
      cases hB : evB Φ false b Γ1 with
      | no => simp only [hB] at h
      | ex c Γ2 => simp only [hB] at h ⊢; exact fun H2 G2 C2 e2 g2 r2 => h H2 G2 C2 (e1.trans e2) g2 r2
      | ok k2 Γ2 =>
        simp only [hB] at h ⊢
        intro H2 G2 C2 e2 g2 r2 sp2
        refine h H2 G2 C2 (e1.trans e2) g2 r2 fun z => ?_
        simp only [spureB, Bool.and_eq_true] at z
        obtain ⟨a1, a2⟩ := sp1 z.1
        obtain ⟨a3, a4⟩ := sp2 z.2
        exact ⟨a3.trans a1, a4.trans a2⟩
    | true =>
      show Q true H1
      simp only [if_true] at h
      refine h H1 G1 C1 e1 g1 r1 fun z => ?_
      simp only [spureB, Bool.and_eq_true] at z
      exact sp1 z.1
/-- what a comparison of two operands gives -/
theorem cmp_two (hu : X.A.units + 65 < cLine) {op : CmpOp} {a b : E} {σ : L2.St} {H : Hp} {Q : Bool → Hp → Prop} {st : Bool} (h : tB X.K τ W (evB Φ st (.cmp (copOf op) a b)) (spureB (.cmp (copOf op) a b)) σ H Q) :
    tOp (rAny X (compareOp op)) (tO X.K τ W (ev Φ a) (spure a)) (tO X.K τ W (ev Φ b) (spure b)) σ H fun z H' => ∃ k, z = .bl k ∧ Q k H' := by
  obtain ⟨F, Γ, G, C, g, r0, h⟩ := h
  refine two_opd (K := X.K) (R := fun v w H Q' => rAny X (compareOp op) v w H Q') (Q := fun z H' => ∃ k, z = .bl k ∧ Q k H') (fin := tr2 (cmpT (copOf op))) (P := fun Γ' k G' C' => ∀ H' G'', Same G' G'' → Good G'' (C' ++ F) H' → RelG X.K τ.κ G'' σ Γ' C' → Q k H')
    (Pe := fun c Γ' => ∀ H' G' C', Same G G' → Good G' (C' ++ F) H' → RelG X.K τ.κ G' σ Γ' C' → W (.ref (τ.ea c)) none σ H') g r0 (fun c Γ' h => h) ?_ ?_
  · unfold evB at h
    split
    · rename_i o Γ' e
      simp only [e] at h
      exact fun G' C' s1 s2 H' G'' s3 g3 r3 => h H' G'' C' (s1.trans s3) g3 r3 s2
    · rename_i c Γ' e
      simp only [e] at h
      exact h
    · rename_i e
      simp only [e] at h
  · intro G' Γ' C' Cx Cy H' v w x y k s1 g1 r1 o1 o2 e1 hP
    obtain ⟨tx, ty, hx, hy, hz⟩ := tr2_some e1
    have g2 : Good G' (Cx ++ (C' ++ (Cy ++ F))) H' := g1.re (fun a => by simp <;> omega) (fun c hc => by simp at hc ⊢; grind)
    have g3 : Good G' (Cy ++ (C' ++ (Cx ++ F))) H' := g1.re (fun a => by simp <;> omega) (fun c hc => by simp at hc ⊢; grind)
    obtain ⟨C1, t1, q1⟩ := o1.tree g2 r1 hx
    obtain ⟨C2, t2, q2⟩ := o2.tree g3 r1 hy
    exact cmp_any hu g2 t1 q1 t2 (fun c hc => by have := q2 c hc; simp at this ⊢; grind) hz _ ⟨k, rfl, hP H' G' (L2.Same.refl G') (g1.re (fun a => by simp <;> omega) (fun c hc => by simp at hc ⊢; grind)) r1⟩
theorem t_cmp (hu : X.A.units + 65 < cLine) {op : CmpOp} {ea eb : Expr} {a b : E} {pos : Pos} (hm : behindInMarks op eb = false) (ha : PE X ea (tO X.K τ W (ev Φ a) (spure a))) (hb : PE X eb (tO X.K τ W (ev Φ b) (spure b))) :
    PT X (.Compare ea [op] [eb] pos) (tB X.K τ W (evB Φ false (.cmp (copOf op) a b)) (spureB (.cmp (copOf op) a b))) :=
  (pt_cmpR op_any ha hb hm).imp fun _ _ _ h => cmp_two hu h
/-- a chain of two comparisons -/
theorem cmp_three (hu : X.A.units + 65 < cLine) {op op' : CmpOp} {a b c : E} {σ : L2.St} {H : Hp} {Q : Bool → Hp → Prop} {st : Bool} (h : tB X.K τ W (evB Φ st (.chn (copOf op) (copOf op') a b c)) (spureB (.chn (copOf op) (copOf op') a b c)) σ H Q) :
    tChain (rAny X (compareOp op)) (rAny X (compareOp op')) (tO X.K τ W (ev Φ a) (spure a)) (tO X.K τ W (ev Φ b) (spure b)) (tO X.K τ W (ev Φ c) (spure c)) σ H fun z H' => ∃ k, z = .bl k ∧ Q k H' := by
  obtain ⟨F, Γ, G, C, g, r0, h⟩ := h
  show tO X.K τ W (ev Φ a) (spure a) σ H fun x H1 => tO X.K τ W (ev Φ b) (spure b) σ H1 fun y H2 => _
  unfold evB at h
  refine ⟨F, Γ, G, C, g, r0, ?_⟩
  cases hA : ev Φ a Γ with
  | no => simp only [hA, Out.bind_no] at h
  | ex c Γ1 => simp only [hA, Out.bind_ex] at h ⊢; exact h
  | ok x Γ1 =>
    simp only [hA, Out.bind_ok] at h ⊢
    intro v1 H1 G1 C1 Co1 e1 g1 r1 o1 sp1
    cases hK : keepIf (spure b) x Γ1 with
    | no => simp only [hK, Out.bind_no] at h
    | ex c Γ2 => exact (keep_not_ex hK).elim
    | ok x' Γ2 =>
      simp only [hK, Out.bind_ok] at h
      obtain ⟨G2, C2, Co2, e2, g2, r2, o2, k2, sp2⟩ := keep_step o1 g1 r1 hK
      refine ⟨Co2 ++ F, Γ2, G2, C2, g2.re (fun a => by simp <;> omega) (fun c hc => by simp at hc ⊢; grind), r2, ?_⟩
      cases hB : ev Φ b Γ2 with
      | no => simp only [hB, Out.bind_no] at h
      | ex c Γ3 =>
        simp only [hB, Out.bind_ex] at h ⊢
        intro H3 G3 C3 e3 g3 r3
        exact h H3 G3 C3 (e1.trans (e2.trans e3)) (g3.re (fun a => by simp <;> omega) (fun c hc => by simp at hc ⊢; grind)) r3
      | ok y Γ3 =>
        simp only [hB, Out.bind_ok] at h ⊢
        intro w3 H3 G3 C3 Co3 e3 g3 r3 o3 sp3
        have o2' := o2.wait e3 k2 sp3
        cases hz : tr2 (cmpT (copOf op)) Γ3 x' y with
        | none => simp only [hz, lift_none, Out.bind_no] at h
        | some k =>
          simp only [hz, lift_some, Out.bind_ok] at h
          obtain ⟨tx, ty, hx, hy, hz⟩ := tr2_some hz
          have g4 : Good G3 (Co2 ++ (C3 ++ (Co3 ++ F))) H3 := g3.re (fun a => by simp <;> omega) (fun c hc => by simp at hc ⊢; grind)
          have g5 : Good G3 (Co3 ++ (C3 ++ F)) H3 := g3.re (fun a => by simp <;> omega) (fun c hc => by simp at hc ⊢; grind)
          obtain ⟨Cx, t1, q1⟩ := o2'.tree g4 r3 hx
          obtain ⟨Cy, t2, q2⟩ := o3.tree g5 r3 hy
          refine cmp_any hu g4 t1 q1 t2 (fun c hc => by have := q2 c hc; simp at this ⊢; grind) hz _ ⟨k, rfl, ?_⟩
          have hs3 : (spure a = true ∧ spure b = true) → Γ3 = Γ ∧ C3 = C := fun z => by
            obtain ⟨q1, q2⟩ := sp1 z.1
            obtain ⟨q3, q4⟩ := sp2 z.2
            obtain ⟨q5, q6⟩ := sp3 z.2
            exact ⟨q5.trans (q3.trans q1), q6.trans (q4.trans q2)⟩
          cases k with
          | false =>
            show ∃ k, V.bl false = .bl k ∧ Q k H3
            simp only [Bool.false_eq_true, if_false] at h
            refine ⟨false, rfl, h H3 G3 C3 (e1.trans (e2.trans e3)) (g3.re (fun a => by simp <;> omega) (fun c hc => by simp at hc ⊢; grind)) r3 fun z => ?_⟩
            simp only [spureB, Bool.and_eq_true] at z
            exact hs3 z.1
          | true =>
            show tO X.K τ W (ev Φ c) (spure c) σ H3 _
            simp only [if_true] at h
            cases hL : keepIf (spure c) y Γ3 with
            | no => simp only [hL, Out.bind_no] at h
            | ex c Γ4 => exact (keep_not_ex hL).elim
            | ok y' Γ4 =>
              simp only [hL, Out.bind_ok] at h
              obtain ⟨G4, C4, Co4, e4, g6, r4, o4, k4, sp4⟩ := keep_step o3 g5 r3 hL
              refine ⟨Co4 ++ F, Γ4, G4, C4, g6.re (fun a => by simp <;> omega) (fun c hc => by simp at hc ⊢; grind), r4, ?_⟩
              cases hC : ev Φ c Γ4 with
              | no => simp only [hC, Out.bind_no] at h
              | ex c Γ5 =>
                simp only [hC, Out.bind_ex] at h ⊢
                intro H5 G5 C5 e5 g7 r5
                exact h H5 G5 C5 (e1.trans (e2.trans (e3.trans (e4.trans e5)))) (g7.re (fun a => by simp <;> omega) (fun c hc => by simp at hc ⊢; grind)) r5
              | ok z Γ5 =>
                simp only [hC, Out.bind_ok] at h ⊢
                intro w5 H5 G5 C5 Co5 e5 g7 r5 o5 sp5
                have o4' := o4.wait e5 k4 sp5
                cases hw : tr2 (cmpT (copOf op')) Γ5 y' z with
                | none => simp only [hw, lift_none] at h
                | some k' =>
                  simp only [hw, lift_some] at h
                  obtain ⟨ty', tz, hy', hz', hw⟩ := tr2_some hw
                  have g8 : Good G5 (Co4 ++ (C5 ++ (Co5 ++ F))) H5 := g7.re (fun a => by simp <;> omega) (fun c hc => by simp at hc ⊢; grind)
                  have g9 : Good G5 (Co5 ++ (C5 ++ F)) H5 := g7.re (fun a => by simp <;> omega) (fun c hc => by simp at hc ⊢; grind)
                  obtain ⟨Cy', t3, q3⟩ := o4'.tree g8 r5 hy'
                  obtain ⟨Cz, t4, q4⟩ := o5.tree g9 r5 hz'
                  refine cmp_any hu g8 t3 q3 t4 (fun c hc => by have := q4 c hc; simp at this ⊢; grind) hw _ ⟨k', rfl, h H5 G5 C5 (e1.trans (e2.trans (e3.trans (e4.trans e5)))) (g7.re (fun a => by simp <;> omega) (fun c hc => by simp at hc ⊢; grind)) r5 fun z => ?_⟩
                  simp only [spureB, Bool.and_eq_true] at z
                  obtain ⟨a1, a2⟩ := hs3 z.1
                  obtain ⟨a3, a4⟩ := sp4 z.2
                  obtain ⟨a5, a6⟩ := sp5 z.2
                  exact ⟨a5.trans (a3.trans a1), a6.trans (a4.trans a2)⟩
theorem t_chn (hu : X.A.units + 65 < cLine) {op op' : CmpOp} {ea eb ec : Expr} {a b c : E} {pos : Pos} (hm : lastMarks [op, op'] [eb, ec] = false) (ha : PE X ea (tO X.K τ W (ev Φ a) (spure a))) (hb : PE X eb (tO X.K τ W (ev Φ b) (spure b))) (hc : PE X ec (tO X.K τ W (ev Φ c) (spure c))) :
    PT X (.Compare ea [op, op'] [eb, ec] pos) (tB X.K τ W (evB Φ false (.chn (copOf op) (copOf op') a b c)) (spureB (.chn (copOf op) (copOf op') a b c))) :=
  (pt_chain op_any op_any ha hb hc hm).imp fun _ _ _ h => cmp_three hu h
/-! ### as values -/
def bV (m : Out Bool) : Out O := m.bind fun k Γ => .ok (.t (.sh (.bool k))) Γ
theorem v_of_tB {σ : L2.St} {H : Hp} {Q : VK} {b : B} (h : tO X.K τ W (fun Γ => bV (evB Φ true b Γ)) (spureB b) σ H Q) : tB X.K τ W (evB Φ true b) (spureB b) σ H fun k H' => Q (.bl k) H' := by
  obtain ⟨F, Γ, G, C, g, r0, h⟩ := h
  refine ⟨F, Γ, G, C, g, r0, ?_⟩
  unfold bV at h
  cases hA : evB Φ true b Γ with
  | no => simp only [hA, Out.bind_no] at h
  | ex c Γ1 => simp only [hA, Out.bind_ex] at h ⊢; exact h
  | ok k Γ1 =>
    simp only [hA, Out.bind_ok] at h ⊢
    exact fun H1 G1 C1 e1 g1 r1 sp => h (.bl k) H1 G1 C1 [] e1 g1 r1 (.sh (.bl k)) sp
theorem v_cmp (hu : X.A.units + 65 < cLine) {op : CmpOp} {ea eb : Expr} {a b : E} {pos : Pos} (hm : behindInMarks op eb = false) (ha : PE X ea (tO X.K τ W (ev Φ a) (spure a))) (hb : PE X eb (tO X.K τ W (ev Φ b) (spure b))) :
    PE X (.Compare ea [op] [eb] pos) (tO X.K τ W (fun Γ => bV (evB Φ true (.cmp (copOf op) a b) Γ)) (spureB (.cmp (copOf op) a b))) := by
  refine ⟨fun pins s σ H Q I h => ?_⟩
  refine wpAny_mono ((pe_cmpR op_any ha hb hm).run pins s σ H _ I (cmp_two hu (v_of_tB h))) (fun u s' hq => ?_) fun _ _ x => x
  obtain ⟨v, H', I', r, k, e, q⟩ := hq
  subst e
  exact ⟨.bl k, H', I', r, q⟩
theorem v_chn (hu : X.A.units + 65 < cLine) {op op' : CmpOp} {ea eb ec : Expr} {a b c : E} {pos : Pos} (hm : lastMarks [op, op'] [eb, ec] = false) (ha : PE X ea (tO X.K τ W (ev Φ a) (spure a))) (hb : PE X eb (tO X.K τ W (ev Φ b) (spure b))) (hc : PE X ec (tO X.K τ W (ev Φ c) (spure c))) :
    PE X (.Compare ea [op, op'] [eb, ec] pos) (tO X.K τ W (fun Γ => bV (evB Φ true (.chn (copOf op) (copOf op') a b c) Γ)) (spureB (.chn (copOf op) (copOf op') a b c))) := by
  refine ⟨fun pins s σ H Q I h => ?_⟩
  refine wpAny_mono ((pe_chain op_any op_any ha hb hc hm).run pins s σ H _ I (cmp_three hu (v_of_tB h))) (fun u s' hq => ?_) fun _ _ x => x
  obtain ⟨v, H', I', r, k, e, q⟩ := hq
  subst e
  exact ⟨.bl k, H', I', r, q⟩
theorem v_val {e : Expr} {i : E} (he : PE X e (tO X.K τ W (ev Φ i) (spure i))) : PE X e (tO X.K τ W (fun Γ => bV (evB Φ true (.val i) Γ)) (spureB (.val i))) := by
  refine he.imp fun σ H Q h => ?_
  obtain ⟨F, Γ, G, C, g, r0, h⟩ := h
  refine ⟨F, Γ, G, C, g, r0, ?_⟩
  unfold bV evB at h
  cases hA : ev Φ i Γ with
  | no => simp only [hA, Out.bind_no] at h
  | ex c Γ1 => simp only [hA, Out.bind_ex] at h ⊢; exact h
  | ok x Γ1 =>
    simp only [hA, Out.bind_ok] at h ⊢
    intro v1 H1 G1 C1 Co1 e1 g1 r1 o1 sp1
    simp only [if_true] at h
    cases hz : tr1 strictT Γ1 x with
    | none => simp only [hz, lift_none, Out.bind_no] at h
    | some k =>
      simp only [hz, lift_some, Out.bind_ok] at h
      obtain ⟨tx, hx, hz⟩ := tr1_some hz
      obtain ⟨Cx, t1, s1⟩ := o1.tree g1 r1 hx
      unfold strictT at hz
      split at hz
      · cases hz
        have hd := t1.dp
        exact h v1 H1 G1 C1 [] e1 (g1.re (fun a => by simp) (fun c hc => by simp at hc ⊢; grind)) r1 (.sh hd) sp1
      · cases hz
theorem v_notval {e : Expr} {i : E} {pos : Pos} (he : PE X e (tO X.K τ W (ev Φ i) (spure i))) : PE X (.UnaryOp .Not e pos) (tO X.K τ W (fun Γ => bV (evB Φ true (.not (.val i)) Γ)) (spureB (.not (.val i)))) := by
  refine (pe_notT he).imp fun σ H Q h => ?_
  obtain ⟨F, Γ, G, C, g, r0, h⟩ := h
  refine ⟨F, Γ, G, C, g, r0, ?_⟩
  unfold bV evB at h
  cases hA : ev Φ i Γ with
  | no => simp only [hA, Out.bind_no] at h
  | ex c Γ1 => simp only [hA, Out.bind_ex] at h ⊢; exact h
  | ok x Γ1 =>
    simp only [hA, Out.bind_ok] at h ⊢
    intro v1 H1 G1 C1 Co1 e1 g1 r1 o1 sp1
    cases hz : tr1 truthT Γ1 x with
    | none => simp only [hz, lift_none, Out.bind_no] at h
    | some k =>
      simp only [hz, lift_some, Out.bind_ok] at h
      obtain ⟨tx, hx, hz⟩ := tr1_some hz
      obtain ⟨Cx, t1, s1⟩ := o1.tree g1 r1 hx
      exact ⟨k, truth_ok g1 t1 s1 hz, h (.bl !k) H1 G1 C1 [] e1 (g1.re (fun a => by simp) (fun c hc => by simp at hc ⊢; grind)) r1 (.sh (.bl _)) sp1⟩
theorem v_not {e : Expr} {b : B} {pos : Pos} (hb : ∀ e, b ≠ .val e) (he : PE X e (tO X.K τ W (fun Γ => bV (evB Φ true b Γ)) (spureB b))) : PE X (.UnaryOp .Not e pos) (tO X.K τ W (fun Γ => bV (evB Φ true (.not b) Γ)) (spureB (.not b))) := by
  refine (pe_not he).imp fun σ H Q h => ?_
  obtain ⟨F, Γ, G, C, g, r0, h⟩ := h
  refine ⟨F, Γ, G, C, g, r0, ?_⟩
  unfold bV at h ⊢
  simp only [evB_not hb] at h
  cases hA : evB Φ true b Γ with
  | no => simp only [hA, Out.bind_no] at h
  | ex c Γ1 => simp only [hA, Out.bind_ex] at h ⊢; exact h
  | ok k Γ1 =>
    simp only [hA, Out.bind_ok] at h ⊢
    intro v1 H1 G1 C1 Co1 e1 g1 r1 o1 sp1
    have hd := (show RelT X.K τ.κ G1 v1 (.sh (.bool k)) Co1 from o1).dp
    cases hd
    exact ⟨k, rfl, h (.bl !k) H1 G1 C1 [] e1 (g1.re (fun a => by simp) (fun c hc => by simp at hc ⊢; grind)) r1 (.sh (.bl _)) sp1⟩
theorem v_one {e : Expr} {b : B} {op : BoolOp} {pos : Pos} (he : PE X e (tO X.K τ W (fun Γ => bV (evB Φ true b Γ)) (spureB b))) : PE X (.BoolOp op [e] pos) (tO X.K τ W (fun Γ => bV (evB Φ true b Γ)) (spureB b)) := pe_one he
theorem v_and {e e2 : Expr} {es : List Expr} {a b : B} {pos : Pos} (he : PE X e (tO X.K τ W (fun Γ => bV (evB Φ true a Γ)) (spureB a))) (hb : PE X (.BoolOp .And (e2 :: es) pos) (tO X.K τ W (fun Γ => bV (evB Φ true b Γ)) (spureB b))) :
    PE X (.BoolOp .And (e :: e2 :: es) pos) (tO X.K τ W (fun Γ => bV (evB Φ true (.and a b) Γ)) (spureB (.and a b))) := by
  refine (pe_and he hb).imp fun σ H Q h => ?_
  obtain ⟨F, Γ, G, C, g, r0, h⟩ := h
  refine ⟨F, Γ, G, C, g, r0, ?_⟩
  unfold bV evB at h
  unfold bV
  cases hA : evB Φ true a Γ with
  | no => simp only [hA, Out.bind_no] at h
  | ex c Γ1 => simp only [hA, Out.bind_ex] at h ⊢; exact h
  | ok k Γ1 =>
    simp only [hA, Out.bind_ok] at h ⊢
    intro v1 H1 G1 C1 Co1 e1 g1 r1 o1 sp1
    have hd := (show RelT X.K τ.κ G1 v1 (.sh (.bool k)) Co1 from o1).dp
    cases hd
    refine ⟨k, rfl, ?_⟩
    have g1' : Good G1 (C1 ++ F) H1 := g1.re (fun a => by simp) (fun c hc => by simp at hc ⊢; grind)
    cases k with
    | true =>
      show tO X.K τ W (fun Γ => bV (evB Φ true b Γ)) (spureB b) σ H1 Q
      refine ⟨F, Γ1, G1, C1, g1', r1, ?_⟩
      simp only [if_true] at h
      unfold bV
      cases hB : evB Φ true b Γ1 with
      | no => simp only [hB, Out.bind_no] at h
      | ex c Γ2 => simp only [hB, Out.bind_ex] at h ⊢; exact fun H2 G2 C2 e2 g2 r2 => h H2 G2 C2 (e1.trans e2) g2 r2
      | ok k2 Γ2 =>
        simp only [hB, Out.bind_ok] at h ⊢
        intro v2 H2 G2 C2 Co2 e2 g2 r2 o2 sp2
        refine h v2 H2 G2 C2 Co2 (e1.trans e2) g2 r2 o2 fun z => ?_
        simp only [spureB, Bool.and_eq_true] at z
        obtain ⟨a1, a2⟩ := sp1 z.1
        obtain ⟨a3, a4⟩ := sp2 z.2
        exact ⟨a3.trans a1, a4.trans a2⟩
    | false =>
      show Q (.bl false) H1
      simp only [Bool.false_eq_true, if_false, Out.bind_ok] at h
      refine h (.bl false) H1 G1 C1 [] e1 g1' r1 (.sh (.bl _)) fun z => ?_
      simp only [spureB, Bool.and_eq_true] at z
      exact sp1 z.1
theorem v_or {e e2 : Expr} {es : List Expr} {a b : B} {pos : Pos} (he : PE X e (tO X.K τ W (fun Γ => bV (evB Φ true a Γ)) (spureB a))) (hb : PE X (.BoolOp .Or (e2 :: es) pos) (tO X.K τ W (fun Γ => bV (evB Φ true b Γ)) (spureB b))) :
    PE X (.BoolOp .Or (e :: e2 :: es) pos) (tO X.K τ W (fun Γ => bV (evB Φ true (.or a b) Γ)) (spureB (.or a b))) := by
  refine (pe_or he hb).imp fun σ H Q h => ?_
  obtain ⟨F, Γ, G, C, g, r0, h⟩ := h
  refine ⟨F, Γ, G, C, g, r0, ?_⟩
  unfold bV evB at h
  unfold bV
  cases hA : evB Φ true a Γ with
  | no => simp only [hA, Out.bind_no] at h
  | ex c Γ1 => simp only [hA, Out.bind_ex] at h ⊢; exact h
  | ok k Γ1 =>
    simp only [hA, Out.bind_ok] at h ⊢
    intro v1 H1 G1 C1 Co1 e1 g1 r1 o1 sp1
    have hd := (show RelT X.K τ.κ G1 v1 (.sh (.bool k)) Co1 from o1).dp
    cases hd
    refine ⟨k, rfl, ?_⟩
    have g1' : Good G1 (C1 ++ F) H1 := g1.re (fun a => by simp) (fun c hc => by simp at hc ⊢; grind)
    cases k with
    | false =>
      show tO X.K τ W (fun Γ => bV (evB Φ true b Γ)) (spureB b) σ H1 Q
      refine ⟨F, Γ1, G1, C1, g1', r1, ?_⟩
      simp only [Bool.false_eq_true, if_false] at h
      unfold bV
      cases hB : evB Φ true b Γ1 with
      | no => simp only [hB, Out.bind_no] at h
      | ex c Γ2 => simp only [hB, Out.bind_ex] at h ⊢; exact fun H2 G2 C2 e2 g2 r2 => h H2 G2 C2 (e1.trans e2) g2 r2
      | ok k2 Γ2 =>
        simp only [hB, Out.bind_ok] at h ⊢
        intro v2 H2 G2 C2 Co2 e2 g2 r2 o2 sp2
        refine h v2 H2 G2 C2 Co2 (e1.trans e2) g2 r2 o2 fun z => ?_
        simp only [spureB, Bool.and_eq_true] at z
        obtain ⟨a1, a2⟩ := sp1 z.1
        obtain ⟨a3, a4⟩ := sp2 z.2
        exact ⟨a3.trans a1, a4.trans a2⟩
    | true =>
      show Q (.bl true) H1
      simp only [if_true, Out.bind_ok] at h
      refine h (.bl true) H1 G1 C1 [] e1 g1' r1 (.sh (.bl _)) fun z => ?_
      simp only [spureB, Bool.and_eq_true] at z
      exact sp1 z.1
theorem s_bool {e : Expr} {b : B} (he : PE X e (tO X.K τ W (fun Γ => bV (evB Φ true b Γ)) (spureB b))) : PE X e (tO X.K τ W (ev Φ (.bool b)) (spure (.bool b))) := he.imp fun _ _ _ h => h
/-! ### a if c else b -/
theorem s_ite {ec ea eb : Expr} {c : B} {a b : E} {pos : Pos} (hc : PT X ec (tB X.K τ W (evB Φ false c) (spureB c))) (ha : PE X ea (tO X.K τ W (ev Φ a) (spure a))) (hb : PE X eb (tO X.K τ W (ev Φ b) (spure b))) :
    PE X (.IfExp ec ea eb pos) (tO X.K τ W (ev Φ (.ite c a b)) false) := by
  refine (pe_ifExp hc ha hb).imp fun σ H Q h => ?_
  obtain ⟨F, Γ, G, C, g, r0, h⟩ := h
  refine ⟨F, Γ, G, C, g, r0, ?_⟩
  unfold ev at h
  cases hA : evB Φ false c Γ with
  | no => simp only [hA, Out.bind_no] at h
  | ex c Γ1 => simp only [hA, Out.bind_ex] at h ⊢; exact h
  | ok k Γ1 =>
    simp only [hA, Out.bind_ok] at h ⊢
    intro H1 G1 C1 e1 g1 r1 sp1
    have one : ∀ (i : E), (match ((ev Φ i Γ1).bind fun o Γ => (esc o Γ).bind fun t Γ => .ok (.t t) Γ : Out O) with
        | .ok o Γ' => ∀ v H' G' C' Co, Same G G' → Good G' (Co ++ (C' ++ F)) H' → RelG X.K τ.κ G' σ Γ' C' → RelO X.K τ.κ G' σ Γ' C' v o Co → (false = true → Γ' = Γ ∧ C' = C) → Q v H'
        | .ex c Γ' => ∀ H' G' C', Same G G' → Good G' (C' ++ F) H' → RelG X.K τ.κ G' σ Γ' C' → W (.ref (τ.ea c)) none σ H'
        | .no => False) → tO X.K τ W (ev Φ i) (spure i) σ H1 Q := by
      intro i h
      refine ⟨F, Γ1, G1, C1, g1, r1, ?_⟩
      cases hB : ev Φ i Γ1 with
      | no => simp only [hB, Out.bind_no] at h
      | ex c Γ2 => simp only [hB, Out.bind_ex] at h ⊢; exact fun H2 G2 C2 e2 g2 r2 => h H2 G2 C2 (e1.trans e2) g2 r2
      | ok o Γ2 =>
        simp only [hB, Out.bind_ok] at h ⊢
        intro v H2 G2 C2 Co e2 g2 r2 o2 sp2
        cases hE : esc o Γ2 with
        | no => simp only [hE, Out.bind_no] at h
        | ex c Γ3 => exact (esc_not_ex hE).elim
        | ok t Γ3 =>
          simp only [hE, Out.bind_ok] at h
          obtain ⟨G3, C3, Ct, e3, g3, r3, t3⟩ := o2.esc g2 r2 hE
          exact h v H2 G3 C3 Ct (e1.trans (e2.trans e3)) g3 r3 t3 (fun z => nomatch z)
    cases k with
    | true =>
      show tO X.K τ W (ev Φ a) (spure a) σ H1 Q
      exact one a h
    | false =>
      show tO X.K τ W (ev Φ b) (spure b) σ H1 Q
      exact one b h
end
end Z

set_option Elab.async false
set_option linter.all false
set_option maxRecDepth 100000
namespace PySem
open Sem (wp)
set_option maxHeartbeats 1000000 in
theorem zx_enumerate_newB {v : Value} {o : Obj} {H : Heap → Prop} (B : Begins v o H) :
    Meets (Builtin.«enumerate.__new__» ⟨[.type "enumerate", v], []⟩) (fun _ R s => H s.heap ∧
      R (.ok (.ret (.ref (s.heap.push o).objs.size))) { s with heap := (s.heap.push o).push { cls := .type "enumerate", data := .fields #[.none, .bool false, .ref s.heap.objs.size, rawInt 0, .none, .none] } }) :=
  .of_wp fun prog w A R s h => by
    obtain ⟨hp, g, d, tk, os⟩ := s; obtain ⟨h1, h⟩ := h
    have hsub := sub_enumerate
    have q1 : ∀ {A' : Around} {E : Value → Shared → Prop} {Q : Value → Shared → Prop}, Q (.ref hp.objs.size) ⟨hp.push o, g, d, tk, os⟩ → wpAny (model prog w) A' (pyIter v) Q E ⟨hp, g, d, tk, os⟩ :=
      fun q => B.iter prog w _ _ ⟨hp, g, d, tk, os⟩ _ h1 q
    wp_walk using q1
    refine wpAny_stack_any fun st => wpAny_pure ?_
    split
    · rename_i c _ _ _ _ _
      cases (c == Value.type "enumerate")
      · wp_walk using q1
        exact ⟨_, rfl, h⟩
      · wp_walk using q1
        exact ⟨_, rfl, h⟩
    · wp_walk using q1
      exact ⟨_, rfl, h⟩
section
variable {prog : Program} {w : World} {A : Around} {E : Value → Shared → Prop} {s : Shared}
theorem zx_enum_begins {v : Value} {o : Obj} {H : Heap → Prop} {Q : Value → Shared → Prop} (B : Begins v o H) (h1 : H s.heap)
    (h : ∀ h', IsEnum h' (s.heap.objs.size + 1) s.heap.objs.size 0 .none → h'.get? s.heap.objs.size = some o → h'.objs.size = s.heap.objs.size + 2 →
      (∀ b o, s.heap.get? b = some o → h'.get? b = some o) → Q (.ref (s.heap.objs.size + 1)) { s with heap := h' }) :
    wpAny (model prog w) A (call (.type "enumerate") [v]) Q E s := by
  refine callType_new F.called_enumerate (by decide) (F.typeCall_enumerate_1 _) (F.newCall_enumerate_1 _) (fun obj => F.args_object_init_2 obj _) F.entry_enumerate_new
    (zx_enumerate_newB B) ⟨h1, ?_⟩
  have hz : (s.heap.push o).objs.size = s.heap.objs.size + 1 := Heap.size_push ..
  show _ ∧ _
  rw [hz]
  have he : IsEnum ((s.heap.push o).push { cls := .type "enumerate", data := .fields #[.none, .bool false, .ref s.heap.objs.size, rawInt 0, .none, .none] }) (s.heap.objs.size + 1) s.heap.objs.size 0 .none := by
    have := Heap.get?_push_size (s.heap.push o) (o := { cls := .type "enumerate", data := .fields #[.none, .bool false, .ref s.heap.objs.size, rawInt 0, .none, .none] }) rfl
    rw [hz] at this; exact this
  refine ⟨⟨_, he, rfl⟩, h _ he (Heap.get?_push_of_some _ (Heap.get?_push_size _ B.free)) (by rw [Heap.size_push, hz]) fun b o x => Heap.get?_push_of_some _ (Heap.get?_push_of_some _ x)⟩
end
end PySem
namespace Z
open PySem PySem.Spec PyProof.Rows L2

/-! ### sequences of two kinds: lists (true), tuples (false) -/
def SqK (l : Bool) (K : PySem.W.Frag) (H : Hp) (a : Addr) (xs : List V) : Prop := match l with
  | true => SqL K H a xs
  | false => SqT K H a xs
def ItK (l : Bool) (h : Heap) (it a : Addr) (i : Nat) : Prop := match l with
  | true => h.IsListIter it a i
  | false => h.IsTupleIter it a i
def IsK (l : Bool) (h : Heap) (a : Addr) (items : Array Value) : Prop := match l with
  | true => h.IsList a items
  | false => h.IsTuple a items
def itObj (l : Bool) (a : Addr) : Obj := match l with
  | true => { cls := .type "list_iterator", data := .fields #[.ref a, .int 0 0] }
  | false => { cls := .type "tuple_iterator", data := .fields #[.ref a, .int 0 0] }
theorem SqK.mono {l : Bool} {K : PySem.W.Frag} {H H' : Hp} {a : Addr} {xs : List V} (e : Same H H') (h : SqK l K H a xs) : SqK l K H' a xs := by
  cases l with
  | true => exact e.seq h
  | false => exact e.sqT h
theorem drawsK {prog : Program} {w : World} {A : Around} (hh : A.handled = none) (l : Bool) (it a : Addr) (hne : a ≠ it) (items : Array Value) :
    Draws prog w A it [it, a] items.size (fun i v => items[i]? = some v) (fun i h => ItK l h it a i ∧ IsK l h a items) := by
  cases l with
  | true => exact Draws.list hh it a hne items
  | false => exact Draws.tuple hh it a hne items
theorem beginsK (l : Bool) (a : Addr) (items : Array Value) : Begins (.ref a) (itObj l a) fun h => IsK l h a items := by
  cases l with
  | true => exact begins_list a items
  | false => exact begins_tuple a items
theorem ItK.at {l : Bool} {h h' : Heap} {it a : Addr} {i : Nat} (x : ItK l h it a i) (k : ∀ o, h.get? it = some o → h'.get? it = some o) : ItK l h' it a i := by
  cases l with
  | true => exact Heap.IsListIter.at x k
  | false => exact Heap.IsTupleIter.at x k
theorem ItK.obj {l : Bool} {h : Heap} {it a : Addr} {i : Nat} (x : ItK l h it a i) : ∃ o, h.get? it = some o ∧ ∀ v, o.data ≠ .cell v := by
  cases l with
  | true =>
    obtain ⟨o, e, _, d⟩ := x
    exact ⟨o, e, fun v q => by rw [d] at q; cases q⟩
  | false =>
    obtain ⟨o, e, _, d⟩ := x
    exact ⟨o, e, fun v q => by rw [d] at q; cases q⟩
theorem itK_new {l : Bool} {h : Heap} {it a : Addr} (e : h.get? it = some (itObj l a)) : ItK l h it a 0 := by
  cases l with
  | true => exact ⟨_, e, rfl, rfl⟩
  | false => exact ⟨_, e, rfl, rfl⟩
section
variable {X : Cx} {pins : List (Addr × Obj)} {σ : L2.St} {H : Hp} {s : Shared} {a : Addr} {xs ys : List V}
theorem inv_sqK {l : Bool} (I : Inv X pins σ H s) (h : SqK l X.K H a xs) : ∃ its : List Value, Vals xs its ∧ IsK l s.heap a its.toArray ∧ xs.length ≤ sizeLine ∧ a < s.heap.objs.size := by
  cases l with
  | true =>
    obtain ⟨its, r, p, z⟩ := I.list h
    exact ⟨its, r, p.isList, z, p.lt⟩
  | false =>
    obtain ⟨its, r, p, z⟩ := I.tuple h
    obtain ⟨o, ho, _⟩ := id p
    exact ⟨its, r, p, z, Heap.lt_size ho⟩
theorem sqK_inj {l : Bool} (I : Inv X pins σ H s) (h : SqK l X.K H a xs) (h' : SqK l X.K H a ys) : xs = ys := by
  cases l with
  | true => exact I.list_inj h h'
  | false => exact I.tuple_inj h h'
end
theorem seq_ne_it {X : Cx} {pins : List (Addr × Obj)} {σ : L2.St} {H : Hp} {s : Shared} {a it : Addr} {xs : List V} {l : Bool} {i : Nat} (I : Inv X pins σ H s) (h : SqK l X.K H a xs) (h1 : ItK l s.heap it a i) : a ≠ it := fun e => by
  cases l with
  | true =>
    obtain ⟨its, _, ⟨o, _, ho, hcl, hd, hs⟩, _⟩ := I.list h
    obtain ⟨o', ho', hc', _⟩ := h1
    rw [← e, ho] at ho'; cases ho'
    exact absurd (hcl.symm.trans hc') (by decide)
  | false =>
    obtain ⟨its, _, ⟨o, ho, hcl, _⟩, _⟩ := I.tuple h
    obtain ⟨o', ho', hc', _⟩ := h1
    rw [← e, ho] at ho'; cases ho'
    exact absurd (hcl.symm.trans hc') (by decide)
/-! ### enumerate -/
def IteK (K : PySem.W.Frag) (l : Bool) (a : Addr) : It :=
  ⟨fun i H => ∃ (xs : List V) (x : V), SqK l K H a xs ∧ xs[i]? = some x, fun i H v H' => ∃ T x, v = .ref T ∧ H T = none ∧ H' = upd H T (.tup [.int (i : Nat), x]) ∧ ∀ xs, SqK l K H a xs → xs[i]? = some x, fun i H => ∃ xs : List V, SqK l K H a xs ∧ xs.length = i⟩
theorem turn_enumK {P : Program} {w : World} {K : PySem.W.Frag} {elts : List Expr} {kk : Nat} {tpos : Pos} (l : Bool) (a e it : Addr) (hie : it ≠ e) :
    Turn P w K (.Tuple elts kk tpos) (IteK K l a) [e, it] e (fun i h => (∃ old, IsEnum h e it ((i : Nat) : Int) old) ∧ ItK l h it a i ∧ a < e ∧ a < it) where
  mem := by simp
  obj := fun i h st b hb => by
    obtain ⟨⟨old, he⟩, hi, _⟩ := st
    have e' : b = e ∨ b = it := by simpa using hb
    rcases e' with z | z
    · rw [z]; exact ⟨_, he, fun v q => nomatch q⟩
    · rw [z]; exact hi.obj
  keep := fun i h h' st k => let ⟨⟨old, he⟩, hi, hl⟩ := st; ⟨⟨old, k e (by simp) _ he⟩, hi.at fun o q => k it (by simp) o q, hl⟩
  item := by
    intro X hP hw hK hc i pins s σ H E I hf st hg
    subst hP hw hK
    obtain ⟨⟨old, he⟩, hit, hae, hai⟩ := st
    obtain ⟨xs, x, hq, hx⟩ := hg
    obtain ⟨its, rv, p, hz, hal⟩ := inv_sqK I hq
    obtain ⟨u, hu, ru⟩ := rv.get hx
    have hel : e < s.heap.objs.size := Heap.lt_size he
    have hil : it < s.heap.objs.size := by obtain ⟨_, q, _⟩ := hit.obj; exact Heap.lt_size q
    have hlt : i < its.toArray.size := by
      have := (List.getElem?_eq_some_iff.mp hu).1
      simpa using this
    refine wpAny_pyNext_enum_itemD (drawsK (A := X.A.in1) (I.ok.hd hc) l it a (Nat.ne_of_lt hai) its.toArray) he ⟨hit, p⟩ hlt (Ne.symm hie) (by simp; exact ⟨Ne.symm hie, Nat.ne_of_gt hae⟩) fun y h' tk hP ho hst hT hsz hk => ?_
    have hyu : y = u := by
      have e1 : its.toArray[i]? = some y := hP
      have e2 : its.toArray[i]? = some u := by simpa using hu
      rw [e1] at e2; exact Option.some.inj e2
    subst hyu
    refine ⟨_, rfl, wpAny_letOwnedTupleGo_enum (s := { s with heap := h', toks := tk + 1 }) ho fun h'' he' sb => ?_⟩
    have hT2 : h''.get? s.heap.objs.size = some { cls := .type "tuple", data := .seq #[.int i tk, y] } := (sb.2 _ (Nat.ne_of_gt hel)).trans hT
    have new : ObjOk X.prog X.w (upd H s.heap.objs.size (.tup [.int (i : Nat), x])) h'' s.heap.objs.size (.tup [.int (i : Nat), x]) :=
      ⟨by show 2 ≤ sizeLine; decide, [.int i tk, y], .cons ⟨_, rfl⟩ (.cons ru .nil), ⟨_, hT2, rfl, _, rfl⟩⟩
    have I1 : Inv X pins σ (upd H s.heap.objs.size (.tup [.int (i : Nat), x])) { s with heap := h'', toks := tk + 1 } :=
      I.turnedNew (ch := [e, it]) (fun b ob hb q => (sb.2 b (fun z => hb (by simp [z]))).trans (hk b ob (fun z => hb (by simp [z])) (fun z => hb (by simp [z])) q)) hf (Nat.le_refl _) new
    refine ⟨.ref s.heap.objs.size, _, I1, rfl, ⟨_, x, rfl, I.hok.fresh (Nat.le_refl _), rfl, fun ys hy => by rw [sqK_inj I hy hq]; exact hx⟩, ⟨⟨y, ?_⟩, hst.1.at fun o q => (sb.2 it hie).trans q, hae, hai⟩, fun b hb => ?_⟩
    · have e1 : ((i + 1 : Nat) : Int) = (i : Int) + 1 := by omega
      rw [e1]; exact he'
    · have hb' : b < s.heap.objs.size := by
        have e' : b = e ∨ b = it := by simpa using hb
        rcases e' with z | z
        · rw [z]; exact hel
        · rw [z]; exact hil
      rw [upd_ne (Nat.ne_of_lt hb')]
      exact (hf b hb).1
  done := by
    intro X hP hw hK hc i pins s σ H E I hf st hg
    subst hP hw hK
    obtain ⟨⟨old, he⟩, hit, hae, hai⟩ := st
    obtain ⟨xs, hq, hx⟩ := hg
    obtain ⟨its, rv, p, hz, hal⟩ := inv_sqK I hq
    obtain ⟨f0, f1, f2, f3, f4, f5⟩ := hf it (by simp)
    have hl := rv.length
    have hn : its.toArray.size = i := by simp; omega
    have D := drawsK (prog := X.prog) (w := X.w) (A := X.A.in1) (I.ok.hd hc) l it a (Nat.ne_of_lt hai) its.toArray
    rw [hn] at D
    exact wpAny_pyNext_enum_endD D he ⟨hit, p⟩ fun h' eb => ⟨rfl, I.turned (t' := s.toks) (fun b o hb q => eb b o hb q) f0 f1 f3 f4 f5⟩
  self := fun A i s Q E st h => let ⟨⟨_, he⟩, _⟩ := st; wpAny_pyIter_enum he h
/-! ### zip -/
def ItzK (K : PySem.W.Frag) (l m : Bool) (a b : Addr) : It :=
  ⟨fun i H => ∃ (xs ys : List V) (x y : V), SqK l K H a xs ∧ SqK m K H b ys ∧ xs[i]? = some x ∧ ys[i]? = some y,
    fun i H v H' => ∃ T x y, v = .ref T ∧ H T = none ∧ H' = upd H T (.tup [x, y]) ∧ (∀ xs, SqK l K H a xs → xs[i]? = some x) ∧ ∀ ys, SqK m K H b ys → ys[i]? = some y,
    fun i H => ∃ xs ys : List V, SqK l K H a xs ∧ SqK m K H b ys ∧ i ≤ xs.length ∧ i ≤ ys.length ∧ (i = xs.length ∨ i = ys.length)⟩
theorem turn_zipK {P : Program} {w : World} {K : PySem.W.Frag} {elts : List Expr} {kk : Nat} {tpos : Pos} {l m : Bool} {a b z TI TO i1 i2 : Addr} (D : ZipSep2 z TI TO i1 i2 [i1, a] [i2, b]) :
    Turn P w K (.Tuple elts kk tpos) (ItzK K l m a b) [z, TI, TO, i1, i2] z (fun i h => IsZip h z TI TO .none ∧ IsTupOf2 h TI (.ref i1) (.ref i2) ∧ (∃ x y, IsTupOf2 h TO x y) ∧ ItK l h i1 a i ∧ ItK m h i2 b i) where
  mem := by simp
  obj := fun i h st c hc => by
    obtain ⟨hz, hTI, ⟨x, y, hTO⟩, h1, h2⟩ := st
    have e' : c = z ∨ c = TI ∨ c = TO ∨ c = i1 ∨ c = i2 := by simpa using hc
    rcases e' with q | q | q | q | q
    · rw [q]; exact ⟨_, hz, fun v q => nomatch q⟩
    · rw [q]; exact ⟨_, hTI, fun v q => nomatch q⟩
    · rw [q]; exact ⟨_, hTO, fun v q => nomatch q⟩
    · rw [q]; exact h1.obj
    · rw [q]; exact h2.obj
  keep := fun i h h' st k => by
    obtain ⟨hz, hTI, ⟨x, y, hTO⟩, h1, h2⟩ := st
    exact ⟨k z (by simp) _ hz, k TI (by simp) _ hTI, ⟨x, y, k TO (by simp) _ hTO⟩, h1.at fun o q => k i1 (by simp) o q, h2.at fun o q => k i2 (by simp) o q⟩
  item := by
    intro X hP hw hK hc i pins s σ H E I hf st hg
    subst hP hw hK
    obtain ⟨hz, hTI, ⟨x0, y0, hTO⟩, h1, h2⟩ := st
    obtain ⟨xs, ys, x, y, hqx, hqy, hx, hy⟩ := hg
    obtain ⟨its, rv, p, _, _⟩ := inv_sqK I hqx
    obtain ⟨its2, rv2, p2, _, _⟩ := inv_sqK I hqy
    obtain ⟨u, hu, ru⟩ := rv.get hx
    obtain ⟨u2, hu2, ru2⟩ := rv2.get hy
    have hzl : z < s.heap.objs.size := Heap.lt_size hz
    have l1 : i < its.toArray.size := by have := (List.getElem?_eq_some_iff.mp hu).1; simpa using this
    have l2 : i < its2.toArray.size := by have := (List.getElem?_eq_some_iff.mp hu2).1; simpa using this
    have hai : a ≠ i1 := seq_ne_it I hqx h1
    have hbi : b ≠ i2 := seq_ne_it I hqy h2
    refine wpAny_pyNext_zipD2_item D (drawsK (A := X.A.in1) (I.ok.hd hc) l i1 a hai its.toArray) (drawsK (A := X.A.in1) (I.ok.hd hc) m i2 b hbi its2.toArray) hz hTI hTO ⟨h1, p⟩ ⟨h2, p2⟩ l1 l2 fun w1 w2 h' tk hP1 hP2 z' TO' h1' h2' hT hsz hk => ?_
    have ew1 : w1 = u := by
      have e1 : its.toArray[i]? = some w1 := hP1
      have e2 : its.toArray[i]? = some u := by simpa using hu
      rw [e1] at e2; exact Option.some.inj e2
    have ew2 : w2 = u2 := by
      have e1 : its2.toArray[i]? = some w2 := hP2
      have e2 : its2.toArray[i]? = some u2 := by simpa using hu2
      rw [e1] at e2; exact Option.some.inj e2
    subst ew1 ew2
    refine ⟨_, rfl, wpAny_letOwnedTupleGo_zip (s := { s with heap := h', toks := tk }) z' fun h'' z'' sb => ?_⟩
    have hT2 : h''.get? s.heap.objs.size = some { cls := .type "tuple", data := .seq #[w1, w2] } := (sb.2 _ (Nat.ne_of_gt hzl)).trans hT
    have new : ObjOk X.prog X.w (upd H s.heap.objs.size (.tup [x, y])) h'' s.heap.objs.size (.tup [x, y]) :=
      ⟨by show 2 ≤ sizeLine; decide, [w1, w2], .cons ru (.cons ru2 .nil), ⟨_, hT2, rfl, _, rfl⟩⟩
    have I1 : Inv X pins σ (upd H s.heap.objs.size (.tup [x, y])) { s with heap := h'', toks := tk } :=
      I.turnedNew (t' := tk) (ch := [z, TI, TO, i1, i2]) (fun c o hb q => (sb.2 c (fun q' => hb (by simp [q']))).trans (hk c o (fun q' => hb (by simp [q'])) (fun q' => hb (by simp [q'])) (fun q' => hb (by simp [q'])) (fun q' => hb (by simp [q'])) q)) hf (Nat.le_refl _) new
    refine ⟨.ref s.heap.objs.size, _, I1, rfl, ⟨_, x, y, rfl, I.hok.fresh (Nat.le_refl _), rfl, fun l hl => by rw [sqK_inj I hl hqx]; exact hx, fun l hl => by rw [sqK_inj I hl hqy]; exact hy⟩, ⟨z'', ?_, ⟨w1, w2, ?_⟩, ?_, ?_⟩, fun c hcm => ?_⟩
    · exact (sb.2 _ D.TIz).trans (hk _ _ D.TIz D.TITO D.TIi1 D.TIi2 hTI)
    · exact (sb.2 _ D.TOz).trans TO'
    · exact h1'.1.at fun o q => (sb.2 _ (Ne.symm D.zi1)).trans q
    · exact h2'.1.at fun o q => (sb.2 _ (Ne.symm D.zi2)).trans q
    · have hlt : c < s.heap.objs.size := by
        have e' : c = z ∨ c = TI ∨ c = TO ∨ c = i1 ∨ c = i2 := by simpa using hcm
        rcases e' with q | q | q | q | q
        · rw [q]; exact hzl
        · rw [q]; exact Heap.lt_size hTI
        · rw [q]; exact Heap.lt_size hTO
        · rw [q]; obtain ⟨_, e1, _⟩ := h1.obj; exact Heap.lt_size e1
        · rw [q]; obtain ⟨_, e2, _⟩ := h2.obj; exact Heap.lt_size e2
      rw [upd_ne (Nat.ne_of_lt hlt)]
      exact (hf c hcm).1
  done := by
    intro X hP hw hK hc i pins s σ H E I hf st hg
    subst hP hw hK
    obtain ⟨hz, hTI, ⟨x0, y0, hTO⟩, h1, h2⟩ := st
    obtain ⟨xs, ys, hqx, hqy, hle1, hle2, hend⟩ := hg
    obtain ⟨its, rv, p, _, _⟩ := inv_sqK I hqx
    obtain ⟨its2, rv2, p2, _, _⟩ := inv_sqK I hqy
    have l1 := rv.length
    have l2 := rv2.length
    have hai : a ≠ i1 := seq_ne_it I hqx h1
    have hbi : b ≠ i2 := seq_ne_it I hqy h2
    exact wpAny_pyNext_zipD2_end D (drawsK (A := X.A.in1) (I.ok.hd hc) l i1 a hai its.toArray) (drawsK (A := X.A.in1) (I.ok.hd hc) m i2 b hbi its2.toArray) hz hTI hTO ⟨h1, p⟩ ⟨h2, p2⟩ (by simp; omega) (by simp; omega) (by simp; omega) fun h' tk hk => ⟨rfl, I.turnedL (t' := tk) (ch := [z, TI, TO, i1, i2]) (fun c o hb q =>
      hk c o (fun q' => hb (by simp [q'])) (fun q' => hb (by simp [q'])) (fun q' => hb (by simp [q'])) (fun q' => hb (by simp [q'])) q) hf⟩
  self := fun A i s Q E st h => wpAny_pyIter_zip st.1 h

/-! ### what is walked -/
section
variable {X : Cx} {tg : Expr}
/-- any sequence or text, told when it has come -/
def iSeqA (K : PySem.W.Frag) (tl : TE) : TI := fun σ H R => tl σ H fun x H1 =>
  (∃ a, x = .ref a ∧ (∃ xs, SqL K H1 a xs) ∧ R (Itl K a) H1) ∨ (∃ a, x = .ref a ∧ (∃ xs, SqT K H1 a xs) ∧ R (Itt K a) H1)
theorem pi_seqA {e : Expr} {tl : TE} (hl : PE X e tl) : PI X tg e (iSeqA X.K tl) := by
  refine ⟨fun pins s σ H R I h => ?_⟩
  refine thn (hl.run pins s σ H _ I h) fun v s1 ⟨x, H1, I1, r1, q1⟩ => ?_
  rcases q1 with ⟨a, e, ⟨xs, hq⟩, q⟩ | ⟨a, e, ⟨xs, hq⟩, q⟩
  · subst e
    cases r1
    obtain ⟨its, rv, p, hz⟩ := I1.list hq
    refine wpAny_pyIter_list p.isList ?_
    refine ⟨s1.heap.objs.size, [s1.heap.objs.size], _, _, H1, rfl, I1.kept (t' := s1.toks) fun b o e => Heap.get?_push_of_some _ e, turn_list a _, ⟨_, Heap.get?_push_size _ rfl, rfl, rfl⟩, fun b hb => ?_, q⟩
    have e : b = s1.heap.objs.size := by simpa using hb
    subst e
    exact I1.fpOk (Nat.le_refl _) (I1.hok.fresh (Nat.le_refl _))
  · subst e
    cases r1
    obtain ⟨its, rv, p, hz⟩ := I1.tuple hq
    refine wpAny_pyIter_tuple (show s1.heap.IsTuple a its.toArray from p) ?_
    refine ⟨s1.heap.objs.size, [s1.heap.objs.size], _, _, H1, rfl, I1.kept (t' := s1.toks) fun b o e => Heap.get?_push_of_some _ e, turn_tuple a _, ⟨_, Heap.get?_push_size _ rfl, rfl, rfl⟩, fun b hb => ?_, q⟩
    have e : b = s1.heap.objs.size := by simpa using hb
    subst e
    exact I1.fpOk (Nat.le_refl _) (I1.hok.fresh (Nat.le_refl _))
def iEnumK (K : PySem.W.Frag) (ta : TA) : TI := fun σ H R => ta σ H fun vs H1 => ∃ l a xs, vs = [.ref a] ∧ SqK l K H1 a xs ∧ R (IteK K l a) H1
theorem pi_enumK {e : Expr} {ta : TA} {p pos tpos : Pos} {elts : List Expr} {kk : Nat} (hg : Gl X "enumerate") (hm : X.mg "enumerate" = none) (ha : PA X [e] ta) (hs : starEach [e] X.env = (false, eval e X.env) :: starEach [] X.env) :
    PI X (.Tuple elts kk tpos) (.Call (.Name "enumerate" p) [e] [] pos) (iEnumK X.K ta) := by
  refine ⟨fun pins s σ H R I h => ?_⟩
  refine Call_ (ld_blt I hg hm boot_enumerate (PyProof.Rows.callWith_type1 (thn (ha.run pos pins s σ H _ I h) fun us s1 ⟨vs, H1, I1, r1, q1⟩ => ?_) hs rfl))
  obtain ⟨l, a, xs, ex, hq, q⟩ := q1
  subst ex
  cases r1 with
  | cons r rr =>
    cases rr
    cases r
    obtain ⟨its, rv, p', hz, hal⟩ := inv_sqK I1 hq
    refine zx_enum_begins (beginsK l a its.toArray) p' fun h' he hit hsz hk => wpAny_pyIter_enum he ?_
    have I2 : Inv X pins σ H1 { s1 with heap := h' } := I1.kept (t' := s1.toks) hk
    refine ⟨s1.heap.objs.size + 1, [s1.heap.objs.size + 1, s1.heap.objs.size], _, _, H1, rfl, I2, turn_enumK l a (s1.heap.objs.size + 1) s1.heap.objs.size (Nat.ne_of_lt (Nat.lt_succ_self _)), ⟨⟨.none, he⟩, itK_new hit, Nat.lt_succ_of_lt hal, hal⟩, fun b hb => ?_, q⟩
    have e' : b = s1.heap.objs.size + 1 ∨ b = s1.heap.objs.size := by simpa using hb
    have hle : s1.heap.objs.size ≤ b := by
      rcases e' with z | z
      · rw [z]; exact Nat.le_add_right _ _
      · rw [z]; exact Nat.le_refl _
    exact I1.fpOk hle (I1.hok.fresh hle)
def iZipK (K : PySem.W.Frag) (ta : TA) : TI := fun σ H R => ta σ H fun vs H1 => ∃ l m a b xs ys, vs = [.ref a, .ref b] ∧ SqK l K H1 a xs ∧ SqK m K H1 b ys ∧ R (ItzK K l m a b) H1
theorem pi_zipK {e e2 : Expr} {ta : TA} {p pos tpos : Pos} {elts : List Expr} {kk : Nat} (hg : Gl X "zip") (hm : X.mg "zip" = none) (ha : PA X [e, e2] ta)
    (hs : starEach [e, e2] X.env = (false, eval e X.env) :: starEach [e2] X.env) (hpl : (backTo pos (starEach [e2] X.env)).any (·.1) = false) :
    PI X (.Tuple elts kk tpos) (.Call (.Name "zip" p) [e, e2] [] pos) (iZipK X.K ta) := by
  refine ⟨fun pins s σ H R I h => ?_⟩
  refine Call_ (ld_blt I hg hm PyProof.Rows.boot_zip (PyProof.Rows.callWith_type1 (thn (ha.run pos pins s σ H _ I h) fun us s1 ⟨vs, H1, I1, r1, q1⟩ => ?_) hs hpl))
  obtain ⟨l, m, a, b, xs, ys, ex, hqx, hqy, q⟩ := q1
  subst ex
  cases r1 with
  | cons r rr =>
    cases rr with
    | cons r' rr =>
      cases rr
      cases r
      cases r'
      obtain ⟨its, rv, p1, _, la⟩ := inv_sqK I1 hqx
      obtain ⟨its2, rv2, p2, _, lb⟩ := inv_sqK I1 hqy
      refine zip_begins2 (beginsK l a its.toArray) (beginsK m b its2.toArray) p1 p2 fun h' hz hTI hTO h1 h2 hsz hk => wpAny_pyIter_zip hz ?_
      have I2 : Inv X pins σ H1 { s1 with heap := h' } := I1.kept (t' := s1.toks) hk
      refine ⟨s1.heap.objs.size + 4, [s1.heap.objs.size + 4, s1.heap.objs.size + 2, s1.heap.objs.size + 3, s1.heap.objs.size, s1.heap.objs.size + 1], _, _, H1, rfl, I2, turn_zipK (zip_sep2 (fp1 := [a]) (fp2 := [b]) (by simpa using la) (by simpa using lb)), ⟨hz, hTI, ⟨_, _, hTO⟩, itK_new h1, itK_new h2⟩, fun c hcm => ?_, q⟩
      have e' : c = s1.heap.objs.size + 4 ∨ c = s1.heap.objs.size + 2 ∨ c = s1.heap.objs.size + 3 ∨ c = s1.heap.objs.size ∨ c = s1.heap.objs.size + 1 := by simpa using hcm
      have hle : s1.heap.objs.size ≤ c := by
        rcases e' with z | z | z | z | z <;> rw [z] <;> omega
      exact I1.fpOk hle (I1.hok.fresh hle)
end
end Z

set_option Elab.async false
set_option linter.all false
set_option maxRecDepth 100000
namespace Z
open PySem PySem.Spec PyProof.Rows L2

theorem rngD_len : ∀ (lo : Int) (n : Nat), (rngD lo n).length = n
  | _, 0 => rfl
  | lo, n + 1 => by unfold rngD; rw [List.length_cons, rngD_len]
theorem rngD_get : ∀ (lo : Int) (n i : Nat), i < n → (rngD lo n)[i]? = some (.int (lo + i))
  | _, 0, _, h => absurd h (Nat.not_lt_zero _)
  | lo, n + 1, 0, _ => by unfold rngD; simp
  | lo, n + 1, i + 1, h => by
    unfold rngD
    rw [List.getElem?_cons_succ, rngD_get (lo + 1) n i (by omega)]
    congr 2
    omega
theorem enmD_len : ∀ (k : Nat) (ds : List D), (enmD k ds).length = ds.length
  | _, [] => rfl
  | k, d :: ds => by unfold enmD; rw [List.length_cons, enmD_len, List.length_cons]
theorem enmD_get : ∀ (k : Nat) (ds : List D) (i : Nat), (enmD k ds)[i]? = (ds[i]?).map fun d => .tuple [.int ((k + i : Nat) : Int), d]
  | _, [], _ => by unfold enmD; simp
  | k, d :: ds, 0 => by unfold enmD; simp
  | k, d :: ds, i + 1 => by
    unfold enmD
    rw [List.getElem?_cons_succ, List.getElem?_cons_succ, enmD_get (k + 1) ds i]
    congr 1
    funext d
    have : k + 1 + i = k + (i + 1) := by omega
    rw [this]
theorem zipD_len : ∀ (as bs : List D), (zipD as bs).length = min as.length bs.length
  | [], _ => by unfold zipD; simp
  | _ :: _, [] => by unfold zipD; simp
  | a :: as, b :: bs => by unfold zipD; rw [List.length_cons, zipD_len, List.length_cons, List.length_cons]; omega
theorem zipD_get : ∀ (as bs : List D) (i : Nat) (d : D), (zipD as bs)[i]? = some d → ∃ a b, as[i]? = some a ∧ bs[i]? = some b ∧ d = .tuple [a, b]
  | [], _, _, _, h => by unfold zipD at h; simp at h
  | _ :: _, [], _, _, h => by unfold zipD at h; simp at h
  | a :: as, b :: bs, 0, d, h => by unfold zipD at h; simp at h; exact ⟨a, b, rfl, rfl, h.symm⟩
  | a :: as, b :: bs, i + 1, d, h => by
    unfold zipD at h
    rw [List.getElem?_cons_succ] at h
    obtain ⟨x, y, h1, h2, h3⟩ := zipD_get as bs i d h
    exact ⟨x, y, by simpa using h1, by simpa using h2, h3⟩

/-- what a walk gives, while G stands -/
structure Wlk (K : PySem.W.Frag) (G : Hp) (J : It) (ds : List D) : Prop where
  goes : ∀ i H, Same G H → i < ds.length → J.go i H
  stops : ∀ H, Same G H → J.stop ds.length H
  yields : ∀ i H x H' d, Same G H → ds[i]? = some d → J.yld i H x H' → (H' = H ∧ Dp K G x d) ∨ ∃ t vs es, x = .ref t ∧ H t = none ∧ H' = upd H t (.tup vs) ∧ d = .tuple es ∧ DpAll K G vs es
theorem Wlk.mono {K : PySem.W.Frag} {G G' : Hp} {J : It} {ds : List D} (w : Wlk K G J ds) (e : Same G G') : Wlk K G' J ds :=
  ⟨fun i H h => w.goes i H (e.trans h), fun H h => w.stops H (e.trans h), fun i H x H' d h hd y => by
    rcases w.yields i H x H' d (e.trans h) hd y with ⟨a, b⟩ | ⟨t, vs, es, a, b, c, d, f⟩
    · exact .inl ⟨a, b.mono e⟩
    · exact .inr ⟨t, vs, es, a, b, c, d, f.mono e⟩⟩
/-- the item as data -/
theorem Wlk.item {K : PySem.W.Frag} {G : Hp} {J : It} {ds : List D} (w : Wlk K G J ds) {i : Nat} {H H' : Hp} {x : V} {d : D} {C : List Cell} (g : Good G C H) (hd : ds[i]? = some d) (y : J.yld i H x H') :
    ∃ G', Same G G' ∧ Good G' C H' ∧ Dp K G' x d := by
  rcases w.yields i H x H' d g.ex hd y with ⟨rfl, b⟩ | ⟨t, vs, es, rfl, h2, rfl, rfl, h5⟩
  · exact ⟨G, L2.Same.refl G, g, b⟩
  · have e2 : Same G (upd G t (.tup vs)) := L2.Same.new (g.fresh h2).1
    exact ⟨_, e2, g.newG _ h2, .tup (SqT.of upd_same) (h5.mono e2)⟩
def tI (K : PySem.W.Frag) (τ : Tb) (W : WX) (run : Env → Out (List D)) : TI := fun σ H R => ∃ F Γ G C, Good G (C ++ F) H ∧ RelG K τ.κ G σ Γ C ∧ match run Γ with
  | .ok ds Γ' => ∀ J H' G' C', Same G G' → Good G' (C' ++ F) H' → RelG K τ.κ G' σ Γ' C' → Wlk K G' J ds → R J H'
  | .ex c Γ' => ∀ H' G' C', Same G G' → Good G' (C' ++ F) H' → RelG K τ.κ G' σ Γ' C' → W (.ref (τ.ea c)) none σ H'
  | .no => False
theorem _root_.L2.PI.imp {X : Cx} {tg e : Expr} {t t' : TI} (h : PI X tg e t) (hi : ∀ σ H R, t' σ H R → t σ H R) : PI X tg e t' := ⟨fun pins s σ H R I q => h.run pins s σ H R I (hi σ H R q)⟩

section
variable {X : Cx} {τ : Tb} {W : WX} {K : PySem.W.Frag} {Φ : Nat → List T → FOut} {tg : Expr}
theorem wlk_list {G : Hp} {a : Addr} {vs : List V} {ds : List D} (hs : SqL K G a vs) (ha : DpAll K G vs ds) (huniq : ∀ H, Same G H → ∀ ys, SqL K H a ys → ys = vs) : Wlk K G (Itl K a) ds := by
  refine ⟨fun i H h hi => ?_, fun H h => ⟨vs, h.seq hs, by rw [DpAll.len ha]; exact Nat.le_refl _⟩, fun i H x H' d h hd y => ?_⟩
  · obtain ⟨v, e, _⟩ := DpAll.get ha (List.getElem?_eq_getElem hi)
    exact ⟨vs, v, h.seq hs, e⟩
  · obtain ⟨v, e, q⟩ := DpAll.get ha hd
    obtain ⟨h1, h2⟩ := y
    have := h2 vs (h.seq hs)
    rw [e] at this; cases this
    exact .inl ⟨h1, q⟩
theorem wlk_tup {G : Hp} {a : Addr} {vs : List V} {ds : List D} (hs : SqT K G a vs) (ha : DpAll K G vs ds) : Wlk K G (Itt K a) ds := by
  refine ⟨fun i H h hi => ?_, fun H h => ⟨vs, h.sqT hs, by rw [DpAll.len ha]; exact Nat.le_refl _⟩, fun i H x H' d h hd y => ?_⟩
  · obtain ⟨v, e, _⟩ := DpAll.get ha (List.getElem?_eq_getElem hi)
    exact ⟨vs, v, h.sqT hs, e⟩
  · obtain ⟨v, e, q⟩ := DpAll.get ha hd
    obtain ⟨h1, h2⟩ := y
    have := h2 vs (h.sqT hs)
    rw [e] at this; cases this
    exact .inl ⟨h1, q⟩
theorem wlk_list' {G : Hp} {a : Addr} {vs : List V} {ds : List D} (hs : SqL K G a vs) (ha : DpAll K G vs ds) : Wlk K G (Itl K a) ds := by
  refine ⟨fun i H h hi => ?_, fun H h => ⟨vs, h.seq hs, by rw [DpAll.len ha]; exact Nat.le_refl _⟩, fun i H x H' d h hd y => ?_⟩
  · obtain ⟨v, e, _⟩ := DpAll.get ha (List.getElem?_eq_getElem hi)
    exact ⟨vs, v, h.seq hs, e⟩
  · obtain ⟨v, e, q⟩ := DpAll.get ha hd
    obtain ⟨h1, h2⟩ := y
    have := h2 vs (h.seq hs)
    rw [e] at this; cases this
    exact .inl ⟨h1, q⟩
theorem wlk_rng {G : Hp} (lo : Int) (n : Nat) : Wlk K G (Itr lo n) (rngD lo n) := by
  refine ⟨fun i H h hi => by rw [rngD_len] at hi; exact hi, fun H h => by rw [rngD_len]; exact Nat.le_refl _, fun i H x H' d h hd y => ?_⟩
  have hi : i < n := by have := (List.getElem?_eq_some_iff.mp hd).1; rw [rngD_len] at this; exact this
  rw [rngD_get lo n i hi] at hd
  cases hd
  obtain ⟨h1, h2⟩ := y
  subst h2
  exact .inl ⟨h1, .int _⟩
theorem wlk_enm {G : Hp} {l : Bool} {a : Addr} {vs : List V} {ds : List D} (hs : SqK l K G a vs) (ha : DpAll K G vs ds) : Wlk K G (IteK K l a) (enmD 0 ds) := by
  refine ⟨fun i H h hi => ?_, fun H h => ⟨vs, hs.mono h, by rw [enmD_len, DpAll.len ha]⟩, fun i H x H' d h hd y => ?_⟩
  · rw [enmD_len] at hi
    obtain ⟨v, e, _⟩ := DpAll.get ha (List.getElem?_eq_getElem hi)
    exact ⟨vs, v, hs.mono h, e⟩
  · rw [enmD_get] at hd
    cases q : ds[i]? with
    | none => rw [q] at hd; cases hd
    | some d0 =>
      rw [q] at hd; cases hd
      obtain ⟨v, e, hv⟩ := DpAll.get ha q
      obtain ⟨t, x', h1, h2, h3, h4⟩ := y
      have := h4 vs (hs.mono h)
      rw [e] at this; cases this
      refine .inr ⟨t, [.int (i : Nat), v], _, h1, h2, h3, rfl, .cons ?_ (.cons hv .nil)⟩
      rw [Nat.zero_add]
      exact .int _
theorem wlk_zip {G : Hp} {l m : Bool} {a b : Addr} {vs ws : List V} {ds es : List D} (hs : SqK l K G a vs) (ha : DpAll K G vs ds) (hs2 : SqK m K G b ws) (ha2 : DpAll K G ws es) : Wlk K G (ItzK K l m a b) (zipD ds es) := by
  have l1 := DpAll.len ha
  have l2 := DpAll.len ha2
  refine ⟨fun i H h hi => ?_, fun H h => ⟨vs, ws, hs.mono h, hs2.mono h, ?_, ?_, ?_⟩, fun i H x H' d h hd y => ?_⟩
  · rw [zipD_len] at hi
    obtain ⟨v, e, _⟩ := DpAll.get ha (j := i) (List.getElem?_eq_getElem (by omega))
    obtain ⟨v2, e2, _⟩ := DpAll.get ha2 (j := i) (List.getElem?_eq_getElem (by omega))
    exact ⟨vs, ws, v, v2, hs.mono h, hs2.mono h, e, e2⟩
  · rw [zipD_len]; omega
  · rw [zipD_len]; omega
  · rw [zipD_len]; omega
  · obtain ⟨p, q, h1, h2, h3⟩ := zipD_get ds es i d hd
    subst h3
    obtain ⟨v, e, hv⟩ := DpAll.get ha h1
    obtain ⟨v2, e2, hv2⟩ := DpAll.get ha2 h2
    obtain ⟨t, x1, y1, k1, k2, k3, k4, k5⟩ := y
    have z1 := k4 vs (hs.mono h)
    rw [e] at z1; cases z1
    have z2 := k5 ws (hs2.mono h)
    rw [e2] at z2; cases z2
    exact .inr ⟨t, [v, v2], _, k1, k2, k3, rfl, .cons hv (.cons hv2 .nil)⟩
theorem wlk_str {G : Hp} (x : Str) : Wlk K G (Its x) (signsD x) := by
  have hl : (signsD x).length = x.cps.size := by unfold signsD; simp
  refine ⟨fun i H h hi => by rw [hl] at hi; exact hi, fun H h => by rw [hl]; exact Nat.le_refl _, fun i H y H' d h hd yy => ?_⟩
  obtain ⟨h1, c, h2, h3⟩ := yy
  subst h3
  unfold signsD at hd
  rw [List.getElem?_map] at hd
  have : x.cps.toList[i]? = some c := by simpa using h2
  rw [this] at hd
  cases hd
  exact .inl ⟨h1, .str _⟩
/-- any sequence or text -/
theorem i_seq {e : Expr} {i : E} (he : PE X e (tO X.K τ W (ev Φ i) (spure i))) : PI X tg e (tI X.K τ W (evI Φ (.seq i))) := by
  have hd := s_D he
  have h3 : PI X tg e (fun σ H R => tD X.K τ W (fun Γ => (ev Φ i Γ).bind fun o Γ => escD o Γ) σ H fun x H1 =>
      ((∃ a, x = .ref a ∧ (∃ xs, SqL X.K H1 a xs) ∧ R (Itl X.K a) H1) ∨ (∃ a, x = .ref a ∧ (∃ xs, SqT X.K H1 a xs) ∧ R (Itt X.K a) H1)) ∨ ∃ z, x = .str z ∧ R (Its z) H1) := by
    refine ⟨fun pins s σ H R I h => ?_⟩
    refine thn (hd.run pins s σ H _ I h) fun v s1 ⟨x, H1, I1, r1, q1⟩ => ?_
    rcases q1 with q1 | ⟨z, rfl, q⟩
    · rcases q1 with ⟨a, e, ⟨xs, hq⟩, q⟩ | ⟨a, e, ⟨xs, hq⟩, q⟩
      · subst e
        cases r1
        obtain ⟨its, rv, p, hz⟩ := I1.list hq
        refine wpAny_pyIter_list p.isList ?_
        refine ⟨s1.heap.objs.size, [s1.heap.objs.size], _, _, H1, rfl, I1.kept (t' := s1.toks) fun b o e => Heap.get?_push_of_some _ e, turn_list a _, ⟨_, Heap.get?_push_size _ rfl, rfl, rfl⟩, fun b hb => ?_, q⟩
        have e : b = s1.heap.objs.size := by simpa using hb
        subst e
        exact I1.fpOk (Nat.le_refl _) (I1.hok.fresh (Nat.le_refl _))
      · subst e
        cases r1
        obtain ⟨its, rv, p, hz⟩ := I1.tuple hq
        refine wpAny_pyIter_tuple (show s1.heap.IsTuple a its.toArray from p) ?_
        refine ⟨s1.heap.objs.size, [s1.heap.objs.size], _, _, H1, rfl, I1.kept (t' := s1.toks) fun b o e => Heap.get?_push_of_some _ e, turn_tuple a _, ⟨_, Heap.get?_push_size _ rfl, rfl, rfl⟩, fun b hb => ?_, q⟩
        have e : b = s1.heap.objs.size := by simpa using hb
        subst e
        exact I1.fpOk (Nat.le_refl _) (I1.hok.fresh (Nat.le_refl _))
    · obtain ⟨t, rfl⟩ := r1
      cases ha : z.cps.all (· < 128)
      · exact wpAny_pyIter_wide ha (pi_one (tk := s1.toks) I1 _ (turn_str _ z t "str_iterator" (.inr rfl)) ⟨_, Heap.get?_push_size _ rfl, rfl, rfl⟩ q)
      · exact wpAny_pyIter_ascii ha (pi_one (tk := s1.toks) I1 _ (turn_str _ z t "str_ascii_iterator" (.inl rfl)) ⟨_, Heap.get?_push_size _ rfl, rfl, rfl⟩ q)
  refine h3.imp fun σ H R h => ?_
  obtain ⟨F, Γ, G, C, g, r0, h⟩ := h
  refine ⟨F, Γ, G, C, g, r0, ?_⟩
  unfold evI at h
  cases hA : ev Φ i Γ with
  | no => simp only [hA, Out.bind_no] at h
  | ex c Γ1 => simp only [hA, Out.bind_ex] at h ⊢; exact h
  | ok o Γ1 =>
    simp only [hA, Out.bind_ok] at h ⊢
    cases hD : escD o Γ1 with
    | no => simp only [hD, Out.bind_no] at h
    | ex c Γ2 => simp only [hD, Out.bind_ex] at h ⊢; exact h
    | ok d Γ2 =>
      simp only [hD, Out.bind_ok] at h ⊢
      intro v H1 G1 C1 e1 g1 r1 d1
      cases hI : itemsT (.sh d) with
      | none => simp only [hI, lift_none] at h
      | some ds =>
        simp only [hI, lift_some] at h
        cases d1 with
        | @lst a vs _ hs ha => cases hI; exact .inl (.inl ⟨a, rfl, ⟨vs, g1.ex.seq hs⟩, h _ H1 G1 C1 e1 g1 r1 (wlk_list' hs ha)⟩)
        | @tup a vs _ hs ha => cases hI; exact .inl (.inr ⟨a, rfl, ⟨vs, g1.ex.sqT hs⟩, h _ H1 G1 C1 e1 g1 r1 (wlk_tup hs ha)⟩)
        | str x => cases hI; exact .inr ⟨x, rfl, h _ H1 G1 C1 e1 g1 r1 (wlk_str x)⟩
        | non => cases hI
        | bl _ => cases hI
        | int _ => cases hI
theorem i_rng {e : Expr} {i : E} {p pos : Pos} (hg : Gl X "range") (hm : X.mg "range" = none) (hst : starEach [e] X.env = (false, eval e X.env) :: starEach [] X.env) (he : PE X e (tO X.K τ W (ev Φ i) (spure i))) : PI X tg (.Call (.Name "range" p) [e] [] pos) (tI X.K τ W (evI Φ (.rng i))) := by
  refine (pi_range1 hg hm (pa_cons (s_D he) pa_nil hst) hst).imp fun σ H R h => ?_
  obtain ⟨F, Γ, G, C, g, r0, h⟩ := h
  refine ⟨F, Γ, G, C, g, r0, ?_⟩
  unfold evI at h
  cases hA : ev Φ i Γ with
  | no => simp only [hA, Out.bind_no] at h
  | ex c Γ1 => simp only [hA, Out.bind_ex] at h ⊢; exact h
  | ok o Γ1 =>
    simp only [hA, Out.bind_ok] at h ⊢
    cases hD : escD o Γ1 with
    | no => simp only [hD, Out.bind_no] at h
    | ex c Γ2 => simp only [hD, Out.bind_ex] at h ⊢; exact h
    | ok d Γ2 =>
      simp only [hD, Out.bind_ok] at h ⊢
      intro v H1 G1 C1 e1 g1 r1 d1
      cases d1 with
      | int n =>
        simp only at h
        split at h
        · rename_i o' Γ' he'
          split at he'
          · rename_i hn
            cases he'
            simp only [rngOk, decide_eq_true_eq] at hn
            exact ⟨n, rfl, by omega, by omega, h _ H1 G1 C1 e1 g1 r1 (wlk_rng 0 n.toNat)⟩
          · cases he'
        · rename_i he'
          split at he' <;> cases he'
        · cases h
      | lst _ _ => exact h.elim
      | tup _ _ => exact h.elim
      | str x => exact h.elim
      | non => exact h.elim
      | bl _ => exact h.elim
theorem i_rng2 {e e2 : Expr} {i j : E} {p pos : Pos} (hg : Gl X "range") (hm : X.mg "range" = none) (hst : starEach [e, e2] X.env = (false, eval e X.env) :: starEach [e2] X.env) (hst2 : starEach [e2] X.env = (false, eval e2 X.env) :: starEach [] X.env)
    (he : PE X e (tO X.K τ W (ev Φ i) (spure i))) (he2 : PE X e2 (tO X.K τ W (ev Φ j) (spure j))) : PI X tg (.Call (.Name "range" p) [e, e2] [] pos) (tI X.K τ W (evI Φ (.rng2 i j))) := by
  refine (pi_range2 hg hm (pa_cons (s_D he) (pa_cons (s_D he2) pa_nil hst2) hst) (by rw [hst, hst2] <;> rfl) hst2).imp fun σ H R h => ?_
  obtain ⟨F, Γ, G, C, g, r0, h⟩ := h
  refine ⟨F, Γ, G, C, g, r0, ?_⟩
  unfold evI at h
  cases hA : ev Φ i Γ with
  | no => simp only [hA, Out.bind_no] at h
  | ex c Γ1 => simp only [hA, Out.bind_ex] at h ⊢; exact h
  | ok o Γ1 =>
    simp only [hA, Out.bind_ok] at h ⊢
    cases hD : escD o Γ1 with
    | no => simp only [hD, Out.bind_no] at h
    | ex c Γ2 => simp only [hD, Out.bind_ex] at h ⊢; exact h
    | ok d Γ2 =>
      simp only [hD, Out.bind_ok] at h ⊢
      intro v H1 G1 C1 e1 g1 r1 d1
      refine ⟨F, Γ2, G1, C1, g1, r1, ?_⟩
      cases hB : ev Φ j Γ2 with
      | no => simp only [hB, Out.bind_no] at h
      | ex c Γ3 => simp only [hB, Out.bind_ex] at h ⊢; exact fun H2 G2 C2 e2 g2 r2 => h H2 G2 C2 (e1.trans e2) g2 r2
      | ok o2 Γ3 =>
        simp only [hB, Out.bind_ok] at h ⊢
        cases hE : escD o2 Γ3 with
        | no => simp only [hE, Out.bind_no] at h
        | ex c Γ4 => simp only [hE, Out.bind_ex] at h ⊢; exact fun H2 G2 C2 e2 g2 r2 => h H2 G2 C2 (e1.trans e2) g2 r2
        | ok d2 Γ4 =>
          simp only [hE, Out.bind_ok] at h ⊢
          intro v2 H2 G2 C2 e2 g2 r2 d2'
          split at h
          · rename_i o' Γ' he'
            split at he'
            · rename_i m n
              split at he'
              · rename_i hn
                cases he'
                simp only [rngOk, Bool.and_eq_true, decide_eq_true_eq] at hn
                cases d1
                cases d2'
                exact ⟨m, n, rfl, ⟨by omega, by omega, by omega, by omega⟩, h _ H2 G2 C2 (e1.trans e2) g2 r2 (wlk_rng m (n - m).toNat)⟩
              · cases he'
            · cases he'
          · rename_i he'
            split at he'
            · split at he' <;> cases he'
            · cases he'
          · cases h
theorem els_sh {G : Hp} {v : V} {d : D} {ds : List D} (h : Dp K G v d) (e : els (.sh d) = some ds) : ∃ l a vs, v = .ref a ∧ SqK l K G a vs ∧ DpAll K G vs ds := by
  cases h with
  | @lst a vs _ hs ha => cases e; exact ⟨true, a, vs, rfl, hs, ha⟩
  | @tup a vs _ hs ha => cases e; exact ⟨false, a, vs, rfl, hs, ha⟩
  | non => cases e
  | bl _ => cases e
  | int _ => cases e
  | str _ => cases e
theorem i_enm {e : Expr} {i : E} {p pos tpos : Pos} {elts : List Expr} {kk : Nat} (hg : Gl X "enumerate") (hm : X.mg "enumerate" = none) (hst : starEach [e] X.env = (false, eval e X.env) :: starEach [] X.env) (he : PE X e (tO X.K τ W (ev Φ i) (spure i))) :
    PI X (.Tuple elts kk tpos) (.Call (.Name "enumerate" p) [e] [] pos) (tI X.K τ W (evI Φ (.enm i))) := by
  refine (pi_enumK hg hm (pa_cons (s_D he) pa_nil hst) hst).imp fun σ H R h => ?_
  obtain ⟨F, Γ, G, C, g, r0, h⟩ := h
  refine ⟨F, Γ, G, C, g, r0, ?_⟩
  unfold evI at h
  cases hA : ev Φ i Γ with
  | no => simp only [hA, Out.bind_no] at h
  | ex c Γ1 => simp only [hA, Out.bind_ex] at h ⊢; exact h
  | ok o Γ1 =>
    simp only [hA, Out.bind_ok] at h ⊢
    cases hD : escD o Γ1 with
    | no => simp only [hD, Out.bind_no] at h
    | ex c Γ2 => simp only [hD, Out.bind_ex] at h ⊢; exact h
    | ok d Γ2 =>
      simp only [hD, Out.bind_ok] at h ⊢
      intro v H1 G1 C1 e1 g1 r1 d1
      cases hI : els (.sh d) with
      | none => simp only [hI, lift_none, Out.bind_no] at h
      | some ds =>
        simp only [hI, lift_some, Out.bind_ok] at h
        obtain ⟨l, a, vs, rfl, hs, ha⟩ := els_sh d1 hI
        exact ⟨l, a, vs, rfl, hs.mono g1.ex, h _ H1 G1 C1 e1 g1 r1 (wlk_enm hs ha)⟩
theorem i_zip {e e2 : Expr} {i j : E} {p pos tpos : Pos} {elts : List Expr} {kk : Nat} (hg : Gl X "zip") (hm : X.mg "zip" = none) (hst : starEach [e, e2] X.env = (false, eval e X.env) :: starEach [e2] X.env) (hst2 : starEach [e2] X.env = (false, eval e2 X.env) :: starEach [] X.env)
    (he : PE X e (tO X.K τ W (ev Φ i) (spure i))) (he2 : PE X e2 (tO X.K τ W (ev Φ j) (spure j))) : PI X (.Tuple elts kk tpos) (.Call (.Name "zip" p) [e, e2] [] pos) (tI X.K τ W (evI Φ (.zip i j))) := by
  refine (pi_zipK hg hm (pa_cons (s_D he) (pa_cons (s_D he2) pa_nil hst2) hst) hst (by rw [hst2] <;> rfl)).imp fun σ H R h => ?_
  obtain ⟨F, Γ, G, C, g, r0, h⟩ := h
  refine ⟨F, Γ, G, C, g, r0, ?_⟩
  unfold evI at h
  cases hA : ev Φ i Γ with
  | no => simp only [hA, Out.bind_no] at h
  | ex c Γ1 => simp only [hA, Out.bind_ex] at h ⊢; exact h
  | ok o Γ1 =>
    simp only [hA, Out.bind_ok] at h ⊢
    cases hD : escD o Γ1 with
    | no => simp only [hD, Out.bind_no] at h
    | ex c Γ2 => simp only [hD, Out.bind_ex] at h ⊢; exact h
    | ok d Γ2 =>
      simp only [hD, Out.bind_ok] at h ⊢
      intro v H1 G1 C1 e1 g1 r1 d1
      refine ⟨F, Γ2, G1, C1, g1, r1, ?_⟩
      cases hB : ev Φ j Γ2 with
      | no => simp only [hB, Out.bind_no] at h
      | ex c Γ3 => simp only [hB, Out.bind_ex] at h ⊢; exact fun H2 G2 C2 e2 g2 r2 => h H2 G2 C2 (e1.trans e2) g2 r2
      | ok o2 Γ3 =>
        simp only [hB, Out.bind_ok] at h ⊢
        cases hE : escD o2 Γ3 with
        | no => simp only [hE, Out.bind_no] at h
        | ex c Γ4 => simp only [hE, Out.bind_ex] at h ⊢; exact fun H2 G2 C2 e2 g2 r2 => h H2 G2 C2 (e1.trans e2) g2 r2
        | ok d2 Γ4 =>
          simp only [hE, Out.bind_ok] at h ⊢
          intro v2 H2 G2 C2 e2 g2 r2 d2'
          cases hI : els (.sh d) with
          | none => simp only [hI, lift_none, Out.bind_no] at h
          | some ds =>
            cases hJ : els (.sh d2) with
            | none => simp only [hI, hJ, lift_none, lift_some, Out.bind_no, Out.bind_ok] at h
            | some es =>
              simp only [hI, hJ, lift_some, Out.bind_ok] at h
              obtain ⟨l, a, vs, rfl, hs, ha⟩ := els_sh (d1.mono e2) hI
              obtain ⟨m, b, ws, rfl, hs2, ha2⟩ := els_sh d2' hJ
              exact ⟨l, m, a, b, vs, ws, rfl, hs.mono g2.ex, hs2.mono g2.ex, h _ H2 G2 C2 (e1.trans e2) g2 r2 (wlk_zip hs ha hs2 ha2)⟩
end
end Z

set_option Elab.async false
set_option linter.all false
set_option maxRecDepth 100000
namespace Z
open PySem PySem.Spec PyProof.Rows L2

/-! ### slots hidden in a block -/
def hideS (vs : List Nat) : Nat → L2.St → L2.St
  | _, [] => []
  | n, x :: σ => (if vs.contains n then none else x) :: hideS vs (n + 1) σ
theorem hideS_get (vs : List Nat) : ∀ (n : Nat) (σ : L2.St) (i : Nat), (hideS vs n σ)[i]? = (σ[i]?).map fun x => if vs.contains (n + i) then none else x
  | _, [], _ => by unfold hideS; simp
  | n, x :: σ, 0 => by unfold hideS; simp
  | n, x :: σ, i + 1 => by
    unfold hideS
    rw [List.getElem?_cons_succ, List.getElem?_cons_succ, hideS_get vs (n + 1) σ i]
    have : n + 1 + i = n + (i + 1) := by omega
    rw [this]
theorem wipe_get (σ : L2.St) : ∀ (vs : List Nat) (i : Nat), (wipe σ vs)[i]? = (σ[i]?).map fun x => if vs.contains i then none else x
  | [], i => by unfold wipe; simp
  | v :: vs, i => by
    unfold wipe
    by_cases h : v = i
    · subst h
      by_cases hl : v < σ.length
      · rw [List.getElem?_set_self (by rw [wipe_length]; exact hl), List.getElem?_eq_getElem hl]
        simp
      · rw [List.getElem?_eq_none (by rw [List.length_set, wipe_length]; omega), List.getElem?_eq_none (by omega)]
        rfl
    · rw [List.getElem?_set_ne h, wipe_get σ vs i]
      congr 1
      funext x
      have : (v :: vs).contains i = vs.contains i := by
        rw [List.contains_cons]
        have : (i == v) = false := by simp; exact fun z => h z.symm
        rw [this, Bool.false_or]
      rw [this]
theorem wipe_hide (σ : L2.St) (vs : List Nat) : wipe σ vs = hideS vs 0 σ := by
  apply List.ext_getElem?
  intro i
  rw [wipe_get, hideS_get, Nat.zero_add]
theorem hideE_len (vs : List Nat) : ∀ (n : Nat) (Γ : Env), (hideE vs n Γ).length = Γ.length
  | _, [] => rfl
  | n, x :: Γ => by unfold hideE; rw [List.length_cons, hideE_len, List.length_cons]
section
variable {K : PySem.W.Frag} {κ : Nat → Addr}
/-- slots are hidden, and come back -/
theorem RelG.hide {G : Hp} (vs : List Nat) : ∀ {σ : L2.St} {Γ : Env} {C : List Cell} (n : Nat), RelG K κ G σ Γ C → ∃ Ck Cs, RelG K κ G (hideS vs n σ) (hideE vs n Γ) Ck ∧ (∀ a, cnt a Ck + cnt a Cs ≤ cnt a C) ∧ (∀ c ∈ Ck ++ Cs, c ∈ C) ∧
    ∀ (G' : Hp) (Γ' : Env) (C' : List Cell), Same G G' → RelG K κ G' (hideS vs n σ) Γ' C' → ∃ C'', RelG K κ G' σ (backE vs n Γ Γ') C'' ∧ (∀ a, cnt a C'' ≤ cnt a C' + cnt a Cs) ∧ ∀ c ∈ C'', c ∈ C' ++ Cs
  | _, _, _, n, .nl => ⟨[], [], .nl, fun a => by simp, fun c hc => hc, fun G' Γ' C' e r => by
      unfold hideS at r
      cases r
      exact ⟨[], .nl, fun a => by simp, fun c hc => hc⟩⟩
  | _, _, _, n, .no (x := x) (σ := σ) (Γ := Γ) (C := C) h => by
    obtain ⟨Ck, Cs, r1, h1, h2, h3⟩ := h.hide vs (n + 1)
    refine ⟨Ck, Cs, ?_, h1, h2, fun G' Γ' C' e r => ?_⟩
    · unfold hideS hideE
      simp only [ite_self]
      exact .no r1
    · unfold hideS at r
      by_cases hn : vs.contains n = true
      · rw [if_pos hn] at r
        cases r with
        | @no _ _ Γ2 _ r =>
          obtain ⟨C'', a, b, c⟩ := h3 G' _ _ e r
          refine ⟨C'', ?_, b, c⟩
          unfold backE
          simp only [ite_self]
          exact .no a
      · rw [if_neg hn] at r
        cases r with
        | @no _ _ Γ2 _ r =>
          obtain ⟨C'', a, b, c⟩ := h3 G' _ _ e r
          refine ⟨C'', ?_, b, c⟩
          unfold backE
          simp only [ite_self]
          exact .no a
        | @sm v t _ Γ2 C1 C2 ht r =>
          obtain ⟨C'', a, b, c⟩ := h3 G' _ _ e r
          refine ⟨C1 ++ C'', ?_, fun x => ?_, fun x hc => ?_⟩
          · unfold backE
            rw [if_neg hn]
            exact .sm ht a
          · have := b x; simp; omega
          · simp only [List.mem_append] at hc ⊢
            rcases hc with hc | hc
            · exact .inl (.inl hc)
            · have := c x hc
              simp only [List.mem_append] at this
              rcases this with z | z
              · exact .inl (.inr z)
              · exact .inr z
  | _, _, _, n, .sm (v := v) (t := t) (σ := σ) (Γ := Γ) (C := C1) (C' := C2) ht h => by
    obtain ⟨Ck, Cs, r1, h1, h2, h3⟩ := h.hide vs (n + 1)
    by_cases hn : vs.contains n = true
    · refine ⟨Ck, C1 ++ Cs, ?_, fun a => ?_, fun c hc => ?_, fun G' Γ' C' e r => ?_⟩
      · unfold hideS hideE
        rw [if_pos hn, if_pos hn]
        exact .no r1
      · have := h1 a; simp; omega
      · simp only [List.mem_append] at hc ⊢
        rcases hc with hc | hc | hc
        · exact .inr (h2 c (List.mem_append_left _ hc))
        · exact .inl hc
        · exact .inr (h2 c (List.mem_append_right _ hc))
      · unfold hideS at r
        rw [if_pos hn] at r
        cases r with
        | @no _ _ Γ2 _ r =>
          obtain ⟨C'', a, b, c⟩ := h3 G' _ _ e r
          refine ⟨C1 ++ C'', ?_, fun x => ?_, fun x hc => ?_⟩
          · unfold backE
            rw [if_pos hn]
            exact .sm (ht.mono e) a
          · have := b x; simp; omega
          · simp only [List.mem_append] at hc ⊢
            rcases hc with hc | hc
            · exact .inr (.inl hc)
            · have := c x hc
              simp only [List.mem_append] at this
              rcases this with z | z
              · exact .inl z
              · exact .inr (.inr z)
    · refine ⟨C1 ++ Ck, Cs, ?_, fun a => ?_, fun c hc => ?_, fun G' Γ' C' e r => ?_⟩
      · unfold hideS hideE
        rw [if_neg hn, if_neg hn]
        exact .sm ht r1
      · have := h1 a; simp; omega
      · simp only [List.mem_append] at hc ⊢
        rcases hc with (hc | hc) | hc
        · exact .inl hc
        · exact .inr (h2 c (List.mem_append_left _ hc))
        · exact .inr (h2 c (List.mem_append_right _ hc))
      · unfold hideS at r
        rw [if_neg hn] at r
        cases r with
        | @no _ _ Γ2 _ r =>
          obtain ⟨C'', a, b, c⟩ := h3 G' _ _ e r
          refine ⟨C'', ?_, b, c⟩
          unfold backE
          rw [if_neg hn]
          exact .no a
        | @sm _ t2 _ Γ2 D1 D2 ht2 r =>
          obtain ⟨C'', a, b, c⟩ := h3 G' _ _ e r
          refine ⟨D1 ++ C'', ?_, fun x => ?_, fun x hc => ?_⟩
          · unfold backE
            rw [if_neg hn]
            exact .sm ht2 a
          · have := b x; simp; omega
          · simp only [List.mem_append] at hc ⊢
            rcases hc with hc | hc
            · exact .inl (.inl hc)
            · have := c x hc
              simp only [List.mem_append] at this
              rcases this with z | z
              · exact .inl (.inr z)
              · exact .inr z
end
/-! ### targets -/
def setV (σ : L2.St) : List Nat → List V → L2.St
  | i :: is, v :: vs => setV (σ.set i (some v)) is vs
  | _, _ => σ
/-- what a target does -/
def TgDoes (K : PySem.W.Frag) (τ : Tb) (g : TG) (one : Bool) (is : List Nat) : Prop := ∀ (σ : L2.St) (H : Hp) (Q : L2.St → Hp → Prop) (v : V) (d : D) (Γ Γ' : Env) (G : Hp) (C F : List Cell), Good G (C ++ F) H → RelG K τ.κ G σ Γ C → Dp K G v d → bindTg one is d Γ = some Γ' →
  (∀ ws C', Good G (C' ++ F) H → RelG K τ.κ G (setV σ is ws) Γ' C' → Q (setV σ is ws) H) → g v σ H Q
structure TgOk (X : Cx) (τ : Tb) (tg : Expr) (one : Bool) (is : List Nat) : Prop where
  ok : ∃ g, PG X tg g ∧ TgDoes X.K τ g one is
def gNames : List Nat → TGs
  | [] => gNil
  | i :: is => gCons (gName i) (gNames is)
section
variable {X : Cx} {τ : Tb} {W : WX} {K : PySem.W.Frag} {Φ : Nat → List T → FOut}
theorem tg_one {i : Nat} {x : Str} {pos : Pos} (hN : X.N.Nodup) (hi : X.N[i]? = some x) (hx : Loc X.env.scope x) (hf : X.fn x = true ∨ X.env.scope.names.lookup x = some .local) : TgOk X τ (.Name x pos) true [i] := by
  refine ⟨gName i, pg_name hN hi hx hf, fun σ H Q v d Γ Γ' G C F g r hd e h => ?_⟩
  unfold bindTg at e
  cases e
  obtain ⟨C', r', a, b⟩ := r.set (i := i) (RelT.sh hd)
  exact h [v] C' (g.re (fun x => by have := a x; simp at this ⊢; omega) (fun c hc => by have := b c; simp at hc this ⊢; grind)) r'
theorem gNames_ok {G : Hp} : ∀ (is : List Nat) (vs : List V) (ds : List D) (σ : L2.St) (H : Hp) (Q : L2.St → Hp → Prop) (Γ Γ' : Env) (C F : List Cell), Good G (C ++ F) H → RelG K τ.κ G σ Γ C → DpAll K G vs ds → setAll Γ is ds = some Γ' →
    (∀ ws C', Good G (C' ++ F) H → RelG K τ.κ G (setV σ is ws) Γ' C' → Q (setV σ is ws) H) → gNames is vs σ H Q
  | [], vs, ds, σ, H, Q, Γ, Γ', C, F, g, r, hd, e, h => by
    cases ds with
    | nil => cases hd; unfold setAll at e; cases e; exact ⟨rfl, h [] C g r⟩
    | cons d ds => unfold setAll at e; cases e
  | i :: is, vs, ds, σ, H, Q, Γ, Γ', C, F, g, r, hd, e, h => by
    cases ds with
    | nil => unfold setAll at e; cases e
    | cons d ds =>
      cases hd with
      | @cons v vs _ _ h1 h2 =>
        unfold setAll at e
        obtain ⟨C', r', a, b⟩ := r.set (i := i) (RelT.sh h1)
        refine ⟨v, vs, rfl, ?_⟩
        show gNames is vs (σ.set i (some v)) H Q
        exact gNames_ok is vs ds _ H Q _ Γ' C' F (g.re (fun x => by have := a x; simp at this ⊢; omega) (fun c hc => by have := b c; simp at hc this ⊢; grind)) r' h2 e fun ws C2 g2 r2 => h (v :: ws) C2 g2 r2
theorem setAll_len : ∀ {is : List Nat} {ds : List D} {Γ Γ' : Env}, setAll Γ is ds = some Γ' → ds.length = is.length
  | [], [], _, _, _ => rfl
  | [], _ :: _, _, _, e => by unfold setAll at e; cases e
  | _ :: _, [], _, _, e => by unfold setAll at e; cases e
  | i :: is, d :: ds, Γ, Γ', e => by unfold setAll at e; simp [setAll_len e]
theorem tg_tup {es : List Expr} {is : List Nat} {k : Nat} {pos : Pos} (hc : X.calm = true) (h : PGs X es (gNames is)) (hn : (assignEach es X.env).length = is.length) (hst : (assignEach es X.env).findIdx? (·.1) = none) : TgOk X τ (.Tuple es k pos) false is := by
  refine ⟨_, pg_tup hc h hn hst, fun σ H Q v d Γ Γ' G C F g r hd e h => ?_⟩
  cases hd with
  | @tup a vs ds hs ha =>
    unfold bindTg at e
    exact ⟨a, vs, rfl, g.ex.sqT hs, by rw [DpAll.len ha, setAll_len e], gNames_ok is vs ds σ H Q Γ Γ' C F g r ha e h⟩
  | non => unfold bindTg at e; cases e
  | bl _ => unfold bindTg at e; cases e
  | int _ => unfold bindTg at e; cases e
  | str _ => unfold bindTg at e; cases e
  | lst _ _ => unfold bindTg at e; cases e
theorem setV_len : ∀ (is : List Nat) (ws : List V) (σ : L2.St), (setV σ is ws).length = σ.length
  | [], _, _ => rfl
  | _ :: _, [], _ => rfl
  | i :: is, w :: ws, σ => by unfold setV; rw [setV_len, List.length_set]
theorem setV_get : ∀ (is : List Nat) (ws : List V) (σ : L2.St) (j : Nat), j ∉ is → (setV σ is ws)[j]? = σ[j]?
  | [], _, _, _, _ => rfl
  | _ :: _, [], _, _, _ => rfl
  | i :: is, w :: ws, σ, j, h => by
    unfold setV
    rw [setV_get is ws _ j (fun z => h (List.mem_cons_of_mem _ z)), List.getElem?_set_ne (fun z => h (by rw [z]; exact List.mem_cons_self))]
theorem wipe_setV {σ : L2.St} {vs is : List Nat} {ws : List V} (h : ∀ i ∈ is, i ∈ vs) : wipe (setV (wipe σ vs) is ws) vs = wipe σ vs := by
  apply List.ext_getElem?
  intro j
  rw [wipe_get]
  by_cases hj : j ∈ is
  · have hv : vs.contains j = true := by simpa using h j hj
    rw [wipe_get]
    by_cases hl : j < σ.length
    · rw [List.getElem?_eq_getElem (by rw [setV_len, wipe_length]; exact hl), List.getElem?_eq_getElem hl]
      simp [hv, h j hj]
    · rw [List.getElem?_eq_none (by rw [setV_len, wipe_length]; omega), List.getElem?_eq_none (by omega)]
  · rw [setV_get is ws _ j hj, wipe_get]
    cases σ[j]? with
    | none => rfl
    | some x =>
      by_cases hv : j ∈ vs
      · simp [hv]
      · simp [hv]

/-! ### comprehensions -/
/-- what an element is: a tree; by its flag it stays owned -/
def evElt (Φ : Nat → List T → FOut) (elt : E) (own : Bool) (Γ : Env) : Out T := (ev Φ elt Γ).bind fun o Γ => (esc o Γ).bind fun t Γ => if own then .ok t Γ else (fzO t Γ).bind fun d Γ => .ok (.sh d) Γ
def noW : WX := fun _ _ _ _ => False
theorem elt_ok {elt : E} {own : Bool} {σ : L2.St} {H : Hp} {Q : VK} {F : List Cell} {Γ : Env} {G : Hp} {C : List Cell} (g : Good G (C ++ F) H) (r : RelG K τ.κ G σ Γ C)
    (h : ∃ t Γ', evElt Φ elt own Γ = .ok t Γ' ∧ ∀ v H' G' C' Ct, Same G G' → Good G' (Ct ++ (C' ++ F)) H' → RelG K τ.κ G' σ Γ' C' → RelT K τ.κ G' v t Ct → Q v H') : tO K τ W (ev Φ elt) (spure elt) σ H Q := by
  obtain ⟨t, Γ', e, h⟩ := h
  refine ⟨F, Γ, G, C, g, r, ?_⟩
  unfold evElt at e
  cases hA : ev Φ elt Γ with
  | no => rw [hA] at e; cases e
  | ex c Γ1 => rw [hA] at e; cases e
  | ok o Γ1 =>
    simp only [hA, Out.bind_ok] at e
    intro v H1 G1 C1 Co e1 g1 r1 o1 sp
    cases hE : esc o Γ1 with
    | no => rw [hE] at e; cases e
    | ex c Γ2 => rw [hE] at e; cases e
    | ok t1 Γ2 =>
      simp only [hE, Out.bind_ok] at e
      obtain ⟨G2, C2, Ct, e2, g2, r2, t2⟩ := o1.esc g1 r1 hE
      cases own with
      | true =>
        simp at e
        obtain ⟨rfl, rfl⟩ := e
        exact h v H1 G2 C2 Ct (e1.trans e2) g2 r2 t2
      | false =>
        simp only [Bool.false_eq_true, if_false] at e
        unfold fzO at e
        cases hz : t1.fz with
        | none => rw [hz] at e; cases e
        | some d =>
          rw [hz] at e
          cases e
          obtain ⟨G3, e3, g3, d3⟩ := t2.freeze g2 hz
          exact h v H1 G3 C2 [] (e1.trans (e2.trans e3)) g3 (r2.mono e3) (.sh d3)
theorem relTs_snoc {G : Hp} {v : V} {t : T} {Ct : List Cell} : ∀ {vs : List V} {ts : List T} {C : List Cell}, RelTs K τ.κ G vs ts C → RelT K τ.κ G v t Ct → RelTs K τ.κ G (vs ++ [v]) (ts ++ [t]) (C ++ Ct)
  | _, _, _, .nil, h => by
    have := RelTs.cons h (RelTs.nil (K := K) (κ := τ.κ) (G := G))
    rw [List.append_nil] at this
    exact this
  | _, _, _, .cons h1 h2, h => by
    rw [List.append_assoc]
    exact .cons h1 (relTs_snoc h2 h)
/-- the rest of a run, behind what is made so far -/
def lcRest (turn : D → Env → Out (List T)) (acc : List T) (ds : List D) (Γ : Env) : Out (List T) := (lcRun turn ds Γ).bind fun ts Γ => .ok (acc ++ ts) Γ
theorem lcRest_cons {turn : D → Env → Out (List T)} {acc : List T} {d : D} {ds : List D} {Γ : Env} {ts : List T} {Γ' : Env} (h : lcRest turn acc (d :: ds) Γ = .ok ts Γ') : ∃ o Γ1, turn d Γ = .ok o Γ1 ∧ lcRest turn (acc ++ o) ds Γ1 = .ok ts Γ' := by
  unfold lcRest lcRun at h
  cases hT : turn d Γ with
  | no => rw [hT] at h; cases h
  | ex c Γ1 => rw [hT] at h; cases h
  | ok o Γ1 =>
    rw [hT] at h
    simp only [Out.bind_ok] at h
    refine ⟨o, Γ1, rfl, ?_⟩
    unfold lcRest
    cases hR : lcRun turn ds Γ1 with
    | no => rw [hR] at h; cases h
    | ex c Γ2 => rw [hR] at h; cases h
    | ok us Γ2 =>
      rw [hR] at h
      simp only [Out.bind_ok] at h ⊢
      simpa using h
theorem lc_all {wi : TI} {g : TG} {tt : TT} {te : TE} {elt : E} {tg vs : List Nat} {one own : Bool} {src : I} {c : B} (hsub : ∀ i ∈ tg, i ∈ vs)
    (hg : TgDoes K τ g one tg)
    (ht : ∀ σ H Q, tB K τ noW (evB Φ false c) (spureB c) σ H Q → tt σ H Q)
    (he : ∀ σ H Q, tO K τ noW (ev Φ elt) (spure elt) σ H Q → te σ H Q)
    (hi : ∀ σ H R, tI K τ W (evI Φ src) σ H R → wi σ H R) (σ : L2.St) (H : Hp) (Q : VK)
    (h : tO K τ W (ev Φ (.lc elt tg one src c vs own)) false σ H Q) : tLc wi g tt te vs σ H Q := by
  obtain ⟨F, Γ, G, C, gd, r0, h⟩ := h
  refine hi σ H _ ⟨F, Γ, G, C, gd, r0, ?_⟩
  unfold ev at h
  cases hS : evI Φ src Γ with
  | no => simp only [hS, Out.bind_no] at h
  | ex c Γ1 => simp only [hS, Out.bind_ex] at h ⊢; exact h
  | ok ds Γ1 =>
    simp only [hS, Out.bind_ok] at h ⊢
    intro J H1 G1 C1 e1 g1 r1 w1 D hD
    by_cases hln : lineOk ds.length = true
    case neg => rw [if_neg hln] at h; exact h.elim
    rw [if_pos hln] at h
    generalize hturn : lcTurn (bindTg one tg) (evB Φ false c) (fun Γ => (ev Φ elt Γ).bind fun o Γ => (esc o Γ).bind fun t Γ => if own then .ok t Γ else (fzO t Γ).bind fun d Γ => .ok (.sh d) Γ) vs = turn at h
    have hturn' : lcTurn (bindTg one tg) (evB Φ false c) (evElt Φ elt own) vs = turn := hturn
    obtain ⟨Ck, Cs, rk, k1, k2, kback⟩ := r1.hide vs 0
    cases hRun : lcRun turn ds (wipeΓ Γ1 vs) with
    | no => simp only [hRun, Out.bind_no, noEx] at h
    | ex c Γ2 => simp only [hRun, Out.bind_ex, noEx] at h
    | ok ts Γ2 =>
      simp only [hRun, Out.bind_ok, noEx] at h
      have wk : L2.Walk J ds.length (fun H => Same G1 H) J.yld := ⟨fun i H hi hs => w1.goes i H hs hi, fun H hs => w1.stops H hs, fun i H x H' _ _ y => y⟩
      have g0 : Good G1 (Ck ++ (Cs ++ F)) H1 := g1.re (fun a => by have := k1 a; simp; omega) (fun c hc => by
        simp only [List.mem_append] at hc ⊢
        rcases hc with hc | hc | hc
        · exact .inl (k2 c (List.mem_append_left _ hc))
        · exact .inl (k2 c (List.mem_append_right _ hc))
        · exact .inr hc)
      have hw : wipe σ vs = hideS vs 0 σ := wipe_hide σ vs
      refine lc_it wk (fun i H2 => ∃ (G2 : Hp) (C2 Ca : List Cell) (va : List V) (acc : List T) (Γi : Env), Same G1 G2 ∧ Good G2 ((D, .lst va) :: (Ca ++ (C2 ++ (Cs ++ F)))) H2 ∧ RelG K τ.κ G2 (wipe σ vs) Γi C2 ∧ RelTs K τ.κ G2 va acc Ca ∧ acc.length ≤ i ∧ lcRest turn acc (ds.drop i) Γi = .ok ts Γ2) ?_ ?_ ?_ ?_
      · refine ⟨G1, Ck, [], [], [], wipeΓ Γ1 vs, L2.Same.refl G1, g0.new _ hD, by rw [hw]; exact rk, .nil, Nat.le_refl _, ?_⟩
        unfold lcRest
        rw [List.drop_zero, hRun]
        rfl
      · rintro i H2 hi ⟨G2, C2, Ca, va, acc, Γi, s2, g2, _⟩
        exact s2.trans g2.ex
      · rintro i x H2 H3 hi ⟨G2, C2, Ca, va, acc, Γi, s2, g2, r2, t2, l2, hrest⟩ hy
        have hd : ds[i]? = some ds[i] := List.getElem?_eq_getElem hi
        rw [List.drop_eq_getElem_cons hi] at hrest
        obtain ⟨o, Γj, hT, hrest⟩ := lcRest_cons hrest
        obtain ⟨G3, s3, g3, d3⟩ := (w1.mono s2).item g2 hd hy
        rw [← hturn'] at hT
        unfold lcTurn at hT
        cases hB : bindTg one tg ds[i] Γi with
        | none => rw [hB] at hT; cases hT
        | some Γb =>
          simp only [hB, lift_some, Out.bind_ok] at hT
          have g3' : Good G3 (C2 ++ ((D, HO.lst va) :: (Ca ++ (Cs ++ F)))) H3 := g3.re (fun a => by simp; omega) (fun c hc => by simp at hc ⊢; grind)
          refine hg (wipe σ vs) H3 _ x ds[i] Γi Γb G3 C2 _ g3' (r2.mono s3) d3 hB fun ws C4 g4 r4 => ⟨wipe_setV hsub, ht _ _ _ ⟨_, Γb, G3, C4, g4, r4, ?_⟩⟩
          cases hC : evB Φ false c Γb with
          | no => rw [hC] at hT; cases hT
          | ex c Γ5 => rw [hC] at hT; cases hT
          | ok b Γc =>
            simp only [hC, Out.bind_ok] at hT ⊢
            intro H5 G5 C5 e5 g5 r5 _
            have wback : wipe (setV (wipe σ vs) tg ws) vs = wipe σ vs := wipe_setV hsub
            cases b with
            | false =>
              show ∃ G2 C2 Ca va acc Γi, _
              simp at hT
              obtain ⟨rfl, rfl⟩ := hT
              obtain ⟨Ck', Cs', rk', p1, p2, _⟩ := r5.hide vs 0
              rw [← wipe_hide, wback] at rk'
              refine ⟨G5, Ck', Ca, va, acc, wipeΓ Γc vs, s2.trans (s3.trans e5), g5.re (fun a => by have := p1 a; simp; omega) (fun c hc => by
                simp only [List.mem_append, List.mem_cons] at hc ⊢
                have := p2 c
                simp only [List.mem_append] at this
                grind), rk', t2.mono (s3.trans e5), by omega, by simpa using hrest⟩
            | true =>
              show te _ H5 _
              simp only [if_true] at hT
              cases hE : evElt Φ elt own Γc with
              | no => rw [hE] at hT; cases hT
              | ex c Γ6 => rw [hE] at hT; cases hT
              | ok t Γ6 =>
                rw [hE] at hT
                simp at hT
                obtain ⟨rfl, rfl⟩ := hT
                refine he _ _ _ (elt_ok g5 r5 ⟨t, Γ6, hE, fun v H7 G7 C7 Ct e7 g7 r7 t7 => ?_⟩)
                have hl : va.length < sizeLine := by
                  rw [t2.len]
                  exact line_lt (n := acc.length) (by
                    have : ds.length ≤ 1000000 := of_decide_eq_true hln
                    exact decide_eq_true (by omega))
                refine ⟨va, (g7.mem (D, .lst va) (by simp)).1, hl, ?_⟩
                obtain ⟨Ck', Cs', rk', p1, p2, _⟩ := r7.hide vs 0
                rw [← wipe_hide, wback] at rk'
                have g8 : Good G7 ((D, HO.lst va) :: ((Ca ++ Ct) ++ (Ck' ++ (Cs ++ F)))) H7 := g7.re (fun a => by have := p1 a; simp; omega) (fun c hc => by
                  simp only [List.mem_append, List.mem_cons] at hc ⊢
                  have := p2 c
                  simp only [List.mem_append] at this
                  grind)
                refine ⟨G7, Ck', Ca ++ Ct, va ++ [v], acc ++ [t], wipeΓ Γ6 vs, s2.trans (s3.trans (e5.trans e7)), g8.set _, rk', relTs_snoc (t2.mono (s3.trans (e5.trans e7))) t7, by rw [List.length_append]; simp; omega, by simpa using hrest⟩
      · rintro H2 ⟨G2, C2, Ca, va, acc, Γi, s2, g2, r2, t2, l2, hrest⟩
        rw [List.drop_length] at hrest
        unfold lcRest lcRun at hrest
        simp at hrest
        obtain ⟨rfl, rfl⟩ := hrest
        rw [hw] at r2
        obtain ⟨C'', rb, b1, b2⟩ := kback G2 Γi C2 s2 r2
        exact h (.ref D) H2 G2 C'' ((D, .lst va) :: Ca) (e1.trans s2) (g2.re (fun a => by have := b1 a; simp; omega) (fun c hc => by
          simp only [List.mem_append, List.mem_cons] at hc ⊢
          have := b2 c
          simp only [List.mem_append] at this
          grind)) rb (.ol t2) (fun z => nomatch z)
end
end Z

set_option Elab.async false
set_option linter.all false
set_option maxRecDepth 100000
namespace Z
open PySem PySem.Spec PyProof.Rows L2

/-- a target's reading, by its slots -/
def gOf (K : PySem.W.Frag) : Bool → List Nat → TG
  | true, [i] => gName i
  | false, is => gTup K is.length (gNames is)
  | true, _ => fun _ _ _ _ => False
theorem gOf_does {K : PySem.W.Frag} {τ : Tb} {one : Bool} {is : List Nat} : TgDoes K τ (gOf K one is) one is := by
  intro σ H Q v d Γ Γ' G C F g r hd e h
  cases one with
  | false =>
    cases hd with
    | @tup a vs ds hs ha =>
      unfold bindTg at e
      exact ⟨a, vs, rfl, g.ex.sqT hs, by rw [DpAll.len ha, setAll_len e], gNames_ok is vs ds σ H Q Γ Γ' C F g r ha e h⟩
    | non => unfold bindTg at e; cases e
    | bl _ => unfold bindTg at e; cases e
    | int _ => unfold bindTg at e; cases e
    | str _ => unfold bindTg at e; cases e
    | lst _ _ => unfold bindTg at e; cases e
  | true =>
    match is, e with
    | [], e => unfold bindTg at e; cases e
    | _ :: _ :: _, e => unfold bindTg at e; cases e
    | [i], e =>
      unfold bindTg at e
      cases e
      obtain ⟨C', r', a, b⟩ := r.set (i := i) (RelT.sh hd)
      exact h [v] C' (g.re (fun x => by have := a x; simp at this ⊢; omega) (fun c hc => by have := b c; simp at hc this ⊢; grind)) r'
section
variable {X : Cx} {τ : Tb} {W : WX} {K : PySem.W.Frag} {Φ : Nat → List T → FOut}
theorem pts_tt {ifs : List Expr} (h : ifs = []) : PTs X ifs (tB X.K τ noW (evB Φ false .tt) (spureB .tt)) := by
  subst h
  refine ⟨fun pins s σ H Q I h => pts_nil.run pins s σ H Q I ?_⟩
  obtain ⟨F, Γ, G, C, g, r, h⟩ := h
  exact h H G C (L2.Same.refl G) g r (fun _ => ⟨rfl, rfl⟩)
theorem s_lc {elt tg iter : Expr} {ifs : List Expr} {scope : Scope} {own : List (Str × Nat)} {pos : Pos} {ie : E} {is : List Nat} {one ow : Bool} {src : I} {c : B} (hc : X.calm = true) (hN : X.N.Nodup) (ok : BlkOk X.N X.env.scope scope own)
    (hsub : ∀ i ∈ is, i ∈ own.map (·.2)) (hi : PI X tg iter (tI X.K τ W (evI Φ src)))
    (hg : ∀ (s : Shared) (H : Hp) (C : Addr) (cl : List (Str × Addr)) (fp : List Addr), PG (X.blk s H scope (compEnvC scope cl C X.env) fp) tg (gOf X.K one is))
    (ht : ∀ (s : Shared) (H : Hp) (C : Addr) (cl : List (Str × Addr)) (fp : List Addr), PTs (X.blk s H scope (compEnvC scope cl C X.env) fp) ifs (tB X.K τ noW (evB Φ false c) (spureB c)))
    (he : ∀ (s : Shared) (H : Hp) (C : Addr) (cl : List (Str × Addr)) (fp : List Addr), PE (X.blk s H scope (compEnvC scope cl C X.env) fp) elt (tO X.K τ noW (ev Φ ie) (spure ie)))
    (hs : ∀ x, foldedSetIterable iter X.env x = pure x) :
    PE X (.ListComp elt [⟨tg, iter, ifs, 0⟩] scope pos) (tO X.K τ W (ev Φ (.lc ie is one src c (own.map (·.2)) ow)) false) :=
  (pe_lc hc hN hi ok hg ht he hs).imp fun σ H Q h => lc_all hsub gOf_does (fun _ _ _ h => h) (fun _ _ _ h => h) (fun _ _ _ h => h) σ H Q h

theorem wipe_wipe {σ : L2.St} {vs vs1 : List Nat} (h : ∀ i ∈ vs1, i ∈ vs) : wipe (wipe σ vs1) vs = wipe σ vs := by
  apply List.ext_getElem?
  intro j
  rw [wipe_get, wipe_get, wipe_get]
  cases σ[j]? with
  | none => rfl
  | some x =>
    simp only [Option.map_some]
    by_cases h1 : j ∈ vs
    · simp [h1]
    · have : j ∉ vs1 := fun z => h1 (h j z)
      simp [h1, this]
theorem lcRest_len {turn : D → Env → Out (List T)} {acc : List T} {ds : List D} {Γ : Env} {ts : List T} {Γ' : Env} (h : lcRest turn acc ds Γ = .ok ts Γ') : acc.length ≤ ts.length := by
  unfold lcRest at h
  cases hR : lcRun turn ds Γ with
  | no => rw [hR] at h; cases h
  | ex c Γ2 => rw [hR] at h; cases h
  | ok us Γ2 =>
    rw [hR] at h
    cases h
    simp
/-- the element as data -/
def evEltD (Φ : Nat → List T → FOut) (elt : E) (Γ : Env) : Out T := (ev Φ elt Γ).bind fun o Γ => (escD o Γ).bind fun d Γ => .ok (.sh d) Γ
theorem eltD_eq {elt : E} {Γ : Env} {t : T} {Γ' : Env} (h : evEltD Φ elt Γ = .ok t Γ') : evElt Φ elt false Γ = .ok t Γ' := by
  unfold evEltD escD at h
  unfold evElt
  cases hA : ev Φ elt Γ with
  | no => rw [hA] at h; cases h
  | ex c Γ2 => rw [hA] at h; cases h
  | ok o Γ1 =>
    rw [hA] at h
    simp only [Out.bind_ok] at h ⊢
    cases hE : esc o Γ1 with
    | no => rw [hE] at h; cases h
    | ex c Γ2 => rw [hE] at h; cases h
    | ok t1 Γ2 =>
      rw [hE] at h
      simp only [Out.bind_ok] at h ⊢
      simpa using h
theorem lc2_all {wi wi1 : TI} {g g1 : TG} {tt tt1 : TT} {te : TE} {elt : E} {tg tg1 vs vs1 : List Nat} {one one1 : Bool} {src src1 : I} (hsub : ∀ i ∈ tg, i ∈ vs) (hsub1 : ∀ i ∈ tg1, i ∈ vs1) (hvs : ∀ i ∈ vs1, i ∈ vs)
    (hg : TgDoes K τ g one tg) (hg1 : TgDoes K τ g1 one1 tg1)
    (ht : ∀ σ H Q, Q true H → tt σ H Q) (ht1 : ∀ σ H Q, Q true H → tt1 σ H Q)
    (he : ∀ σ H Q, tO K τ noW (ev Φ elt) (spure elt) σ H Q → te σ H Q)
    (hi : ∀ σ H R, tI K τ W (evI Φ src) σ H R → wi σ H R) (hi1 : ∀ σ H R, tI K τ noW (evI Φ src1) σ H R → wi1 σ H R) (σ : L2.St) (H : Hp) (Q : VK)
    (h : tO K τ W (ev Φ (.lc2 elt tg one src tg1 one1 src1 vs vs1)) false σ H Q) : tLc2 wi g tt wi1 g1 tt1 te vs vs1 σ H Q := by
  obtain ⟨F, Γ, G, C, gd, r0, h⟩ := h
  refine hi σ H _ ⟨F, Γ, G, C, gd, r0, ?_⟩
  unfold ev at h
  cases hS : evI Φ src Γ with
  | no => simp only [hS, Out.bind_no] at h
  | ex c Γ1 => simp only [hS, Out.bind_ex] at h ⊢; exact h
  | ok ds Γ1 =>
    simp only [hS, Out.bind_ok] at h ⊢
    intro J H1 G1 C1 e1 g1' r1 w1 D hD
    generalize hturn1 : lcTurn (bindTg one1 tg1) (fun Γ => Out.ok true Γ) (fun Γ => (ev Φ elt Γ).bind fun o Γ => (escD o Γ).bind fun d Γ => .ok (.sh d) Γ) vs1 = turn1 at h
    have hturn1' : lcTurn (bindTg one1 tg1) (fun Γ => Out.ok true Γ) (evEltD Φ elt) vs1 = turn1 := hturn1
    generalize hturn : lc2Turn (bindTg one tg) (evI Φ src1) turn1 vs vs1 = turn at h
    obtain ⟨Ck, Cs, rk, k1, k2, kback⟩ := r1.hide vs 0
    cases hRun : lcRun turn ds (wipeΓ Γ1 vs) with
    | no => simp only [hRun, Out.bind_no, noEx] at h
    | ex c Γ2 => simp only [hRun, Out.bind_ex, noEx] at h
    | ok ts Γ2 =>
      simp only [hRun, Out.bind_ok] at h
      by_cases hln : lineOk ts.length = true
      case neg => rw [if_neg hln] at h; exact h.elim
      rw [if_pos hln] at h
      simp only [noEx] at h
      have wk : L2.Walk J ds.length (fun H => Same G1 H) J.yld := ⟨fun i H hi hs => w1.goes i H hs hi, fun H hs => w1.stops H hs, fun i H x H' _ _ y => y⟩
      have g0 : Good G1 (Ck ++ (Cs ++ F)) H1 := g1'.re (fun a => by have := k1 a; simp; omega) (fun c hc => by
        simp only [List.mem_append] at hc ⊢
        rcases hc with hc | hc | hc
        · exact .inl (k2 c (List.mem_append_left _ hc))
        · exact .inl (k2 c (List.mem_append_right _ hc))
        · exact .inr hc)
      have hw : wipe σ vs = hideS vs 0 σ := wipe_hide σ vs
      refine ⟨fun i m H2 => m = ds.length - i ∧ i ≤ ds.length ∧ ∃ (G2 : Hp) (C2 Ca : List Cell) (va : List V) (acc : List T) (Γi : Env), Same G1 G2 ∧ Good G2 ((D, .lst va) :: (Ca ++ (C2 ++ (Cs ++ F)))) H2 ∧ RelG K τ.κ G2 (wipe σ vs) Γi C2 ∧ RelTs K τ.κ G2 va acc Ca ∧ lcRest turn acc (ds.drop i) Γi = .ok ts Γ2, ?_, ?_⟩
      · refine ⟨ds.length, by simp, Nat.zero_le _, G1, Ck, [], [], [], wipeΓ Γ1 vs, L2.Same.refl G1, g0.new _ hD, by rw [hw]; exact rk, .nil, ?_⟩
        unfold lcRest
        rw [List.drop_zero, hRun]
        rfl
      · rintro i m H2 ⟨rfl, hil, G2, C2, Ca, va, acc, Γi, s2, g2, r2, t2, hrest⟩
        by_cases hlt : i < ds.length
        case neg =>
          have e : i = ds.length := by omega
          subst e
          rw [List.drop_length] at hrest
          unfold lcRest lcRun at hrest
          simp at hrest
          obtain ⟨rfl, rfl⟩ := hrest
          rw [hw] at r2
          obtain ⟨C'', rb, b1, b2⟩ := kback G2 Γi C2 s2 r2
          refine .inl ⟨w1.stops H2 (s2.trans g2.ex), h (.ref D) H2 G2 C'' ((D, .lst va) :: Ca) (e1.trans s2) (g2.re (fun a => by have := b1 a; simp; omega) (fun c hc => by
            simp only [List.mem_append, List.mem_cons] at hc ⊢
            have := b2 c
            simp only [List.mem_append] at this
            grind)) rb (.ol t2) (fun z => nomatch z)⟩
        rw [List.drop_eq_getElem_cons hlt] at hrest
        obtain ⟨o, Γj, hT, hrest⟩ := lcRest_cons hrest
        refine .inr ⟨w1.goes i H2 (s2.trans g2.ex) hlt, fun H2 => ∃ (G2 : Hp) (C2 Ca : List Cell) (va : List V) (acc : List T) (Γi : Env), Same G1 G2 ∧ Good G2 ((D, .lst va) :: (Ca ++ (C2 ++ (Cs ++ F)))) H2 ∧ RelG K τ.κ G2 (wipe σ vs) Γi C2 ∧ RelTs K τ.κ G2 va acc Ca ∧ lcRest turn acc (ds.drop (i + 1)) Γi = .ok ts Γ2, fun H' p' => ⟨ds.length - (i + 1), by omega, rfl, hlt, p'⟩, fun x H3 hy => ?_⟩
        have hd : ds[i]? = some ds[i] := List.getElem?_eq_getElem hlt
        obtain ⟨G3, s3, g3, d3⟩ := (w1.mono s2).item g2 hd hy
        rw [← hturn] at hT
        unfold lc2Turn at hT
        cases hB : bindTg one tg ds[i] Γi with
        | none => rw [hB] at hT; cases hT
        | some Γb =>
          simp only [hB, lift_some, Out.bind_ok] at hT
          have g3' : Good G3 (C2 ++ ((D, HO.lst va) :: (Ca ++ (Cs ++ F)))) H3 := g3.re (fun a => by simp; omega) (fun c hc => by simp at hc ⊢; grind)
          refine hg (wipe σ vs) H3 _ x ds[i] Γi Γb G3 C2 _ g3' (r2.mono s3) d3 hB fun ws C4 g4 r4 => ⟨wipe_setV hsub, ht _ _ _ ?_⟩
          have wback : wipe (setV (wipe σ vs) tg ws) vs = wipe σ vs := wipe_setV hsub
          generalize setV (wipe σ vs) tg ws = σ2 at r4 wback ⊢
          rw [if_pos rfl]
          refine hi1 _ _ _ ⟨_, Γb, G3, C4, g4, r4, ?_⟩
          cases hS1 : evI Φ src1 Γb with
          | no => simp only [hS1, Out.bind_no] at hT; cases hT
          | ex c Γ5 => simp only [hS1, Out.bind_ex] at hT; cases hT
          | ok ds1 Γc =>
            simp only [hS1, Out.bind_ok] at hT ⊢
            intro J1 H5 G5 C5 e5 g5 r5 w5
            obtain ⟨Ck5, Cs5, rk5, p51, p52, _⟩ := r5.hide vs1 0
            rw [← wipe_hide] at rk5
            cases hR1 : lcRun turn1 ds1 (wipeΓ Γc vs1) with
            | no => simp only [hR1, Out.bind_no] at hT; cases hT
            | ex c Γ6 => simp only [hR1, Out.bind_ex] at hT; cases hT
            | ok ts1 Γ6 =>
              simp only [hR1, Out.bind_ok] at hT
              have q1 : ts1 = o := by injection hT
              have q2 : wipeΓ Γ6 vs = Γj := by injection hT
              subst q1
              subst q2
              have hlen1 : (acc ++ ts1).length ≤ ts.length := lcRest_len hrest
              refine ⟨fun j k H7 => k = ds1.length - j ∧ j ≤ ds1.length ∧ ∃ (G7 : Hp) (C7 Ca7 : List Cell) (va7 : List V) (acc7 : List T) (Γ7 : Env), Same G5 G7 ∧ Good G7 ((D, .lst va7) :: (Ca7 ++ (C7 ++ (Cs ++ F)))) H7 ∧ RelG K τ.κ G7 (wipe σ2 vs1) Γ7 C7 ∧ RelTs K τ.κ G7 va7 acc7 Ca7 ∧ lcRest turn1 acc7 (ds1.drop j) Γ7 = .ok (acc ++ ts1) Γ6, ?_, ?_⟩
              · refine ⟨ds1.length, by simp, Nat.zero_le _, G5, Ck5, Ca, va, acc, wipeΓ Γc vs1, L2.Same.refl G5, g5.re (fun a => by have := p51 a; simp; omega) (fun c hc => by
                  simp only [List.mem_append, List.mem_cons] at hc ⊢
                  have := p52 c
                  simp only [List.mem_append] at this
                  grind), rk5, t2.mono (s3.trans e5), ?_⟩
                unfold lcRest
                rw [List.drop_zero, hR1]
                rfl
              · rintro j k H7 ⟨rfl, hjl, G7, C7, Ca7, va7, acc7, Γ7, s7, g7, r7, t7, hrest7⟩
                by_cases hjt : j < ds1.length
                case neg =>
                  have e : j = ds1.length := by omega
                  subst e
                  rw [List.drop_length] at hrest7
                  unfold lcRest lcRun at hrest7
                  simp at hrest7
                  obtain ⟨q1, q2⟩ := hrest7
                  subst q1 q2
                  obtain ⟨Ck8, Cs8, rk8, p81, p82, _⟩ := r7.hide vs 0
                  rw [← wipe_hide, wipe_wipe hvs, wback] at rk8
                  refine .inl ⟨w5.stops H7 (s7.trans g7.ex), G7, Ck8, Ca7, va7, acc ++ ts1, wipeΓ Γ7 vs, s2.trans (s3.trans (e5.trans s7)), g7.re (fun a => by have := p81 a; simp; omega) (fun c hc => by
                    simp only [List.mem_append, List.mem_cons] at hc ⊢
                    have := p82 c
                    simp only [List.mem_append] at this
                    grind), rk8, t7, hrest⟩
                rw [List.drop_eq_getElem_cons hjt] at hrest7
                obtain ⟨o7, Γ8, hT7, hrest7⟩ := lcRest_cons hrest7
                refine .inr ⟨w5.goes j H7 (s7.trans g7.ex) hjt, fun H7 => ∃ (G7 : Hp) (C7 Ca7 : List Cell) (va7 : List V) (acc7 : List T) (Γ7 : Env), Same G5 G7 ∧ Good G7 ((D, .lst va7) :: (Ca7 ++ (C7 ++ (Cs ++ F)))) H7 ∧ RelG K τ.κ G7 (wipe σ2 vs1) Γ7 C7 ∧ RelTs K τ.κ G7 va7 acc7 Ca7 ∧ lcRest turn1 acc7 (ds1.drop (j + 1)) Γ7 = .ok (acc ++ ts1) Γ6, fun H' p' => ⟨ds1.length - (j + 1), by omega, rfl, hjt, p'⟩, fun x1 H9 hy1 => ?_⟩
                have hd1 : ds1[j]? = some ds1[j] := List.getElem?_eq_getElem hjt
                obtain ⟨G9, s9, g9, d9⟩ := (w5.mono s7).item g7 hd1 hy1
                rw [← hturn1'] at hT7
                unfold lcTurn at hT7
                cases hB1 : bindTg one1 tg1 ds1[j] Γ7 with
                | none => rw [hB1] at hT7; cases hT7
                | some Γ10 =>
                  simp only [hB1, lift_some, Out.bind_ok, if_true] at hT7
                  have g9' : Good G9 (C7 ++ ((D, HO.lst va7) :: (Ca7 ++ (Cs ++ F)))) H9 := g9.re (fun a => by simp; omega) (fun c hc => by simp at hc ⊢; grind)
                  refine hg1 (wipe σ2 vs1) H9 _ x1 ds1[j] Γ7 Γ10 G9 C7 _ g9' (r7.mono s9) d9 hB1 fun ws1 C11 g11 r11 => ⟨wipe_setV hsub1, ht1 _ _ _ ?_⟩
                  have wback1 : wipe (setV (wipe σ2 vs1) tg1 ws1) vs1 = wipe σ2 vs1 := wipe_setV hsub1
                  generalize setV (wipe σ2 vs1) tg1 ws1 = σ3 at r11 wback1 ⊢
                  rw [if_pos rfl]
                  cases hE : evEltD Φ elt Γ10 with
                  | no => rw [hE] at hT7; cases hT7
                  | ex c Γ6 => rw [hE] at hT7; cases hT7
                  | ok t Γ12 =>
                    rw [hE] at hT7
                    simp only [Out.bind_ok] at hT7
                    cases hT7
                    refine he _ _ _ (elt_ok g11 r11 ⟨t, Γ12, eltD_eq hE, fun v H13 G13 C13 Ct e13 g13 r13 t13 => ?_⟩)
                    have hl1 : (acc7 ++ [t]).length ≤ (acc ++ ts1).length := lcRest_len hrest7
                    have hl : va7.length < sizeLine := by
                      rw [t7.len]
                      have h1 : ts.length ≤ 1000000 := of_decide_eq_true hln
                      rw [List.length_append] at hl1
                      simp only [List.length_singleton] at hl1
                      exact line_lt (n := acc7.length) (decide_eq_true (by omega))
                    refine ⟨va7, (g13.mem (D, .lst va7) (by simp)).1, hl, ?_⟩
                    obtain ⟨Ck', Cs', rk', p1, p2, _⟩ := r13.hide vs1 0
                    rw [← wipe_hide, wback1] at rk'
                    have g14 : Good G13 ((D, HO.lst va7) :: ((Ca7 ++ Ct) ++ (Ck' ++ (Cs ++ F)))) H13 := g13.re (fun a => by have := p1 a; simp; omega) (fun c hc => by
                      simp only [List.mem_append, List.mem_cons] at hc ⊢
                      have := p2 c
                      simp only [List.mem_append] at this
                      grind)
                    exact ⟨G13, Ck', Ca7 ++ Ct, va7 ++ [v], acc7 ++ [t], wipeΓ Γ12 vs1, s7.trans (s9.trans e13), g14.set _, rk', relTs_snoc (t7.mono (s9.trans e13)) t13, hrest7⟩
end
end Z

set_option Elab.async false
set_option linter.all false
set_option maxRecDepth 100000
namespace Z
open PySem PySem.Spec PyProof.Rows L2

/-! ### arguments -/
inductive ARs (K : PySem.W.Frag) (G : Hp) (σ : L2.St) : List V → List Arg → Prop
  | nil : ARs K G σ [] []
  | val {v : V} {d : D} {vs : List V} {as : List Arg} : Dp K G v d → ARs K G σ vs as → ARs K G σ (v :: vs) (.val d :: as)
  | io {v : V} {k : Nat} {vs : List V} {as : List Arg} : σ[k]? = some (some v) → ARs K G σ vs as → ARs K G σ (v :: vs) (.io k :: as)
theorem ARs.mono {K : PySem.W.Frag} {G G' : Hp} {σ : L2.St} (e : Same G G') : ∀ {vs : List V} {as : List Arg}, ARs K G σ vs as → ARs K G' σ vs as
  | _, _, .nil => .nil
  | _, _, .val h1 h => .val (h1.mono e) (h.mono e)
  | _, _, .io h1 h => .io h1 (h.mono e)
def Arg.isIo : Arg → Bool
  | .val _ => false
  | .io _ => true
def pickV : List Bool → List V → List V
  | true :: io, v :: vs => v :: pickV io vs
  | false :: io, _ :: vs => pickV io vs
  | _, _ => []
def tAs (K : PySem.W.Frag) (τ : Tb) (W : WX) (run : Env → Out (List Arg)) : TA := fun σ H Q => ∃ F Γ G C, Good G (C ++ F) H ∧ RelG K τ.κ G σ Γ C ∧ match run Γ with
  | .ok as Γ' => ∀ vs H' G' C', Same G G' → Good G' (C' ++ F) H' → RelG K τ.κ G' σ Γ' C' → ARs K G' σ vs as → Q vs H'
  | .ex c Γ' => ∀ H' G' C', Same G G' → Good G' (C' ++ F) H' → RelG K τ.κ G' σ Γ' C' → W (.ref (τ.ea c)) none σ H'
  | .no => False
def isIoE : E → Bool
  | .io _ => true
  | _ => false
theorem evAs_cons {Φ : Nat → List T → FOut} {e : E} {es : Es} {Γ : Env} (h : isIoE e = false) : evAs Φ (.cons e es) Γ = (ev Φ e Γ).bind fun o Γ => (escD o Γ).bind fun d Γ => (evAs Φ es Γ).bind fun as Γ => .ok (.val d :: as) Γ := by
  cases e <;> first | rfl | cases h
def ioFlags : Es → List Bool
  | .nil => []
  | .cons e es => isIoE e :: ioFlags es
theorem evAs_flags {Φ : Nat → List T → FOut} : ∀ (es : Es) (Γ : Env) (as : List Arg) (Γ' : Env), evAs Φ es Γ = .ok as Γ' → as.map Arg.isIo = ioFlags es
  | .nil, Γ, as, Γ', h => by unfold evAs at h; cases h; rfl
  | .cons e es, Γ, as, Γ', h => by
    by_cases he : isIoE e = true
    · cases e <;> first | cases he | skip
      rename_i k
      unfold evAs at h
      split at h
      · cases hA : evAs Φ es Γ with
        | no => rw [hA] at h; cases h
        | ex c Γ1 => rw [hA] at h; cases h
        | ok as1 Γ1 =>
          rw [hA] at h
          cases h
          simp [ioFlags, isIoE, Arg.isIo, evAs_flags es Γ as1 _ hA]
      · cases h
    · have he : isIoE e = false := by simpa using he
      rw [evAs_cons he] at h
      cases hA : ev Φ e Γ with
      | no => rw [hA] at h; cases h
      | ex c Γ1 => rw [hA] at h; cases h
      | ok o Γ1 =>
        rw [hA] at h
        simp only [Out.bind_ok] at h
        cases hD : escD o Γ1 with
        | no => rw [hD] at h; cases h
        | ex c Γ2 => rw [hD] at h; cases h
        | ok d Γ2 =>
          rw [hD] at h
          simp only [Out.bind_ok] at h
          cases hR : evAs Φ es Γ2 with
          | no => rw [hR] at h; cases h
          | ex c Γ3 => rw [hR] at h; cases h
          | ok as1 Γ3 =>
            rw [hR] at h
            cases h
            simp [ioFlags, he, Arg.isIo, evAs_flags es Γ2 as1 _ hR]
section
variable {X : Cx} {τ : Tb} {W : WX} {K : PySem.W.Frag} {Φ : Nat → List T → FOut}
theorem s_As_nil : PA X [] (tAs X.K τ W (evAs Φ .nil)) := by
  refine pa_nil.imp fun σ H Q h => ?_
  obtain ⟨F, Γ, G, C, g, r0, h⟩ := h
  unfold evAs at h
  exact h [] H G C (L2.Same.refl G) g r0 .nil
theorem s_As_cons {e : Expr} {es : List Expr} {i : E} {is : Es} (hn : isIoE i = false) (he : PE X e (tO X.K τ W (ev Φ i) (spure i))) (hes : PA X es (tAs X.K τ W (evAs Φ is))) (hs : starEach (e :: es) X.env = (false, eval e X.env) :: starEach es X.env) : PA X (e :: es) (tAs X.K τ W (evAs Φ (.cons i is))) := by
  refine (pa_cons (s_D he) hes hs).imp fun σ H Q h => ?_
  obtain ⟨F, Γ, G, C, g, r0, h⟩ := h
  refine ⟨F, Γ, G, C, g, r0, ?_⟩
  rw [evAs_cons hn] at h
  cases hA : ev Φ i Γ with
  | no => simp only [hA, Out.bind_no] at h
  | ex c Γ1 => simp only [hA, Out.bind_ex] at h ⊢; exact h
  | ok o Γ1 =>
    simp only [hA, Out.bind_ok] at h ⊢
    cases hD : escD o Γ1 with
    | no => simp only [hD, Out.bind_no] at h
    | ex c Γ2 => simp only [hD, Out.bind_ex] at h ⊢; exact h
    | ok d Γ2 =>
      simp only [hD, Out.bind_ok] at h ⊢
      intro v H1 G1 C1 e1 g1 r1 d1
      refine ⟨F, Γ2, G1, C1, g1, r1, ?_⟩
      cases hR : evAs Φ is Γ2 with
      | no => simp only [hR, Out.bind_no] at h
      | ex c Γ3 => simp only [hR, Out.bind_ex] at h ⊢; exact fun H3 G3 C3 e3 g3 r3 => h H3 G3 C3 (e1.trans e3) g3 r3
      | ok ds Γ3 =>
        simp only [hR, Out.bind_ok] at h ⊢
        exact fun vs H3 G3 C3 e3 g3 r3 d3 => h (v :: vs) H3 G3 C3 (e1.trans e3) g3 r3 (.val (d1.mono e3) d3)
theorem s_As_io {k : Nat} {x : Str} {p : Pos} {es : List Expr} {is : Es} (hN : X.N[k]? = some x) (hv : Vis X.env.scope x) (hd : (x == ("__debug__" : Str)) = false) (hcd : (x == ("__classdict__" : Str)) = false) (hes : PA X es (tAs X.K τ W (evAs Φ is))) (hs : starEach (.Name x p :: es) X.env = (false, eval (.Name x p) X.env) :: starEach es X.env) : PA X (.Name x p :: es) (tAs X.K τ W (evAs Φ (.cons (.io k) is))) := by
  refine (pa_cons (pe_var hN hv hd hcd) hes hs).imp fun σ H Q h => ?_
  obtain ⟨F, Γ, G, C, g, r0, h⟩ := h
  unfold evAs at h
  split at h
  · rename_i as' Γ' he
    split at he
    · rename_i t hk
      obtain ⟨v, Ca, Ct, Cb, h1, _⟩ := r0.get hk
      refine ⟨v, h1, F, Γ, G, C, g, r0, ?_⟩
      cases hR : evAs Φ is Γ with
      | no => rw [hR] at he; cases he
      | ex c Γ3 => rw [hR] at he; cases he
      | ok ds Γ3 =>
        rw [hR] at he
        cases he
        exact fun vs H3 G3 C3 e3 g3 r3 d3 => h (v :: vs) H3 G3 C3 e3 g3 r3 (.io h1 d3)
    · cases he
  · rename_i c Γ' he
    split at he
    · rename_i t hk
      obtain ⟨v, Ca, Ct, Cb, h1, _⟩ := r0.get hk
      refine ⟨v, h1, F, Γ, G, C, g, r0, ?_⟩
      cases hR : evAs Φ is Γ with
      | no => rw [hR] at he; cases he
      | ex c Γ3 => rw [hR] at he; cases he; exact h
      | ok ds Γ3 => rw [hR] at he; cases he
    · cases he
  · cases h
/-! ### slots given to a callee, and taken back -/
theorem argTs_set : ∀ (as : List Arg) (Γ : Env) (k : Nat) (x : Option T), k ∉ ios as → argTs (Γ.set k x) as = argTs Γ as
  | [], _, _, _, _ => rfl
  | .val d :: as, Γ, k, x, h => by unfold argTs; rw [argTs_set as Γ k x h]
  | .io j :: as, Γ, k, x, h => by
    unfold ios at h
    unfold argTs
    rw [argTs_set as Γ k x (fun z => h (List.mem_cons_of_mem _ z)), List.getElem?_set_ne (fun z => h (by rw [z]; exact List.mem_cons_self))]
theorem putOuts_set : ∀ (ks : List Nat) (outs : List T) (Γ : Env) (k : Nat) (x : Option T), k ∉ ks → putOuts (Γ.set k x) ks outs = (putOuts Γ ks outs).map (·.set k x)
  | [], [], _, _, _, _ => rfl
  | [], _ :: _, _, _, _, _ => rfl
  | _ :: _, [], _, _, _, _ => rfl
  | j :: ks, t :: outs, Γ, k, x, h => by
    unfold putOuts
    rw [List.set_comm _ _ (fun z => h (by rw [z]; exact List.mem_cons_self)), putOuts_set ks outs _ k x (fun z => h (List.mem_cons_of_mem _ z))]
theorem set_same {σ : L2.St} {k : Nat} {v : V} (h : σ[k]? = some (some v)) : σ.set k (some v) = σ := by
  apply List.ext_getElem?
  intro j
  by_cases e : k = j
  · subst e
    have := (List.getElem?_eq_some_iff.mp h).1
    rw [List.getElem?_set_self this, h]
  · rw [List.getElem?_set_ne e]
theorem nodupB_cons {k : Nat} {ks : List Nat} (h : nodupB (k :: ks) = true) : k ∉ ks ∧ nodupB ks = true := by
  unfold nodupB at h
  simp only [Bool.and_eq_true, Bool.not_eq_true'] at h
  exact ⟨by simpa using h.1, h.2⟩
theorem take_args {G : Hp} {σ : L2.St} : ∀ (as : List Arg) (vs : List V) (Γ : Env) (C : List Cell) (ts : List T), RelG K τ.κ G σ Γ C → ARs K G σ vs as → argTs Γ as = some ts → nodupB (ios as) = true →
    ∃ Ct Cr, RelTs K τ.κ G vs ts Ct ∧ (∀ a, cnt a Ct + cnt a Cr ≤ cnt a C) ∧ (∀ c ∈ Ct ++ Cr, c ∈ C) ∧
      ∀ (G' : Hp) (outs : List T) (Co : List Cell) (Γ' : Env), Same G G' → RelTs K τ.κ G' (pickV (as.map Arg.isIo) vs) outs Co → putOuts Γ (ios as) outs = some Γ' → ∃ C', RelG K τ.κ G' σ Γ' C' ∧ (∀ a, cnt a C' ≤ cnt a Co + cnt a Cr) ∧ ∀ c ∈ C', c ∈ Co ++ Cr
  | [], vs, Γ, C, ts, r, ha, e, hn => by
    cases ha
    unfold argTs at e
    cases e
    refine ⟨[], C, .nil, fun a => by simp, fun c hc => hc, fun G' outs Co Γ' s ho hp => ?_⟩
    unfold pickV at ho
    cases ho
    unfold ios putOuts at hp
    cases hp
    exact ⟨C, r.mono s, fun a => by simp, fun c hc => hc⟩
  | .val d :: as, vs, Γ, C, ts, r, ha, e, hn => by
    cases ha with
    | @val v _ vs' _ hd ha =>
      unfold argTs at e
      cases hA : argTs Γ as with
      | none => rw [hA] at e; cases e
      | some ts' =>
        rw [hA] at e
        cases e
        obtain ⟨Ct, Cr, t1, t2, t3, t4⟩ := take_args as vs' Γ C ts' r ha hA hn
        exact ⟨Ct, Cr, .cons (C := []) (.sh hd) t1, t2, t3, fun G' outs Co Γ' s ho hp => t4 G' outs Co Γ' s ho hp⟩
  | .io k :: as, vs, Γ, C, ts, r, ha, e, hn => by
    cases ha with
    | @io v _ vs' _ hd ha =>
      unfold ios at hn
      obtain ⟨hk, hn⟩ := nodupB_cons hn
      unfold argTs at e
      split at e
      · rename_i t hkt
        cases hA : argTs Γ as with
        | none => rw [hA] at e; cases e
        | some ts' =>
          rw [hA] at e
          cases e
          obtain ⟨v', Ca, Ck, Cb, q1, q2, q3, q4, q5⟩ := r.get hkt
          rw [hd] at q1
          cases q1
          obtain ⟨Ct, Cr, t1, t2, t3, t4⟩ := take_args as vs' (Γ.set k none) (Ca ++ Cb) ts' q4 ha (by rw [argTs_set as Γ k none hk]; exact hA) hn
          refine ⟨Ck ++ Ct, Cr, .cons q3 t1, fun a => ?_, fun c hc => ?_, fun G' outs Co Γ' s ho hp => ?_⟩
          · have := t2 a
            rw [q2]
            simp at this ⊢
            omega
          · rw [q2]
            have := t3 c
            simp at hc this ⊢
            grind
          · simp only [List.map_cons, Arg.isIo, pickV] at ho
            cases ho with
            | @cons _ _ t' outs' Ck' Co' h1 h2 =>
              unfold ios putOuts at hp
              have hp2 : putOuts ((Γ.set k none).set k (some t')) (ios as) outs' = some Γ' := by rw [List.set_set]; exact hp
              rw [putOuts_set _ _ _ _ _ hk] at hp2
              cases hq : putOuts (Γ.set k none) (ios as) outs' with
              | none => rw [hq] at hp2; cases hp2
              | some Γ1 =>
                rw [hq] at hp2
                simp at hp2
                subst hp2
                obtain ⟨C1, z1, z2, z3⟩ := t4 G' outs' Co' Γ1 s h2 hq
                obtain ⟨C2, y1, y2, y3⟩ := z1.set (i := k) h1
                rw [set_same hd] at y1
                refine ⟨C2, y1, fun a => ?_, fun c hc => ?_⟩
                · have := y2 a; have := z2 a; simp; omega
                · have := y3 c hc; have := z3 c; simp at *; grind
      · cases e
/-! ### what a def promises -/
def SpOf (K : PySem.W.Frag) (τ : Tb) (io : List Bool) (F : List T → FOut) : Sp := fun vs H Q E => ∃ Fr G C ts, Good G (C ++ Fr) H ∧ RelTs K τ.κ G vs ts C ∧ vs.length = io.length ∧ match F ts with
  | .ok r outs => ∀ v H' G' Co Cr, Same G G' → Good G' (Cr ++ (Co ++ Fr)) H' → RelT K τ.κ G' v r Cr → RelTs K τ.κ G' (pickV io vs) outs Co → Q v H'
  | .ex c outs => ∀ H' G' Co, Same G G' → Good G' (Co ++ Fr) H' → RelTs K τ.κ G' (pickV io vs) outs Co → E (.ref (τ.ea c)) none H'
  | .no => False
theorem ARs.len {G : Hp} {σ : L2.St} : ∀ {vs : List V} {as : List Arg}, ARs K G σ vs as → vs.length = as.length
  | _, _, .nil => rfl
  | _, _, .val h1 h => by simp [h.len]
  | _, _, .io h1 h => by simp [h.len]
theorem s_call {k n : Nat} {f : Addr} {fd : FuncData} {ps : List Str} {io : List Bool} {x : Str} {p pos : Pos} {e : Expr} {es : List Expr} {as : Es} (Fn : FnOk X.prog X.w X.K X.mg X.base (L2.CX X.prog X.w) k f fd ps (SpOf X.K τ io (Φ n))) (hr : Room k X.A) (hg : Gl X x) (hm : X.mg x = some (.ref f)) (hk : PySem.W.keepIn X.K (.ref f) = true) (hb : Binds X.K fd ps []) (tk : Takes X W)
    (hio : ioFlags as = io) (ha : PA X (e :: es) (tAs X.K τ W (evAs Φ as))) (hdb : (x == ("__debug__" : Str)) = false) (he : starEach (e :: es) X.env = (false, eval e X.env) :: starEach es X.env) (hpl : (backTo pos (starEach es X.env)).any (·.1) = false) :
    PE X (.Call (.Name x p) (e :: es) [] pos) (tO X.K τ W (ev Φ (.call n as)) false) := by
  refine (pe_callS Fn hr hg hm hk hb (fun σ => passAt tk σ) ha hdb he hpl).imp fun σ H Q h => ?_
  obtain ⟨F, Γ, G, C, g, r0, h⟩ := h
  refine ⟨F, Γ, G, C, g, r0, ?_⟩
  unfold ev at h
  cases hA : evAs Φ as Γ with
  | no => simp only [hA, Out.bind_no] at h
  | ex c Γ1 => simp only [hA, Out.bind_ex] at h ⊢; exact h
  | ok args Γ1 =>
    simp only [hA, Out.bind_ok] at h ⊢
    intro vs H1 G1 C1 e1 g1 r1 a1
    have hfl := evAs_flags as Γ args Γ1 hA
    unfold runCall at h
    cases hT : argTs Γ1 args with
    | none => simp only [hT] at h
    | some ts =>
      simp only [hT] at h
      by_cases hn : nodupB (ios args) = true
      case neg => rw [if_neg hn] at h; exact h.elim
      rw [if_pos hn] at h
      obtain ⟨Ct, Cr, t1, t2, t3, t4⟩ := take_args args vs Γ1 C1 ts r1 a1 hT hn
      refine ⟨Cr ++ F, G1, Ct, ts, g1.re (fun a => by have := t2 a; simp; omega) (fun c hc => by have := t3 c; simp at hc this ⊢; grind), t1, ?_, ?_⟩
      · rw [a1.len, ← hio, ← hfl, List.length_map]
      · cases hF : Φ n ts with
        | no => simp only [hF] at h
        | ex c outs =>
          simp only [hF] at h ⊢
          cases hP : putOuts Γ1 (ios args) outs with
          | none => simp only [hP] at h
          | some Γ' =>
            simp only [hP] at h
            intro H' G' Co s' g' ro
            rw [← hio, ← hfl] at ro
            obtain ⟨C', z1, z2, z3⟩ := t4 G' outs Co Γ' s' ro hP
            exact h H' G' C' (e1.trans s') (g'.re (fun a => by have := z2 a; simp; omega) (fun c hc => by have := z3 c; simp at hc this ⊢; grind)) z1
        | ok rr outs =>
          simp only [hF] at h ⊢
          cases hP : putOuts Γ1 (ios args) outs with
          | none => simp only [hP] at h
          | some Γ' =>
            simp only [hP] at h
            intro v H' G' Co Crr s' g' rt ro
            rw [← hio, ← hfl] at ro
            obtain ⟨C', z1, z2, z3⟩ := t4 G' outs Co Γ' s' ro hP
            exact h v H' G' C' Crr (e1.trans s') (g'.re (fun a => by have := z2 a; simp; omega) (fun c hc => by have := z3 c; simp at hc this ⊢; grind)) z1 rt (fun z => nomatch z)
end
end Z

set_option Elab.async false
set_option linter.all false
set_option maxRecDepth 100000
namespace Z
open PySem PySem.Spec PyProof.Rows L2

mutual
inductive S where
  | pass
  | asg (one : Bool) (is : List Nat) (e : E)
  | par (is : List Nat) (es : Es)
  | exp (e : E)
  | app (k : Nat) (e : E)
  | set (k : Nat) (i e : E)
  | setP (o i e : E)
  | set2P (o i o' i' e e' : E)
  | aug (k : Nat) (e : E)
  | ext (k : Nat) (e : E)
  | ret (e : E)
  | iff (c : B) (a b : Ss)
  | forS (one : Bool) (tg : List Nat) (src : I) (body : Ss)
  | whileS (c : B) (body : Ss)
  | raise (c : Nat)
  | tryS (body : Ss) (hs : List (Nat × Str))
inductive Ss where
  | nil
  | cons (s : S) (ss : Ss)
end
inductive SOut where
  | nx (Γ : Env)
  | rt (t : T) (Γ : Env)
  | ex (c : Nat) (Γ : Env)
  | no
def Out.toS {α : Type} (m : Out α) (f : α → Env → SOut) : SOut := match m with
  | .ok a Γ => f a Γ
  | .ex c Γ => .ex c Γ
  | .no => .no
@[simp] theorem Out.toS_ok {α : Type} {a : α} {Γ : Env} {f : α → Env → SOut} : (Out.ok a Γ).toS f = f a Γ := rfl
@[simp] theorem Out.toS_ex {α : Type} {c : Nat} {Γ : Env} {f : α → Env → SOut} : (Out.ex c Γ : Out α).toS f = .ex c Γ := rfl
@[simp] theorem Out.toS_no {α : Type} {f : α → Env → SOut} : (Out.no : Out α).toS f = .no := rfl
/-- trees, from the left -/
def evTs (Φ : Nat → List T → FOut) : Es → Env → Out (List T)
  | .nil, Γ => .ok [] Γ
  | .cons e es, Γ => (ev Φ e Γ).bind fun o Γ => (esc o Γ).bind fun t Γ => (evTs Φ es Γ).bind fun ts Γ => .ok (t :: ts) Γ
def setTs (Γ : Env) : List Nat → List T → Option Env
  | [], [] => some Γ
  | i :: is, t :: ts => setTs (Γ.set i (some t)) is ts
  | _, _ => none
/-- a returned operand: an owned slot is given up whole -/
def mvO (o : O) (Γ : Env) : Out T := match o with
  | .t t => .ok t Γ
  | .at k [] => match Γ[k]? with
    | some (some t) => .ok t (Γ.set k none)
    | _ => .no
  | .at _ _ => .no
def forRun (bind : D → Env → Option Env) (body : Env → SOut) : List D → Env → SOut
  | [], Γ => .nx Γ
  | d :: ds, Γ => match bind d Γ with
    | none => .no
    | some Γ1 => match body Γ1 with
      | .nx Γ2 => forRun bind body ds Γ2
      | r => r
def whileN (test : Env → Out Bool) (body : Env → SOut) : Nat → Env → Option SOut
  | 0, _ => none
  | n + 1, Γ => match test Γ with
    | .no => some .no
    | .ex c Γ => some (.ex c Γ)
    | .ok false Γ => some (.nx Γ)
    | .ok true Γ => match body Γ with
      | .nx Γ => whileN test body n Γ
      | r => some r
theorem whileN_mono {test : Env → Out Bool} {body : Env → SOut} : ∀ {n : Nat} {Γ : Env} {r : SOut}, whileN test body n Γ = some r → whileN test body (n + 1) Γ = some r
  | 0, Γ, r, h => by unfold whileN at h; cases h
  | n + 1, Γ, r, h => by
    unfold whileN at h ⊢
    cases hT : test Γ with
    | no => simp only [hT] at h ⊢; exact h
    | ex c Γ1 => simp only [hT] at h ⊢; exact h
    | ok b Γ1 =>
      cases b with
      | false => simp only [hT] at h ⊢; exact h
      | true =>
        simp only [hT] at h ⊢
        cases hB : body Γ1 with
        | nx Γ2 => simp only [hB] at h ⊢; exact whileN_mono h
        | rt t Γ2 => simp only [hB] at h ⊢; exact h
        | ex c Γ2 => simp only [hB] at h ⊢; exact h
        | no => simp only [hB] at h ⊢; exact h
theorem whileN_le {test : Env → Out Bool} {body : Env → SOut} {n m : Nat} {Γ : Env} {r : SOut} (hnm : n ≤ m) (h : whileN test body n Γ = some r) : whileN test body m Γ = some r := by
  induction hnm with
  | refl => exact h
  | step _ ih => exact whileN_mono ih
open Classical in
noncomputable def whileRun (test : Env → Out Bool) (body : Env → SOut) (Γ : Env) : SOut := if h : ∃ r n, whileN test body n Γ = some r then h.choose else .no
theorem whileRun_of {test : Env → Out Bool} {body : Env → SOut} {Γ : Env} {n : Nat} {r : SOut} (h : whileN test body n Γ = some r) : whileRun test body Γ = r := by
  have hx : ∃ r n, whileN test body n Γ = some r := ⟨r, n, h⟩
  unfold whileRun
  rw [dif_pos hx]
  obtain ⟨m, hm⟩ := hx.choose_spec
  have h1 := whileN_le (Nat.le_max_left n m) h
  have h2 := whileN_le (Nat.le_max_right n m) hm
  rw [h1] at h2
  exact (Option.some.inj h2).symm
theorem whileRun_ok {test : Env → Out Bool} {body : Env → SOut} {Γ : Env} {r : SOut} (h : whileRun test body Γ = r) (hr : r ≠ .no) : ∃ n, whileN test body n Γ = some r := by
  unfold whileRun at h
  split at h
  · rename_i hx
    subst h
    exact hx.choose_spec
  · exact absurd h.symm hr
def raised (c : Nat) (Γ : Env) : List (Nat × Str) → SOut
  | [] => .no
  | (k, x) :: hs => if k == c then .rt (.sh (.str x)) Γ else raised c Γ hs
/-- o[i] = the tree at hand -/
def storeP (Φ : Nat → List T → FOut) (o i : E) (t : T) (Γ : Env) : SOut := (ev Φ o Γ).toS fun x Γ => (ev Φ i Γ).toS fun j Γ => match x, j with
  | .at k p, .t (.sh (.int j)) => match Γ[k]? with
    | some (some t0) => match sub t0 p with
      | some (.ol ts) => match ixJ ts.length j with
        | some j => .nx (Γ.set k (some (putT t0 p (.ol (ts.set j t)))))
        | none => .no
      | _ => .no
    | _ => .no
  | _, _ => .no
mutual
noncomputable def exS (Φ : Nat → List T → FOut) : S → Env → SOut
  | .pass, Γ => .nx Γ
  | .asg true [i] e, Γ => (ev Φ e Γ).toS fun o Γ => (esc o Γ).toS fun t Γ => .nx (Γ.set i (some t))
  | .asg true _ _, _ => .no
  | .asg false is e, Γ => (ev Φ e Γ).toS fun o Γ => (escD o Γ).toS fun d Γ => (lift (bindTg false is d Γ) Γ).toS fun Γ _ => .nx Γ
  | .par is es, Γ => (evTs Φ es Γ).toS fun ts Γ => (lift (setTs Γ is ts) Γ).toS fun Γ _ => .nx Γ
  | .exp e, Γ => (ev Φ e Γ).toS fun _ Γ => .nx Γ
  | .app k e, Γ => match Γ[k]? with
    | some (some (.ol _)) => (ev Φ e Γ).toS fun o Γ => (esc o Γ).toS fun t Γ => match Γ[k]? with
      | some (some (.ol ts)) => if lineOk ts.length then .nx (Γ.set k (some (.ol (ts ++ [t])))) else .no
      | _ => .no
    | _ => .no
  | .set k i e, Γ => (ev Φ e Γ).toS fun o Γ => (esc o Γ).toS fun t Γ => match Γ[k]? with
    | some (some (.ol _)) => (ev Φ i Γ).toS fun j Γ => match j with
      | .t (.sh (.int j)) => match Γ[k]? with
        | some (some (.ol ts)) => match ixJ ts.length j with
          | some j => .nx (Γ.set k (some (.ol (ts.set j t))))
          | none => .no
        | _ => .no
      | _ => .no
    | _ => .no
  | .setP o i e, Γ => (ev Φ e Γ).toS fun x Γ => (esc x Γ).toS fun t Γ => storeP Φ o i t Γ
  | .set2P o i o' i' e e', Γ => (evTs Φ (.cons e (.cons e' .nil)) Γ).toS fun ts Γ => match ts with
    | [t, t'] => match storeP Φ o i t Γ with
      | .nx Γ => storeP Φ o' i' t' Γ
      | r => r
    | _ => .no
  | .aug k e, Γ => match Γ[k]? with
    | some (some (.sh (.int a))) => (ev Φ e Γ).toS fun x Γ => match x, Γ[k]? with
      | .t (.sh (.int b)), some (some (.sh (.int a'))) => if a = a' then .nx (Γ.set k (some (.sh (.int (a + b))))) else .no
      | _, _ => .no
    | _ => .no
  | .ext k e, Γ => match Γ[k]? with
    | some (some (.ol _)) => (ev Φ e Γ).toS fun x Γ => (escD x Γ).toS fun d Γ => match els (.sh d), Γ[k]? with
      | some ds, some (some (.ol ts)) => if lineOk (ts.length + ds.length) then .nx (Γ.set k (some (.ol (ts ++ ds.map .sh)))) else .no
      | _, _ => .no
    | _ => .no
  | .ret e, Γ => (ev Φ e Γ).toS fun o Γ => (mvO o Γ).toS fun t Γ => .rt t Γ
  | .iff c a b, Γ => (evB Φ false c Γ).toS fun k Γ => if k then exSs Φ a Γ else exSs Φ b Γ
  | .forS one tg src body, Γ => (evI Φ src Γ).toS fun ds Γ => forRun (bindTg one tg) (exSs Φ body) ds Γ
  | .whileS c body, Γ => whileRun (evB Φ false c) (exSs Φ body) Γ
  | .raise c, Γ => .ex c Γ
  | .tryS body hs, Γ => match exSs Φ body Γ with
    | .ex c Γ => raised c Γ hs
    | r => r
noncomputable def exSs (Φ : Nat → List T → FOut) : Ss → Env → SOut
  | .nil, Γ => .nx Γ
  | .cons s ss, Γ => match exS Φ s Γ with
    | .nx Γ => exSs Φ ss Γ
    | r => r
end
def FixS (fx : List Nat) (σ σ' : L2.St) : Prop := ∀ k ∈ fx, σ'[k]? = σ[k]?
theorem FixS.refl {fx : List Nat} {σ : L2.St} : FixS fx σ σ := fun _ _ => rfl
theorem FixS.trans {fx : List Nat} {σ σ1 σ2 : L2.St} (a : FixS fx σ σ1) (b : FixS fx σ1 σ2) : FixS fx σ σ2 := fun k h => (b k h).trans (a k h)
theorem FixS.setV {fx is : List Nat} {σ : L2.St} {ws : List V} (h : ∀ i ∈ is, i ∉ fx) : FixS fx σ (setV σ is ws) := fun k hk => setV_get is ws σ k fun z => h k z hk
/-- a statement's reading: fx are the slots that keep their value -/
def tS (K : PySem.W.Frag) (τ : Tb) (W : WX) (fx : List Nat) (run : Env → SOut) : TS := fun D σ H => ∃ F Γ G C, Good G (C ++ F) H ∧ RelG K τ.κ G σ Γ C ∧ match run Γ with
  | .nx Γ' => ∀ σ' H' G' C', Same G G' → Good G' (C' ++ F) H' → RelG K τ.κ G' σ' Γ' C' → FixS fx σ σ' → D.nx σ' H'
  | .rt t Γ' => ∀ v σ' H' G' C' Ct, Same G G' → Good G' (Ct ++ (C' ++ F)) H' → RelG K τ.κ G' σ' Γ' C' → RelT K τ.κ G' v t Ct → FixS fx σ σ' → D.rt v H'
  | .ex c Γ' => ∀ σ' H' G' C', Same G G' → Good G' (C' ++ F) H' → RelG K τ.κ G' σ' Γ' C' → FixS fx σ σ' → W (.ref (τ.ea c)) none σ' H'
  | .no => False
theorem _root_.L2.PS.imp {X : Cx} {e : Stmt} {t t' : TS} (h : PS X e t) (hi : ∀ D σ H, t' D σ H → t D σ H) : PS X e t' := ⟨fun pins s σ H D I q => h.run pins s σ H D I (hi D σ H q)⟩
theorem _root_.L2.PSs.imp {X : Cx} {e : List Stmt} {t t' : TS} (h : PSs X e t) (hi : ∀ D σ H, t' D σ H → t D σ H) : PSs X e t' := ⟨fun pins s σ H D I q => h.run pins s σ H D I (hi D σ H q)⟩

section
variable {X : Cx} {τ : Tb} {W : WX} {K : PySem.W.Frag} {Φ : Nat → List T → FOut} {fx : List Nat}
theorem ss_nil : PSs X [] (tS X.K τ W fx (exSs Φ .nil)) := by
  refine pss_nil.imp fun D σ H h => ?_
  obtain ⟨F, Γ, G, C, g, r, h⟩ := h
  unfold exSs at h
  exact h σ H G C (L2.Same.refl G) g r FixS.refl
theorem ss_cons {st : Stmt} {sts : List Stmt} {s : S} {ss : Ss} (h1 : PS X st (tS X.K τ W fx (exS Φ s))) (h2 : PSs X sts (tS X.K τ W fx (exSs Φ ss))) : PSs X (st :: sts) (tS X.K τ W fx (exSs Φ (.cons s ss))) := by
  refine (pss_cons h1 h2).imp fun D σ H h => ?_
  obtain ⟨F, Γ, G, C, g, r, h⟩ := h
  refine ⟨F, Γ, G, C, g, r, ?_⟩
  unfold exSs at h
  cases hA : exS Φ s Γ with
  | no => simp only [hA] at h
  | ex c Γ1 => simp only [hA] at h ⊢; exact h
  | rt t Γ1 => simp only [hA] at h ⊢; exact h
  | nx Γ1 =>
    simp only [hA] at h ⊢
    intro σ1 H1 G1 C1 e1 g1 r1 f1
    refine ⟨F, Γ1, G1, C1, g1, r1, ?_⟩
    cases hB : exSs Φ ss Γ1 with
    | no => simp only [hB] at h
    | ex c Γ2 => simp only [hB] at h ⊢; exact fun σ2 H2 G2 C2 e2 g2 r2 f2 => h σ2 H2 G2 C2 (e1.trans e2) g2 r2 (f1.trans f2)
    | rt t Γ2 => simp only [hB] at h ⊢; exact fun v σ2 H2 G2 C2 Ct e2 g2 r2 t2 f2 => h v σ2 H2 G2 C2 Ct (e1.trans e2) g2 r2 t2 (f1.trans f2)
    | nx Γ2 => simp only [hB] at h ⊢; exact fun σ2 H2 G2 C2 e2 g2 r2 f2 => h σ2 H2 G2 C2 (e1.trans e2) g2 r2 (f1.trans f2)
theorem st_doc {x j pos pos'} : PS X (.Expr (.Constant (.str x) j pos) pos') (tS X.K τ W fx (exS Φ .pass)) := by
  refine ps_doc.imp fun D σ H h => ?_
  obtain ⟨F, Γ, G, C, g, r, h⟩ := h
  unfold exS at h
  exact h σ H G C (L2.Same.refl G) g r FixS.refl
theorem st_pass {pos} : PS X (.Pass pos) (tS X.K τ W fx (exS Φ .pass)) := by
  refine ps_pass.imp fun D σ H h => ?_
  obtain ⟨F, Γ, G, C, g, r, h⟩ := h
  unfold exS at h
  exact h σ H G C (L2.Same.refl G) g r FixS.refl
theorem st_exp {e : Expr} {i : E} {pos : Pos} (he : PE X e (tO X.K τ W (ev Φ i) (spure i))) (hs : swapsWith e none pos.line X.env = pure false) : PS X (.Expr e pos) (tS X.K τ W fx (exS Φ (.exp i))) := by
  refine (ps_expr he hs).imp fun D σ H h => ?_
  obtain ⟨F, Γ, G, C, g, r, h⟩ := h
  refine ⟨F, Γ, G, C, g, r, ?_⟩
  unfold exS at h
  cases hA : ev Φ i Γ with
  | no => simp only [hA, Out.toS_no] at h
  | ex c Γ1 => simp only [hA, Out.toS_ex] at h ⊢; exact fun H1 G1 C1 e1 g1 r1 => h σ H1 G1 C1 e1 g1 r1 FixS.refl
  | ok o Γ1 =>
    simp only [hA, Out.toS_ok] at h ⊢
    intro v H1 G1 C1 Co e1 g1 r1 o1 _
    exact h σ H1 G1 C1 e1 (g1.re (fun a => by simp) (fun c hc => by simp at hc ⊢; grind)) r1 FixS.refl
/-- one value, given up as a tree -/
theorem tO_esc {i : E} {σ : L2.St} {H : Hp} {Q : VK} {F : List Cell} {Γ : Env} {G : Hp} {C : List Cell} (g : Good G (C ++ F) H) (r : RelG K τ.κ G σ Γ C)
    (h : match ((ev Φ i Γ).bind fun o Γ => esc o Γ) with
      | .ok t Γ' => ∀ v H' G' C' Ct, Same G G' → Good G' (Ct ++ (C' ++ F)) H' → RelG K τ.κ G' σ Γ' C' → RelT K τ.κ G' v t Ct → Q v H'
      | .ex c Γ' => ∀ H' G' C', Same G G' → Good G' (C' ++ F) H' → RelG K τ.κ G' σ Γ' C' → W (.ref (τ.ea c)) none σ H'
      | .no => False) : tO K τ W (ev Φ i) (spure i) σ H Q := by
  refine ⟨F, Γ, G, C, g, r, ?_⟩
  cases hA : ev Φ i Γ with
  | no => simp only [hA, Out.bind_no] at h
  | ex c Γ1 => simp only [hA, Out.bind_ex] at h ⊢; exact h
  | ok o Γ1 =>
    simp only [hA, Out.bind_ok] at h ⊢
    intro v H1 G1 C1 Co e1 g1 r1 o1 _
    cases hE : esc o Γ1 with
    | no => simp only [hE] at h
    | ex c Γ2 => exact (esc_not_ex hE).elim
    | ok t Γ2 =>
      simp only [hE] at h
      obtain ⟨G2, C2, Ct, e2, g2, r2, t2⟩ := o1.esc g1 r1 hE
      exact h v H1 G2 C2 Ct (e1.trans e2) g2 r2 t2
theorem toS_bind {α β : Type} {m : Out α} {f : α → Env → Out β} {g : β → Env → SOut} : (m.bind f).toS g = m.toS fun a Γ => (f a Γ).toS g := by cases m <;> rfl
theorem asg_read {i : Nat} {e : E} (hfx : i ∉ fx) (D : Ends) (σ : L2.St) (H : Hp) (h : tS K τ W fx (exS Φ (.asg true [i] e)) D σ H) : tAsg (tO K τ W (ev Φ e) (spure e)) (gName i) D σ H := by
  obtain ⟨F, Γ, G, C, g, r, h⟩ := h
  refine tO_esc g r ?_
  unfold exS at h
  rw [← toS_bind] at h
  cases hA : ((ev Φ e Γ).bind fun o Γ => esc o Γ) with
  | no => simp only [hA, Out.toS_no] at h
  | ex c Γ1 => simp only [hA, Out.toS_ex] at h ⊢; exact fun H1 G1 C1 e1 g1 r1 => h σ H1 G1 C1 e1 g1 r1 FixS.refl
  | ok t Γ1 =>
    simp only [hA, Out.toS_ok] at h ⊢
    intro v H1 G1 C1 Ct e1 g1 r1 t1
    obtain ⟨C2, r2, z2, y2⟩ := r1.set (i := i) t1
    exact h _ H1 G1 C2 e1 (g1.re (fun a => by have := z2 a; simp; omega) (fun c hc => by have := y2 c; simp at hc this ⊢; grind)) r2 (FixS.setV (is := [i]) (ws := [v]) (by simpa using hfx))
theorem st_asg {i : Nat} {x : Str} {e : Expr} {ie : E} {pos pos' : Pos} (hN : X.N.Nodup) (hi : X.N[i]? = some x) (hx : Loc X.env.scope x) (hfx : i ∉ fx) (he : PE X e (tO X.K τ W (ev Φ ie) (spure ie))) (hs : swapsWith e (some (.Name x pos')) pos.line X.env = pure false)
    (hf : X.fn x = true ∨ X.env.scope.names.lookup x = some .local) : PS X (.Assign [.Name x pos'] e pos) (tS X.K τ W fx (exS Φ (.asg true [i] ie))) :=
  (ps_set hN hi hx he hs hf).imp fun D σ H h => asg_read hfx D σ H h
/-- name = [..], the list made for the name -/
theorem st_setLc {i : Nat} {y : Str} {py : Pos} {elt tg iter : Expr} {ifs : List Expr} {scope : Scope} {own : List (Str × Nat)} {pos spos : Pos} {ie : E} {is : List Nat} {one ow : Bool} {src : I} {c : B} (hc : X.calm = true) (hN : X.N.Nodup) (hy : X.N[i]? = some y) (hyl : X.env.scope.names.lookup y = some .local) (hfx : i ∉ fx)
    (hsw : swapsWith (.ListComp elt [⟨tg, iter, ifs, 0⟩] scope pos) (some (.Name y py)) spos.line X.env = pure true) (ok : BlkOk X.N X.env.scope scope own)
    (hsub : ∀ i ∈ is, i ∈ own.map (·.2)) (hi : PI X tg iter (tI X.K τ W (evI Φ src)))
    (hg : ∀ (s : Shared) (H : Hp) (C : Addr) (cl : List (Str × Addr)) (fp : List Addr), PG (X.blk s H scope (compEnvC scope cl C X.env) fp) tg (gOf X.K one is))
    (ht : ∀ (s : Shared) (H : Hp) (C : Addr) (cl : List (Str × Addr)) (fp : List Addr), PTs (X.blk s H scope (compEnvC scope cl C X.env) fp) ifs (tB X.K τ noW (evB Φ false c) (spureB c)))
    (he : ∀ (s : Shared) (H : Hp) (C : Addr) (cl : List (Str × Addr)) (fp : List Addr), PE (X.blk s H scope (compEnvC scope cl C X.env) fp) elt (tO X.K τ noW (ev Φ ie) (spure ie)))
    (hs : ∀ x, foldedSetIterable iter X.env x = pure x) :
    PS X (.Assign [.Name y py] (.ListComp elt [⟨tg, iter, ifs, 0⟩] scope pos) spos) (tS X.K τ W fx (exS Φ (.asg true [i] (.lc ie is one src c (own.map (·.2)) ow)))) :=
  (ps_setLc hc hN hy hyl hsw hi ok hg ht he hs).imp fun D σ H h => lc_all hsub gOf_does (fun _ _ _ h => h) (fun _ _ _ h => h) (fun _ _ _ h => h) σ H _ (asg_read hfx D σ H h)
/-- a, b = data -/
theorem st_asgT {is : List Nat} {tg e : Expr} {ie : E} {pos : Pos} (hfx : ∀ i ∈ is, i ∉ fx) (he : PE X e (tO X.K τ W (ev Φ ie) (spure ie))) (hg : PG X tg (gOf X.K false is)) (hs : swapsWithSole [tg] e pos.line X.env = pure false) (hw : swappedStores [tg] e X.env = pure none)
    (h1 : (assignEach [tg] X.env).map (·.2) = [assign tg X.env]) : PS X (.Assign [tg] e pos) (tS X.K τ W fx (exS Φ (.asg false is ie))) := by
  refine (ps_asg (s_D he) hg hs hw h1).imp fun D σ H h => ?_
  obtain ⟨F, Γ, G, C, g, r, h⟩ := h
  refine ⟨F, Γ, G, C, g, r, ?_⟩
  unfold exS at h
  rw [← toS_bind] at h
  cases hA : ((ev Φ ie Γ).bind fun o Γ => escD o Γ) with
  | no => simp only [hA, Out.toS_no] at h
  | ex c Γ1 => simp only [hA, Out.toS_ex] at h ⊢; exact fun H1 G1 C1 e1 g1 r1 => h σ H1 G1 C1 e1 g1 r1 FixS.refl
  | ok d Γ1 =>
    simp only [hA, Out.toS_ok] at h ⊢
    intro v H1 G1 C1 e1 g1 r1 d1
    cases hB : bindTg false is d Γ1 with
    | none => simp only [hB, lift_none, Out.toS_no] at h
    | some Γ2 =>
      simp only [hB, lift_some, Out.toS_ok] at h
      exact gOf_does σ H1 _ v d Γ1 Γ2 G1 C1 F g1 r1 d1 hB fun ws C2 g2 r2 => h _ H1 G1 C2 e1 g2 r2 (FixS.setV hfx)
theorem mv_step {G H : Hp} {σ : L2.St} {Γ : Env} {C Co F : List Cell} {v : V} {o : O} {t : T} {Γ' : Env} (h : RelO K τ.κ G σ Γ C v o Co) (g : Good G (Co ++ (C ++ F)) H) (r : RelG K τ.κ G σ Γ C) (e : mvO o Γ = .ok t Γ') :
    ∃ C' Ct, Good G (Ct ++ (C' ++ F)) H ∧ RelG K τ.κ G σ Γ' C' ∧ RelT K τ.κ G v t Ct := by
  cases o with
  | t x => unfold mvO at e; cases e; exact ⟨C, Co, g, r, h⟩
  | «at» k p =>
    cases p with
    | cons j p => unfold mvO at e; cases e
    | nil =>
      obtain ⟨h1, v0, h2, h3⟩ := h
      cases h3
      unfold mvO at e
      simp only at e
      split at e
      · rename_i t0 hk
        cases e
        obtain ⟨w, Ca, Ct, Cb, q1, q2, q3, q4, q5⟩ := r.get hk
        rw [h2] at q1; cases q1
        subst q2 h1
        exact ⟨Ca ++ Cb, Ct, g.re (fun a => by simp; omega) (fun c hc => by simp at hc ⊢; grind), q4, q3⟩
      · cases e
theorem mv_not_ex {o : O} {Γ Γ' : Env} {c : Nat} (h : mvO o Γ = .ex c Γ') : False := by
  unfold mvO at h
  split at h
  · cases h
  · split at h <;> cases h
  · cases h
theorem st_ret {e : Expr} {ie : E} {pos : Pos} (he : PE X e (tO X.K τ W (ev Φ ie) (spure ie))) : PS X (.Return (some e) pos) (tS X.K τ W fx (exS Φ (.ret ie))) := by
  refine (ps_ret he).imp fun D σ H h => ?_
  obtain ⟨F, Γ, G, C, g, r, h⟩ := h
  refine ⟨F, Γ, G, C, g, r, ?_⟩
  unfold exS at h
  cases hA : ev Φ ie Γ with
  | no => simp only [hA, Out.toS_no] at h
  | ex c Γ1 => simp only [hA, Out.toS_ex] at h ⊢; exact fun H1 G1 C1 e1 g1 r1 => h σ H1 G1 C1 e1 g1 r1 FixS.refl
  | ok o Γ1 =>
    simp only [hA, Out.toS_ok] at h ⊢
    intro v H1 G1 C1 Co e1 g1 r1 o1 _
    cases hM : mvO o Γ1 with
    | no => simp only [hM, Out.toS_no] at h
    | ex c Γ2 => exact (mv_not_ex hM).elim
    | ok t Γ2 =>
      simp only [hM, Out.toS_ok] at h
      obtain ⟨C2, Ct, g2, r2, t2⟩ := mv_step o1 g1 r1 hM
      exact h v σ H1 G1 C2 Ct e1 g2 r2 t2 FixS.refl
theorem st_if {c : Expr} {ea eb : List Stmt} {ic : B} {a b : Ss} {pos : Pos} (hc : PT X c (tB X.K τ W (evB Φ false ic) (spureB ic))) (ha : PSs X ea (tS X.K τ W fx (exSs Φ a))) (hb : PSs X eb (tS X.K τ W fx (exSs Φ b))) : PS X (.If c ea eb pos) (tS X.K τ W fx (exS Φ (.iff ic a b))) := by
  refine (ps_if hc ha hb).imp fun D σ H h => ?_
  obtain ⟨F, Γ, G, C, g, r, h⟩ := h
  refine ⟨F, Γ, G, C, g, r, ?_⟩
  unfold exS at h
  cases hA : evB Φ false ic Γ with
  | no => simp only [hA, Out.toS_no] at h
  | ex c Γ1 => simp only [hA, Out.toS_ex] at h ⊢; exact fun H1 G1 C1 e1 g1 r1 => h σ H1 G1 C1 e1 g1 r1 FixS.refl
  | ok k Γ1 =>
    simp only [hA, Out.toS_ok] at h ⊢
    intro H1 G1 C1 e1 g1 r1 _
    have go : ∀ (run : Env → SOut), (match run Γ1 with
        | .nx Γ' => ∀ σ' H' G' C', Same G G' → Good G' (C' ++ F) H' → RelG X.K τ.κ G' σ' Γ' C' → FixS fx σ σ' → D.nx σ' H'
        | .rt t Γ' => ∀ v σ' H' G' C' Ct, Same G G' → Good G' (Ct ++ (C' ++ F)) H' → RelG X.K τ.κ G' σ' Γ' C' → RelT X.K τ.κ G' v t Ct → FixS fx σ σ' → D.rt v H'
        | .ex c Γ' => ∀ σ' H' G' C', Same G G' → Good G' (C' ++ F) H' → RelG X.K τ.κ G' σ' Γ' C' → FixS fx σ σ' → W (.ref (τ.ea c)) none σ' H'
        | .no => False) → tS X.K τ W fx run D σ H1 := fun run h => by
      refine ⟨F, Γ1, G1, C1, g1, r1, ?_⟩
      cases hB : run Γ1 with
      | no => simp only [hB] at h
      | ex c Γ2 => simp only [hB] at h ⊢; exact fun σ2 H2 G2 C2 e2 g2 r2 f2 => h σ2 H2 G2 C2 (e1.trans e2) g2 r2 f2
      | rt t Γ2 => simp only [hB] at h ⊢; exact fun v σ2 H2 G2 C2 Ct e2 g2 r2 t2 f2 => h v σ2 H2 G2 C2 Ct (e1.trans e2) g2 r2 t2 f2
      | nx Γ2 => simp only [hB] at h ⊢; exact fun σ2 H2 G2 C2 e2 g2 r2 f2 => h σ2 H2 G2 C2 (e1.trans e2) g2 r2 f2
    cases k with
    | true => exact go _ h
    | false => exact go _ h
end
end Z

set_option Elab.async false
set_option linter.all false
set_option maxRecDepth 100000
namespace Z
open PySem PySem.Spec PyProof.Rows L2
section
variable {X : Cx} {τ : Tb} {W : WX} {K : PySem.W.Frag} {Φ : Nat → List T → FOut} {fx : List Nat}
theorem st_for {tg iter : Expr} {body : List Stmt} {one : Bool} {is : List Nat} {src : I} {ss : Ss} {pos : Pos} (hp : PassesOwn (model X.prog X.w) X.A X.env X.xe) (hc : X.calm = true) (hfx : ∀ i ∈ is, i ∉ fx) (hi : PI X tg iter (tI X.K τ W (evI Φ src))) (hg : PG X tg (gOf X.K one is))
    (hb : PSs X body (tS X.K τ W fx (exSs Φ ss))) (hs : ∀ x, foldedSetIterable iter X.env x = pure x) : PS X (.For tg iter body [] pos) (tS X.K τ W fx (exS Φ (.forS one is src ss))) := by
  refine (ps_for hp hc hi hg hb hs).imp fun D σ H h => ?_
  obtain ⟨F, Γ, G, C, g, r, h⟩ := h
  refine ⟨F, Γ, G, C, g, r, ?_⟩
  unfold exS at h
  cases hA : evI Φ src Γ with
  | no => simp only [hA, Out.toS_no] at h
  | ex c Γ1 => simp only [hA, Out.toS_ex] at h ⊢; exact fun H1 G1 C1 e1 g1 r1 => h σ H1 G1 C1 e1 g1 r1 FixS.refl
  | ok ds Γ1 =>
    simp only [hA, Out.toS_ok] at h ⊢
    intro J H1 G1 C1 e1 g1 r1 w1
    have wk : L2.Walk J ds.length (fun H => Same G1 H) J.yld := ⟨fun i H hi hs => w1.goes i H hs hi, fun H hs => w1.stops H hs, fun i H x H' _ _ y => y⟩
    generalize hR : forRun (bindTg one is) (exSs Φ ss) ds Γ1 = R at h
    refine for_it wk (fun i σ2 H2 => ∃ (G2 : Hp) (C2 : List Cell) (Γi : Env), Same G1 G2 ∧ Good G2 (C2 ++ F) H2 ∧ RelG X.K τ.κ G2 σ2 Γi C2 ∧ FixS fx σ σ2 ∧ forRun (bindTg one is) (exSs Φ ss) (ds.drop i) Γi = R) ?_ ?_ ?_ ?_
    · exact ⟨G1, C1, Γ1, L2.Same.refl G1, g1, r1, FixS.refl, by rw [List.drop_zero]; exact hR⟩
    · rintro i σ2 H2 hi ⟨G2, C2, Γi, s2, g2, _⟩
      exact s2.trans g2.ex
    · rintro i x σ2 H2 H3 hi ⟨G2, C2, Γi, s2, g2, r2, f2, hrest⟩ hy
      have hd : ds[i]? = some ds[i] := List.getElem?_eq_getElem hi
      rw [List.drop_eq_getElem_cons hi] at hrest
      obtain ⟨G3, s3, g3, d3⟩ := (w1.mono s2).item g2 hd hy
      unfold forRun at hrest
      cases hB : bindTg one is ds[i] Γi with
      | none => simp only [hB] at hrest; subst hrest; exact h.elim
      | some Γb =>
        simp only [hB] at hrest
        refine gOf_does σ2 H3 _ x ds[i] Γi Γb G3 C2 F g3 (r2.mono s3) d3 hB fun ws C4 g4 r4 => ⟨F, Γb, G3, C4, g4, r4, ?_⟩
        have f4 : FixS fx σ (setV σ2 is ws) := f2.trans (FixS.setV hfx)
        have e4 := e1.trans (s2.trans s3)
        cases hE : exSs Φ ss Γb with
        | no => simp only [hE] at hrest; subst hrest; exact h.elim
        | ex c Γ5 =>
          simp only [hE] at hrest ⊢
          subst hrest
          exact fun σ5 H5 G5 C5 e5 g5 r5 f5 => h σ5 H5 G5 C5 (e4.trans e5) g5 r5 (f4.trans f5)
        | rt t Γ5 =>
          simp only [hE] at hrest ⊢
          subst hrest
          exact fun v σ5 H5 G5 C5 Ct e5 g5 r5 t5 f5 => h v σ5 H5 G5 C5 Ct (e4.trans e5) g5 r5 t5 (f4.trans f5)
        | nx Γ5 =>
          simp only [hE] at hrest ⊢
          exact fun σ5 H5 G5 C5 e5 g5 r5 f5 => ⟨G5, C5, Γ5, s2.trans (s3.trans e5), g5, r5, f4.trans f5, hrest⟩
    · rintro σ2 H2 ⟨G2, C2, Γi, s2, g2, r2, f2, hrest⟩
      rw [List.drop_length] at hrest
      unfold forRun at hrest
      subst hrest
      exact h σ2 H2 G2 C2 (e1.trans s2) g2 r2 f2
theorem st_while {c : Expr} {body : List Stmt} {ic : B} {ss : Ss} {pos : Pos} (hp : PassesOwn (model X.prog X.w) X.A X.env X.xe) (hc : PT X c (tB X.K τ W (evB Φ false ic) (spureB ic))) (hb : PSs X body (tS X.K τ W fx (exSs Φ ss))) :
    PS X (.While c body [] pos) (tS X.K τ W fx (exS Φ (.whileS ic ss))) := by
  refine (ps_while hp hc hb).imp fun D σ H h => ?_
  obtain ⟨F, Γ, G, C, g, r, h⟩ := h
  unfold exS at h
  generalize hR : whileRun (evB Φ false ic) (exSs Φ ss) Γ = R at h
  have hno : R ≠ .no := fun z => by subst z; exact h
  obtain ⟨n, hn⟩ := whileRun_ok hR hno
  refine ⟨fun m σ2 H2 => ∃ (G2 : Hp) (C2 : List Cell) (Γi : Env), Same G G2 ∧ Good G2 (C2 ++ F) H2 ∧ RelG X.K τ.κ G2 σ2 Γi C2 ∧ FixS fx σ σ2 ∧ whileN (evB Φ false ic) (exSs Φ ss) m Γi = some R, ⟨n, G, C, Γ, L2.Same.refl G, g, r, FixS.refl, hn⟩, ?_⟩
  rintro m σ2 H2 ⟨G2, C2, Γi, s2, g2, r2, f2, hw⟩
  cases m with
  | zero => unfold whileN at hw; cases hw
  | succ m =>
    unfold whileN at hw
    refine ⟨F, Γi, G2, C2, g2, r2, ?_⟩
    cases hT : evB Φ false ic Γi with
    | no => simp only [hT] at hw; cases hw; exact (hno rfl).elim
    | ex c Γ1 =>
      simp only [hT] at hw ⊢
      cases hw
      exact fun H3 G3 C3 e3 g3 r3 => h σ2 H3 G3 C3 (s2.trans e3) g3 r3 f2
    | ok b Γ1 =>
      intro H3 G3 C3 e3 g3 r3 _
      cases b with
      | false =>
        simp only [hT] at hw
        cases hw
        rw [if_neg Bool.false_ne_true]
        exact h σ2 H3 G3 C3 (s2.trans e3) g3 r3 f2
      | true =>
        simp only [hT] at hw
        rw [if_pos rfl]
        refine ⟨fun σ2 H2 => ∃ (G2 : Hp) (C2 : List Cell) (Γi : Env), Same G G2 ∧ Good G2 (C2 ++ F) H2 ∧ RelG X.K τ.κ G2 σ2 Γi C2 ∧ FixS fx σ σ2 ∧ whileN (evB Φ false ic) (exSs Φ ss) m Γi = some R, fun σ' H' hh => ⟨m, Nat.lt_succ_self m, hh⟩, F, Γ1, G3, C3, g3, r3, ?_⟩
        cases hB : exSs Φ ss Γ1 with
        | no => simp only [hB] at hw; cases hw; exact (hno rfl).elim
        | ex c Γ4 =>
          simp only [hB] at hw ⊢
          cases hw
          exact fun σ4 H4 G4 C4 e4 g4 r4 f4 => h σ4 H4 G4 C4 (s2.trans (e3.trans e4)) g4 r4 (f2.trans f4)
        | rt t Γ4 =>
          simp only [hB] at hw ⊢
          cases hw
          exact fun v σ4 H4 G4 C4 Ct e4 g4 r4 t4 f4 => h v σ4 H4 G4 C4 Ct (s2.trans (e3.trans e4)) g4 r4 t4 (f2.trans f4)
        | nx Γ4 =>
          simp only [hB] at hw ⊢
          exact fun σ4 H4 G4 C4 e4 g4 r4 f4 => ⟨G4, C4, Γ4, s2.trans (e3.trans e4), g4, r4, f2.trans f4, hw⟩
/-! ### raise, try -/
theorem pmk_own0 {C : Addr} {bmB : List Value} {B newId initId : String} {x : Str} {p pos : Pos} (F : ExcBaseFacts B newId initId bmB) (q : PySem.W.excIn X.K C bmB newId = true) (gC : X.mg x = some (.ref C)) (kC : PySem.W.keepIn X.K (.ref C) = true) (r : Raises X (.ref C)) (hg : Gl X x)
    (hdb : (x == ("__debug__" : Str)) = false) : PMk X (.Call (.Name x p) [] [] pos) (fun _ H Q => Q (.ref C) none H) := by
  intro pins s σ H Q I h
  refine wpAny_Call_Name_kw (ld_glob I hg gC ?_ hdb)
  refine PySem.W.callWith_K0 I.kIn kC ?_
  show wpAny _ _ (call (.ref C) []) _ _ _
  obtain ⟨bm, N, nm, qn, bs, hdct, sn, sub, ab, col, dd, k0, k1, k2, k3, k5, mN, hC, hN, hni, T⟩ := exc_obj I.kIn q
  refine wpAny_call_exc_subT F T hC hN hni (fun h' e hm => ?_) (by show 0 ≤ sizeLine; omega)
  exact mk_of I hm r h (I.hok.gone hm.new)
theorem st_raise {c : Nat} {bmB : List Value} {B newId initId : String} {x : Str} {p pos pos' : Pos} (hc : X.calm = true) (tk : Takes X W) (F : ExcBaseFacts B newId initId bmB) (q : PySem.W.excIn X.K (τ.ea c) bmB newId = true) (gC : X.mg x = some (.ref (τ.ea c))) (kC : PySem.W.keepIn X.K (.ref (τ.ea c)) = true) (r : Raises X (.ref (τ.ea c))) (hg : Gl X x)
    (hdb : (x == ("__debug__" : Str)) = false) : PS X (.Raise (some (.Call (.Name x p) [] [] pos)) none pos') (tS X.K τ W fx (exS Φ (.raise c))) := by
  refine (ps_raise hc tk (pmk_own0 F q gC kC r hg hdb)).imp fun D σ H h => ?_
  obtain ⟨F, Γ, G, C, g, r, h⟩ := h
  unfold exS at h
  exact h σ H G C (L2.Same.refl G) g r FixS.refl
/-- the clauses: each returns a text -/
inductive HdOk (X : Cx) (τ : Tb) : List ExceptHandler → List (Nat × Str) → Prop
  | nil : HdOk X τ [] []
  | cons {x y : Str} {c : Nat} {np pos' p1 p2 : Pos} {j : Nat} {hds : List ExceptHandler} {l : List (Nat × Str)} (hc : Names X x (.ref (τ.ea c))) (r : HdOk X τ hds l) :
      HdOk X τ (.ExceptHandler (some (.Name x np)) none [.Return (some (.Constant (.str y) j p1)) p2] pos' :: hds) ((c, y) :: l)
def hdT (τ : Tb) : List (Nat × Str) → List (Value × (Addr → Value → Option Addr → TS))
  | [] => []
  | (c, y) :: l => (.ref (τ.ea c), fun _ _ _ => tRet (tC (.str y))) :: hdT τ l
theorem HdOk.hds {hds : List ExceptHandler} {l : List (Nat × Str)} (h : HdOk X τ hds l) : HdsOk X hds (hdT τ l) := by
  induction h with
  | nil => exact .nil
  | cons hc r ih => exact .cons hc (fun _ _ _ _ _ _ _ => pss_one (ps_ret pe_str)) ih
theorem st_try {body : List Stmt} {h₀ : ExceptHandler} {hds : List ExceptHandler} {hs : List (Nat × Str)} {ss : Ss} {pos : Pos} (hst : X.stack = X.env :: X.outer) (hf : X.env.frame = some X.env.locals) (tk : Takes X W)
    (hex : ∀ p ∈ hs, ∀ p' ∈ hs, PySem.W.exmOne X.K (.ref (τ.ea p.1)) (.ref (τ.ea p'.1)) = some (p'.1 == p.1))
    (hb : ∀ (W : WX) (pn : List (Addr × Obj)) (xe : Value → Shared → Prop), Takes (X.tr pn xe) W → PassesOwn (model X.prog X.w) X.A X.env xe → PSs (X.tr pn xe) body (tS X.K τ W fx (exSs Φ ss)))
    (hh : HdOk X τ (h₀ :: hds) hs) : PS X (.Try body (h₀ :: hds) [] [] pos) (tS X.K τ W fx (exS Φ (.tryS ss hs))) := by
  refine (ps_try_many (tb := fun W => tS X.K τ W fx (exSs Φ ss)) hst hf tk hb hh.hds).imp fun D σ H h => ?_
  obtain ⟨F, Γ, G, C, g, r, h⟩ := h
  refine ⟨F, Γ, G, C, g, r, ?_⟩
  unfold exS at h
  cases hA : exSs Φ ss Γ with
  | no => simp only [hA] at h
  | nx Γ1 => simp only [hA] at h ⊢; exact h
  | rt t Γ1 => simp only [hA] at h ⊢; exact h
  | ex c Γ1 =>
    simp only [hA] at h ⊢
    have hcn : ∃ p ∈ hs, p.1 = c := by
      have key : ∀ (l : List (Nat × Str)), raised c Γ1 l ≠ .no → ∃ p ∈ l, p.1 = c := by
        intro l
        induction l with
        | nil => intro q; exact (q rfl).elim
        | cons p l ih =>
          intro q
          obtain ⟨k, y⟩ := p
          by_cases hk : (k == c) = true
          · exact ⟨(k, y), List.mem_cons_self, eq_of_beq hk⟩
          · unfold raised at q
            rw [if_neg hk] at q
            obtain ⟨p, hp, e⟩ := ih q
            exact ⟨p, List.mem_cons_of_mem _ hp, e⟩
      exact key hs fun z => by rw [z] at h; exact h
    obtain ⟨p0, hp0, rfl⟩ := hcn
    generalize hc0 : p0.1 = c at *
    intro σ1 H1 G1 C1 e1 g1 r1 f1
    have go : ∀ (l : List (Nat × Str)), (∀ p ∈ l, p ∈ hs) → (match raised c Γ1 l with
        | .nx Γ' => ∀ σ' H' G' C', Same G G' → Good G' (C' ++ F) H' → RelG X.K τ.κ G' σ' Γ' C' → FixS fx σ σ' → D.nx σ' H'
        | .rt t Γ' => ∀ v σ' H' G' C' Ct, Same G G' → Good G' (Ct ++ (C' ++ F)) H' → RelG X.K τ.κ G' σ' Γ' C' → RelT X.K τ.κ G' v t Ct → FixS fx σ σ' → D.rt v H'
        | .ex c Γ' => ∀ σ' H' G' C', Same G G' → Good G' (C' ++ F) H' → RelG X.K τ.κ G' σ' Γ' C' → FixS fx σ σ' → W (.ref (τ.ea c)) none σ' H'
        | .no => False) → wMany X.K W D (hdT τ l) (.ref (τ.ea c)) none σ1 H1 := by
      intro l
      induction l with
      | nil =>
        intro _ h
        unfold raised at h
        exact h.elim
      | cons p l ih =>
        intro hm h
        obtain ⟨k, y⟩ := p
        have hx : PySem.W.exmOne X.K (.ref (τ.ea c)) (.ref (τ.ea k)) = some (k == c) := by rw [← hc0]; exact hex p0 hp0 (k, y) (hm _ List.mem_cons_self)
        refine ⟨k == c, hx, fun hk a ha => ?_, fun hk => ih (fun p hp => hm p (List.mem_cons_of_mem _ hp)) ?_⟩
        · unfold raised at h
          rw [if_pos hk] at h
          exact h (.str y) σ1 H1 G1 C1 [] e1 g1 r1 (.sh (.str y)) f1
        · unfold raised at h
          rw [if_neg (by rw [hk]; exact Bool.false_ne_true)] at h
          exact h
    exact go hs (fun _ h => h) h
end
end Z

set_option Elab.async false
set_option linter.all false
set_option maxRecDepth 100000
namespace Z
open PySem PySem.Spec PyProof.Rows L2
section
variable {X : Cx} {τ : Tb} {W : WX} {K : PySem.W.Frag} {Φ : Nat → List T → FOut} {fx : List Nat}
/-- several values, given up as trees -/
def tTs (K : PySem.W.Frag) (τ : Tb) (W : WX) (run : Env → Out (List T)) : TA := fun σ H Q => ∃ F Γ G C, Good G (C ++ F) H ∧ RelG K τ.κ G σ Γ C ∧ match run Γ with
  | .ok ts Γ' => ∀ vs H' G' C' Ct, Same G G' → Good G' (Ct ++ (C' ++ F)) H' → RelG K τ.κ G' σ Γ' C' → RelTs K τ.κ G' vs ts Ct → Q vs H'
  | .ex c Γ' => ∀ H' G' C', Same G G' → Good G' (C' ++ F) H' → RelG K τ.κ G' σ Γ' C' → W (.ref (τ.ea c)) none σ H'
  | .no => False
theorem s_Ts_nil : PA X [] (tTs X.K τ W (evTs Φ .nil)) := by
  refine pa_nil.imp fun σ H Q h => ?_
  obtain ⟨F, Γ, G, C, g, r0, h⟩ := h
  unfold evTs at h
  exact h [] H G C [] (L2.Same.refl G) g r0 .nil
theorem s_Ts_cons {e : Expr} {es : List Expr} {i : E} {is : Es} (he : PE X e (tO X.K τ W (ev Φ i) (spure i))) (hes : PA X es (tTs X.K τ W (evTs Φ is))) (hs : starEach (e :: es) X.env = (false, eval e X.env) :: starEach es X.env) : PA X (e :: es) (tTs X.K τ W (evTs Φ (.cons i is))) := by
  refine (pa_cons he hes hs).imp fun σ H Q h => ?_
  obtain ⟨F, Γ, G, C, g, r0, h⟩ := h
  refine tO_esc g r0 ?_
  unfold evTs at h
  have hb : ((ev Φ i Γ).bind fun o Γ => (esc o Γ).bind fun t Γ => (evTs Φ is Γ).bind fun ts Γ => Out.ok (t :: ts) Γ) = ((ev Φ i Γ).bind fun o Γ => esc o Γ).bind fun t Γ => (evTs Φ is Γ).bind fun ts Γ => Out.ok (t :: ts) Γ := by
    cases ev Φ i Γ <;> rfl
  rw [hb] at h
  cases hA : ((ev Φ i Γ).bind fun o Γ => esc o Γ) with
  | no => simp only [hA, Out.bind_no] at h
  | ex c Γ1 => simp only [hA, Out.bind_ex] at h ⊢; exact h
  | ok t Γ1 =>
    simp only [hA, Out.bind_ok] at h ⊢
    intro v H1 G1 C1 Ct e1 g1 r1 t1
    refine ⟨Ct ++ F, Γ1, G1, C1, g1.re (fun a => by simp <;> omega) (fun c hc => by simp at hc ⊢; grind), r1, ?_⟩
    cases hR : evTs Φ is Γ1 with
    | no => simp only [hR, Out.bind_no] at h
    | ex c Γ3 => simp only [hR, Out.bind_ex] at h ⊢; exact fun H3 G3 C3 e3 g3 r3 => h H3 G3 C3 (e1.trans e3) (g3.re (fun a => by simp <;> omega) (fun c hc => by simp at hc ⊢; grind)) r3
    | ok ts Γ3 =>
      simp only [hR, Out.bind_ok] at h ⊢
      exact fun vs H3 G3 C3 Cs e3 g3 r3 d3 => h (v :: vs) H3 G3 C3 (Ct ++ Cs) (e1.trans e3) (g3.re (fun a => by simp <;> omega) (fun c hc => by simp at hc ⊢; grind)) r3 (.cons (t1.mono e3) d3)
theorem gNamesT_ok {G : Hp} : ∀ (is : List Nat) (vs : List V) (ts : List T) (σ : L2.St) (H : Hp) (Q : L2.St → Hp → Prop) (Γ Γ' : Env) (C Ct F : List Cell), Good G (Ct ++ (C ++ F)) H → RelG K τ.κ G σ Γ C → RelTs K τ.κ G vs ts Ct → setTs Γ is ts = some Γ' →
    (∀ C', Good G (C' ++ F) H → RelG K τ.κ G (setV σ is vs) Γ' C' → Q (setV σ is vs) H) → gNames is vs σ H Q
  | [], vs, ts, σ, H, Q, Γ, Γ', C, Ct, F, g, r, hd, e, h => by
    cases hd with
    | nil => unfold setTs at e; cases e; exact ⟨rfl, h C g r⟩
    | cons h1 h2 => unfold setTs at e; cases e
  | i :: is, vs, ts, σ, H, Q, Γ, Γ', C, Ct, F, g, r, hd, e, h => by
    cases hd with
    | nil => unfold setTs at e; cases e
    | @cons v vs t ts C1 C2 h1 h2 =>
      unfold setTs at e
      obtain ⟨C', r', a, b⟩ := r.set (i := i) h1
      refine ⟨v, vs, rfl, ?_⟩
      show gNames is vs (σ.set i (some v)) H Q
      exact gNamesT_ok is vs ts _ H Q _ Γ' C' C2 F (g.re (fun x => by have := a x; simp at this ⊢; omega) (fun c hc => by have := b c; simp at hc this ⊢; grind)) r' h2 e fun C3 g3 r3 => h C3 g3 r3
theorem setV_gNames : ∀ (is : List Nat) (vs : List V) (σ : L2.St) (H : Hp) (Q : L2.St → Hp → Prop), gNames is vs σ H Q → vs.length = is.length ∧ Q (setV σ is vs) H
  | [], vs, σ, H, Q, h => by obtain ⟨rfl, h⟩ := h; exact ⟨rfl, h⟩
  | i :: is, vs, σ, H, Q, h => by
    obtain ⟨v, r, rfl, h⟩ := h
    have h : gNames is r (σ.set i (some v)) H Q := h
    obtain ⟨a, b⟩ := setV_gNames is r _ H Q h
    exact ⟨by simp [a], b⟩
theorem par_read {is : List Nat} {es : Es} (hfx : ∀ i ∈ is, i ∉ fx) (D : Ends) (σ : L2.St) (H : Hp) (h : tS K τ W fx (exS Φ (.par is es)) D σ H) : tTs K τ W (evTs Φ es) σ H fun vs H1 => vs.length = is.length ∧ D.nx (setV σ is vs) H1 := by
  obtain ⟨F, Γ, G, C, g, r, h⟩ := h
  refine ⟨F, Γ, G, C, g, r, ?_⟩
  unfold exS at h
  cases hA : evTs Φ es Γ with
  | no => simp only [hA, Out.toS_no] at h
  | ex c Γ1 => simp only [hA, Out.toS_ex] at h ⊢; exact fun H1 G1 C1 e1 g1 r1 => h σ H1 G1 C1 e1 g1 r1 FixS.refl
  | ok ts Γ1 =>
    simp only [hA, Out.toS_ok] at h ⊢
    intro vs H1 G1 C1 Ct e1 g1 r1 t1
    cases hB : setTs Γ1 is ts with
    | none => simp only [hB, lift_none, Out.toS_no] at h
    | some Γ2 =>
      simp only [hB, lift_some, Out.toS_ok] at h
      exact setV_gNames is vs σ H1 D.nx (gNamesT_ok is vs ts σ H1 D.nx Γ1 Γ2 C1 Ct F g1 r1 t1 hB fun C2 g2 r2 => h _ H1 G1 C2 e1 g2 r2 (FixS.setV hfx))
theorem len2 {α : Type} {l : List α} (h : l.length = 2) : ∃ a b, l = [a, b] := by
  match l, h with
  | [a, b], _ => exact ⟨a, b, rfl⟩
theorem len3 {α : Type} {l : List α} (h : l.length = 3) : ∃ a b c, l = [a, b, c] := by
  match l, h with
  | [a, b, c], _ => exact ⟨a, b, c, rfl⟩
theorem st_par2 {i j : Nat} {x y : Str} {a b : Expr} {es : Es} {px py pt : Pos} {kt k2 pt2} {pos : Pos} (hc : X.calm = true) (hN : X.N.Nodup) (hi : X.N[i]? = some x) (hj : X.N[j]? = some y) (hij : i ≠ j)
    (hx : X.env.scope.names.lookup x = some .local) (hy : X.env.scope.names.lookup y = some .local) (hfx : i ∉ fx) (hfy : j ∉ fx) (ha : PA X [a, b] (tTs X.K τ W (evTs Φ es)))
    (hw : swappedStores [.Tuple [.Name x px, .Name y py] kt pt] (.Tuple [a, b] k2 pt2) X.env = pure (some [x, y]))
    (hs : swapsWithSole [.Tuple [.Name x px, .Name y py] kt pt] (.Tuple [a, b] k2 pt2) pos.line X.env = pure false) :
    PS X (.Assign [.Tuple [.Name x px, .Name y py] kt pt] (.Tuple [a, b] k2 pt2) pos) (tS X.K τ W fx (exS Φ (.par [i, j] es))) := by
  refine (ps_par hc hN hi hj hij hx hy ha hw hs).imp fun D σ H h => ?_
  have h := par_read (by simp; exact ⟨hfx, hfy⟩) D σ H h
  obtain ⟨F, Γ, G, C, g, r, h⟩ := h
  refine ⟨F, Γ, G, C, g, r, ?_⟩
  cases hA : evTs Φ es Γ with
  | no => simp only [hA] at h
  | ex c Γ1 => simp only [hA] at h ⊢; exact h
  | ok ts Γ1 =>
    simp only [hA] at h ⊢
    intro vs H1 G1 C1 Ct e1 g1 r1 t1
    obtain ⟨hl, h⟩ := h vs H1 G1 C1 Ct e1 g1 r1 t1
    obtain ⟨v, w, rfl⟩ := len2 hl
    exact ⟨v, w, rfl, h⟩
theorem st_par3 {i j l : Nat} {x y z : Str} {a b c : Expr} {es : Es} {px py pz pt : Pos} {kt k2 pt2} {pos : Pos} (hc : X.calm = true) (hN : X.N.Nodup) (hi : X.N[i]? = some x) (hj : X.N[j]? = some y) (hl : X.N[l]? = some z) (hij : i ≠ j) (hil : i ≠ l) (hjl : j ≠ l)
    (hx : X.env.scope.names.lookup x = some .local) (hy : X.env.scope.names.lookup y = some .local) (hz : X.env.scope.names.lookup z = some .local) (hfx : i ∉ fx) (hfy : j ∉ fx) (hfz : l ∉ fx) (ha : PA X [a, b, c] (tTs X.K τ W (evTs Φ es)))
    (hw : swappedStores [.Tuple [.Name x px, .Name y py, .Name z pz] kt pt] (.Tuple [a, b, c] k2 pt2) X.env = pure (some [x, y, z]))
    (hs : swapsWithSole [.Tuple [.Name x px, .Name y py, .Name z pz] kt pt] (.Tuple [a, b, c] k2 pt2) pos.line X.env = pure false) :
    PS X (.Assign [.Tuple [.Name x px, .Name y py, .Name z pz] kt pt] (.Tuple [a, b, c] k2 pt2) pos) (tS X.K τ W fx (exS Φ (.par [i, j, l] es))) := by
  refine (ps_par3 hc hN hi hj hl hij hil hjl hx hy hz ha hw hs).imp fun D σ H h => ?_
  have h := par_read (by simp; exact ⟨hfx, hfy, hfz⟩) D σ H h
  obtain ⟨F, Γ, G, C, g, r, h⟩ := h
  refine ⟨F, Γ, G, C, g, r, ?_⟩
  cases hA : evTs Φ es Γ with
  | no => simp only [hA] at h
  | ex c Γ1 => simp only [hA] at h ⊢; exact h
  | ok ts Γ1 =>
    simp only [hA] at h ⊢
    intro vs H1 G1 C1 Ct e1 g1 r1 t1
    obtain ⟨hl, h⟩ := h vs H1 G1 C1 Ct e1 g1 r1 t1
    obtain ⟨v, w, u, rfl⟩ := len3 hl
    exact ⟨v, w, u, rfl, h⟩
/-- the pair is laid, then taken apart -/
theorem st_parT {is : List Nat} {tg : Expr} {es : List Expr} {ies : Es} {k : Nat} {pt pos : Pos} (hlen : es.length ≤ 1000) (hil : is.length ≤ 1000) (hfx : ∀ i ∈ is, i ∉ fx) (ha : PA X es (tTs X.K τ W (evTs Φ ies))) (hg : PG X tg (gOf X.K false is)) (hs : swapsWithSole [tg] (.Tuple es k pt) pos.line X.env = pure false) (hw : swappedStores [tg] (.Tuple es k pt) X.env = pure none)
    (h1 : (assignEach [tg] X.env).map (·.2) = [assign tg X.env]) : PS X (.Assign [tg] (.Tuple es k pt) pos) (tS X.K τ W fx (exS Φ (.par is ies))) := by
  refine (ps_asg (pe_tup ha) hg hs hw h1).imp fun D σ H h => ?_
  obtain ⟨F, Γ, G, C, g, r, h⟩ := h
  refine ⟨F, Γ, G, C, g, r, ?_⟩
  unfold exS at h
  cases hA : evTs Φ ies Γ with
  | no => simp only [hA, Out.toS_no] at h
  | ex c Γ1 => simp only [hA, Out.toS_ex] at h ⊢; exact fun H1 G1 C1 e1 g1 r1 => h σ H1 G1 C1 e1 g1 r1 FixS.refl
  | ok ts Γ1 =>
    simp only [hA, Out.toS_ok] at h ⊢
    intro vs H1 G1 C1 Ct e1 g1 r1 t1
    cases hB : setTs Γ1 is ts with
    | none => simp only [hB, lift_none, Out.toS_no] at h
    | some Γ2 =>
      simp only [hB, lift_some, Out.toS_ok] at h
      have hln : vs.length = is.length := (setV_gNames is vs σ H1 (fun _ _ => True) (gNamesT_ok is vs ts σ H1 _ Γ1 Γ2 C1 Ct F g1 r1 t1 hB fun _ _ _ => trivial)).1
      refine ⟨by rw [hln]; exact Nat.le_trans hil (by decide), fun p hp => ?_⟩
      have g2 := g1.newG (.tup vs) hp
      have e2 : Same G1 (upd G1 p (.tup vs)) := L2.Same.new (g1.fresh hp).1
      refine ⟨p, vs, rfl, SqT.of upd_same, hln, ?_⟩
      exact gNamesT_ok is vs ts σ _ D.nx Γ1 Γ2 C1 Ct F g2 (r1.mono e2) (t1.mono e2) hB fun C2 g3 r3 => h _ _ _ C2 (e1.trans e2) g3 r3 (FixS.setV hfx)
/-! ### lists are changed -/
/-- an owned list in a slot -/
theorem RelG.list {G H : Hp} {σ : L2.St} {Γ : Env} {C F : List Cell} {k : Nat} {ts : List T} (r : RelG K τ.κ G σ Γ C) (g : Good G (C ++ F) H) (hk : Γ[k]? = some (some (.ol ts))) :
    ∃ p vs Ca Ct Cb, σ[k]? = some (some (.ref p)) ∧ C = Ca ++ ((p, .lst vs) :: Ct ++ Cb) ∧ RelTs K τ.κ G vs ts Ct ∧ H p = some (.lst vs) ∧ ∀ G' vs' ts' Ct', Same G G' → RelTs K τ.κ G' vs' ts' Ct' → RelG K τ.κ G' σ (Γ.set k (some (.ol ts'))) (Ca ++ ((p, .lst vs') :: Ct' ++ Cb)) := by
  obtain ⟨v, Ca, Ct, Cb, q1, q2, q3, q4, q5⟩ := r.get hk
  cases q3 with
  | @ol p vs _ Ct' h =>
    refine ⟨p, vs, Ca, Ct', Cb, q1, q2, h, (g.mem (p, .lst vs) (by rw [q2]; simp)).1, fun G' vs' ts' Cs e h' => q5 G' (.ol ts') _ e (.ol h')⟩
theorem st_app {k : Nat} {x : Str} {e : Expr} {ie : E} {p apos cpos pos : Pos} (hN : X.N[k]? = some x) (hv : Vis X.env.scope x) (hd : (x == ("__debug__" : Str)) = false) (hcd : (x == ("__classdict__" : Str)) = false)
    (he : PE X e (tO X.K τ W (ev Φ ie) (spure ie))) (hst : starEach [e] X.env = (false, eval e X.env) :: starEach [] X.env)
    (hfew : ((backTo cpos (starEach [e] X.env)).all (fun x => !x.1) && (backToKw cpos (keywordEach [] X.env)).all (fun x => x.1.isSome) && decide ([e].length + ([] : List Keyword).length + (if ([] : List Keyword).isEmpty then 0 else 1) < 30)) = true)
    (hline : (apos.endLine == cpos.line) = true) (hsw : swapsWith (.Call (.Attribute (.Name x p) "append" apos) [e] [] cpos) none pos.line X.env = pure false) :
    PS X (.Expr (.Call (.Attribute (.Name x p) "append" apos) [e] [] cpos) pos) (tS X.K τ W fx (exS Φ (.app k ie))) := by
  refine (ps_expr (pe_bm (T := "list") (id := "list.append") PySem.F.plainAttrs_list PySem.F.slot_list_append PySem.F.type_list_append mt_append (pe_var hN hv hd hcd) (pa_cons he pa_nil hst) rfl hfew hline hst rfl) hsw).imp fun D σ H h => ?_
  obtain ⟨F, Γ, G, C, g, r, h⟩ := h
  unfold exS at h
  cases hk : Γ[k]? with
  | none => simp only [hk] at h
  | some o =>
    cases o with
    | none => simp only [hk] at h
    | some t0 =>
      cases t0 with
      | sh d => simp only [hk] at h
      | ob _ _ _ => simp only [hk] at h
      | tp _ => simp only [hk] at h
      | ol ts0 =>
        simp only [hk] at h
        obtain ⟨q, vs0, Ca, Ct0, Cb, z1, z2, z3, z4, z5⟩ := r.list g hk
        refine ⟨.ref q, z1, .inl ⟨rfl, vs0, SqL.of z4⟩, tO_esc g r ?_⟩
        rw [← toS_bind] at h
        cases hA : ((ev Φ ie Γ).bind fun o Γ => esc o Γ) with
        | no => simp only [hA, Out.toS_no] at h
        | ex c Γ1 => simp only [hA, Out.toS_ex] at h ⊢; exact fun H1 G1 C1 e1 g1 r1 => h σ H1 G1 C1 e1 g1 r1 FixS.refl
        | ok t Γ1 =>
          simp only [hA, Out.toS_ok] at h ⊢
          intro v H1 G1 C1 Ct e1 g1 r1 t1
          cases hk1 : Γ1[k]? with
          | none => simp only [hk1] at h
          | some o =>
            cases o with
            | none => simp only [hk1] at h
            | some t0 =>
              cases t0 with
              | sh d => simp only [hk1] at h
              | ob _ _ _ => simp only [hk1] at h
              | tp _ => simp only [hk1] at h
              | ol ts =>
                simp only [hk1] at h
                by_cases hln : lineOk ts.length = true
                case neg => rw [if_neg hln] at h; exact h.elim
                rw [if_pos hln] at h
                have g1' : Good G1 (C1 ++ (Ct ++ F)) H1 := g1.re (fun a => by simp <;> omega) (fun c hc => by simp at hc ⊢; grind)
                obtain ⟨q', vs, Ca1, Ct1, Cb1, y1, y2, y3, y4, y5⟩ := r1.list g1' hk1
                rw [z1] at y1
                cases y1
                refine ⟨q, vs, v, rfl, rfl, y4, by rw [y3.len]; exact line_lt hln, ?_⟩
                have g2 : Good G1 ((q, .lst vs) :: ((Ct1 ++ Ct) ++ (Ca1 ++ (Cb1 ++ F)))) H1 := g1'.re (fun a => by rw [y2]; simp; omega) (fun c hc => by rw [y2]; simp at hc ⊢; grind)
                exact h σ _ G1 _ e1 ((g2.set (.lst (vs ++ [v]))).re (fun a => by simp <;> omega) (fun c hc => by simp at hc ⊢; grind)) (y5 G1 (vs ++ [v]) (ts ++ [t]) (Ct1 ++ Ct) (L2.Same.refl G1) (relTs_snoc y3 t1)) FixS.refl
theorem relTs_set {G : Hp} {v : V} {t : T} {Ct : List Cell} : ∀ {vs : List V} {ts : List T} {C : List Cell} (j : Nat), RelTs K τ.κ G vs ts C → RelT K τ.κ G v t Ct → ∃ C', RelTs K τ.κ G (vs.set j v) (ts.set j t) C' ∧ (∀ a, cnt a C' ≤ cnt a Ct + cnt a C) ∧ ∀ c ∈ C', c ∈ Ct ++ C
  | _, _, _, j, .nil, h => ⟨[], .nil, fun a => by simp, fun c hc => by cases hc⟩
  | _, _, _, 0, .cons (C := C1) (C' := C2) h1 h2, h => ⟨Ct ++ C2, .cons h h2, fun a => by simp <;> omega, fun c hc => by simp at hc ⊢; grind⟩
  | _, _, _, j + 1, .cons (C := C1) (C' := C2) h1 h2, h => by
    obtain ⟨C', a, b, c⟩ := relTs_set j h2 h
    exact ⟨C1 ++ C', .cons h1 a, fun x => by have := b x; simp; omega, fun x hx => by have := c x; simp at hx this ⊢; grind⟩
theorem st_set {k : Nat} {x : Str} {e ei : Expr} {ie ii : E} {p spos pos : Pos} (hN : X.N[k]? = some x) (hv : Vis X.env.scope x) (hd : (x == ("__debug__" : Str)) = false) (hcd : (x == ("__classdict__" : Str)) = false)
    (he : PE X e (tO X.K τ W (ev Φ ie) (spure ie))) (hi : PE X ei (tO X.K τ W (ev Φ ii) (spure ii)))
    (ha : ∀ v, assign (.Subscript (.Name x p) ei spos) X.env v = (do
      let ov ← holding [v] (eval (.Name x p) X.env)
      let iv ← holding [v, ov] (eval ei X.env)
      standAt spos
      holding [v, ov, iv] (setItem ov iv v)
      release [v, ov, iv] []))
    (hs : swapsWithSole [.Subscript (.Name x p) ei spos] e pos.line X.env = pure false) (hw : swappedStores [.Subscript (.Name x p) ei spos] e X.env = pure none) :
    PS X (.Assign [.Subscript (.Name x p) ei spos] e pos) (tS X.K τ W fx (exS Φ (.set k ii ie))) := by
  refine (ps_asg he (pg_sub (pe_var hN hv hd hcd) hi set_list ha) hs hw rfl).imp fun D σ H h => ?_
  obtain ⟨F, Γ, G, C, g, r, h⟩ := h
  refine tO_esc g r ?_
  unfold exS at h
  rw [← toS_bind] at h
  cases hA : ((ev Φ ie Γ).bind fun o Γ => esc o Γ) with
  | no => simp only [hA, Out.toS_no] at h
  | ex c Γ1 => simp only [hA, Out.toS_ex] at h ⊢; exact fun H1 G1 C1 e1 g1 r1 => h σ H1 G1 C1 e1 g1 r1 FixS.refl
  | ok t Γ1 =>
    simp only [hA, Out.toS_ok] at h ⊢
    intro v H1 G1 C1 Ct e1 g1 r1 t1
    have g1' : Good G1 (C1 ++ (Ct ++ F)) H1 := g1.re (fun a => by simp <;> omega) (fun c hc => by simp at hc ⊢; grind)
    cases hk : Γ1[k]? with
    | none => simp only [hk] at h
    | some o =>
      cases o with
      | none => simp only [hk] at h
      | some t0 =>
        cases t0 with
        | sh d => simp only [hk] at h
        | ob _ _ _ => simp only [hk] at h
        | tp _ => simp only [hk] at h
        | ol ts0 =>
          simp only [hk] at h
          obtain ⟨q, vs0, Ca, Ct0, Cb, z1, z2, z3, z4, z5⟩ := r1.list g1' hk
          refine ⟨.ref q, z1, Ct ++ F, Γ1, G1, C1, g1', r1, ?_⟩
          cases hI : ev Φ ii Γ1 with
          | no => simp only [hI, Out.toS_no] at h
          | ex c Γ2 =>
            simp only [hI, Out.toS_ex] at h ⊢
            exact fun H2 G2 C2 e2 g2 r2 => h σ H2 G2 C2 (e1.trans e2) (g2.re (fun a => by simp <;> omega) (fun c hc => by simp at hc ⊢; grind)) r2 FixS.refl
          | ok j Γ2 =>
            simp only [hI, Out.toS_ok] at h ⊢
            intro w H2 G2 C2 Co e2 g2 r2 o2 _
            cases j with
            | «at» _ _ => simp only at h
            | t jt =>
              cases jt with
              | ol _ => simp only at h
              | ob _ _ _ => simp only at h
              | tp _ => simp only at h
              | sh d =>
                have ot : RelT X.K τ.κ G2 w (.sh d) Co := o2
                cases d with
                | int j =>
                  simp only at h
                  cases ot with
                  | sh od =>
                    have hw' : w = .int j := by cases od; rfl
                    cases hk2 : Γ2[k]? with
                    | none => simp only [hk2] at h
                    | some o =>
                      cases o with
                      | none => simp only [hk2] at h
                      | some t0 =>
                        cases t0 with
                        | sh d => simp only [hk2] at h
                        | ob _ _ _ => simp only [hk2] at h
                        | tp _ => simp only [hk2] at h
                        | ol ts =>
                          simp only [hk2] at h
                          cases hj : ixJ ts.length j with
                          | none => simp only [hj] at h
                          | some j' =>
                            simp only [hj] at h
                            obtain ⟨q', vs, Ca1, Ct1, Cb1, y1, y2, y3, y4, y5⟩ := r2.list g2 hk2
                            rw [z1] at y1
                            cases y1
                            refine ⟨q, vs, j, j', rfl, hw', y4, by rw [y3.len]; exact hj, ?_⟩
                            obtain ⟨C', k1, k2, k3⟩ := relTs_set j' y3 (t1.mono e2)
                            have g3 : Good G2 ((q, .lst vs) :: ((Ct1 ++ Ct) ++ (Ca1 ++ (Cb1 ++ F)))) H2 := g2.re (fun a => by rw [y2]; simp <;> omega) (fun c hc => by rw [y2]; simp at hc ⊢; grind)
                            exact h σ _ G2 _ (e1.trans e2) ((g3.set (.lst (vs.set j' v))).re (fun a => by have := k2 a; simp <;> omega) (fun c hc => by have := k3 c; simp at hc this ⊢; grind)) (y5 G2 (vs.set j' v) (ts.set j' t) C' (L2.Same.refl G2) k1) FixS.refl
                | none => simp only at h
                | bool _ => simp only at h
                | str _ => simp only at h
                | list _ => simp only at h
                | tuple _ => simp only at h
                | dict _ => simp only at h
end
end Z

set_option Elab.async false
set_option linter.all false
set_option maxRecDepth 100000
namespace Z
open PySem PySem.Spec PyProof.Rows L2
section
variable {X : Cx} {τ : Tb} {W : WX} {K : PySem.W.Frag} {Φ : Nat → List T → FOut} {fx : List Nat} {κ : Nat → Addr}
theorem relTs_zip {G : Hp} : ∀ {vs : List V} {ts : List T} {C : List Cell} {j : Nat} {t : T}, RelTs K κ G vs ts C → ts[j]? = some t → ∃ v Ca Ct Cb, vs[j]? = some v ∧ C = Ca ++ (Ct ++ Cb) ∧ RelT K κ G v t Ct ∧ ∀ G' t' Ct', Same G G' → RelT K κ G' v t' Ct' → RelTs K κ G' vs (ts.set j t') (Ca ++ (Ct' ++ Cb))
  | _, _, _, j, _, .nil, e => by simp at e
  | _, _, _, 0, t, .cons (v := v) (C := C1) (C' := C2) h1 h2, e => by
    simp at e; subst e
    exact ⟨v, [], C1, C2, rfl, rfl, h1, fun G' t' Ct' s h => (show RelTs K κ G' _ _ (Ct' ++ C2) from .cons h (h2.mono s))⟩
  | _, _, _, j + 1, t, .cons (C := C1) (C' := C2) h1 h2, e => by
    obtain ⟨v, Ca, Ct, Cb, a, b, c, d⟩ := relTs_zip (j := j) (t := t) h2 (by simpa using e)
    refine ⟨v, C1 ++ Ca, Ct, Cb, by simpa using a, by rw [b, List.append_assoc], c, fun G' t' Ct' s h => ?_⟩
    rw [List.append_assoc]
    exact .cons (h1.mono s) (d G' t' Ct' s h)
theorem fol_det {G : Hp} {C : List Cell} (hc : ∀ c ∈ C, ∀ c' ∈ C, c.1 = c'.1 → c = c') (hg : ∀ c ∈ C, G c.1 = none) {v0 : V} {p : List Nat} {v : V} (h : Fol G C v0 p v) : ∀ {v' : V}, Fol G C v0 p v' → v = v' := by
  induction h with
  | nil => intro v' h; cases h; rfl
  | lst h1 h2 _ ih =>
    intro v' h
    cases h with
    | lst k1 k2 k3 =>
      have e := hc _ h1 _ k1 rfl
      injection e with _ e
      injection e with e
      subst e
      rw [h2] at k2
      cases k2
      exact ih k3
    | ins k1 k2 k3 =>
      have e := hc _ h1 _ k1 rfl
      injection e with _ e
      cases e
    | tup k1 k2 k3 =>
      have := hg _ h1
      rw [k1] at this; cases this
  | ins h1 h2 _ ih =>
    intro v' h
    cases h with
    | lst k1 k2 k3 =>
      have e := hc _ h1 _ k1 rfl
      injection e with _ e
      cases e
    | ins k1 k2 k3 =>
      have e := hc _ h1 _ k1 rfl
      injection e with _ e
      injection e with _ _ e
      subst e
      rw [h2] at k2
      cases k2
      exact ih k3
    | tup k1 k2 k3 =>
      have := hg _ h1
      rw [k1] at this; cases this
  | tup h1 h2 _ ih =>
    intro v' h
    cases h with
    | lst k1 k2 k3 =>
      have := hg _ k1
      rw [h1] at this; cases this
    | ins k1 k2 k3 =>
      have := hg _ k1
      rw [h1] at this; cases this
    | tup k1 k2 k3 =>
      rw [h1] at k1
      cases k1
      rw [h2] at k2
      cases k2
      exact ih k3
/-- down a path, and back -/
theorem RelT.zip {G : Hp} : ∀ {p : List Nat} {v0 : V} {t0 t : T} {C0 : List Cell}, RelT K κ G v0 t0 C0 → sub t0 p = some t → ∃ v Ca Ct Cb, (∀ C, (∀ c ∈ C0, c ∈ C) → Fol G C v0 p v) ∧ C0 = Ca ++ (Ct ++ Cb) ∧ RelT K κ G v t Ct ∧ ∀ G' t' Ct', Same G G' → RelT K κ G' v t' Ct' → RelT K κ G' v0 (putT t0 p t') (Ca ++ (Ct' ++ Cb))
  | [], v0, t0, t, C0, h, e => by
    rw [sub] at e
    cases e
    refine ⟨v0, [], C0, [], fun C _ => .nil, by simp, h, fun G' t' Ct' s h' => ?_⟩
    have : putT t0 [] t' = t' := by cases t0 <;> rfl
    rw [this]
    simpa using h'
  | j :: p, v0, t0, t, C0, h, e => by
    rw [sub] at e
    cases h with
    | sh h => cases e
    | @ol q vs ts C1 h =>
      cases hk : ts[j]? with
      | none => rw [kid, hk] at e; cases e
      | some u =>
        rw [kid, hk] at e
        obtain ⟨w, Ca, Cw, Cb, a, b, c, d⟩ := relTs_zip h hk
        obtain ⟨v, Da, Dt, Db, f1, f2, f3, f4⟩ := c.zip e
        refine ⟨v, (q, .lst vs) :: (Ca ++ Da), Dt, Db ++ Cb, fun C hC => .lst (hC _ List.mem_cons_self) a (f1 C fun x hx => hC x (List.mem_cons_of_mem _ (by rw [b]; simp [hx]))), by rw [b, f2]; simp, f3, fun G' t' Ct' s h' => ?_⟩
        have := d G' _ _ s (f4 G' t' Ct' s h')
        have e2 : putT (.ol ts) (j :: p) t' = .ol (ts.set j (putT u p t')) := by simp only [putT, hk]
        rw [e2]
        have e3 : (q, HO.lst vs) :: (Ca ++ Da) ++ (Ct' ++ (Db ++ Cb)) = (q, HO.lst vs) :: (Ca ++ (Da ++ (Ct' ++ Db) ++ Cb)) := by simp
        rw [e3]
        exact .ol this
    | @ob q dx cl ns vs ts C1 hl h =>
      cases hk : ts[j]? with
      | none => rw [kid, hk] at e; cases e
      | some u =>
        rw [kid, hk] at e
        obtain ⟨w, Ca, Cw, Cb, a, b, c, d⟩ := relTs_zip h hk
        obtain ⟨v, Da, Dt, Db, f1, f2, f3, f4⟩ := c.zip e
        have hj : j < ns.length := by
          have := (List.getElem?_eq_some_iff.mp a).1
          omega
        refine ⟨v, (q, .ins (κ cl) dx (ns.zip vs)) :: (dx, .own q) :: (Ca ++ Da), Dt, Db ++ Cb, fun C hC => .ins (f := ns[j]) (hC _ List.mem_cons_self) (by rw [List.getElem?_zip_eq_some]; exact ⟨List.getElem?_eq_getElem hj, a⟩) (f1 C fun x hx => hC x (List.mem_cons_of_mem _ (List.mem_cons_of_mem _ (by rw [b]; simp [hx])))), by rw [b, f2]; simp, f3, fun G' t' Ct' s h' => ?_⟩
        have := d G' _ _ s (f4 G' t' Ct' s h')
        have e2 : putT (.ob cl ns ts) (j :: p) t' = .ob cl ns (ts.set j (putT u p t')) := by simp only [putT, hk]
        rw [e2]
        have e3 : (q, HO.ins (κ cl) dx (ns.zip vs)) :: (dx, .own q) :: (Ca ++ Da) ++ (Ct' ++ (Db ++ Cb)) = (q, HO.ins (κ cl) dx (ns.zip vs)) :: (dx, .own q) :: (Ca ++ (Da ++ (Ct' ++ Db) ++ Cb)) := by simp
        rw [e3]
        exact .ob hl this
    | @tp q vs ts C1 hq h =>
      cases hk : ts[j]? with
      | none => rw [kid, hk] at e; cases e
      | some u =>
        rw [kid, hk] at e
        obtain ⟨w, Ca, Cw, Cb, a, b, c, d⟩ := relTs_zip h hk
        obtain ⟨v, Da, Dt, Db, f1, f2, f3, f4⟩ := c.zip e
        refine ⟨v, Ca ++ Da, Dt, Db ++ Cb, fun C hC => .tup hq a (f1 C fun x hx => hC x (by rw [b]; simp [hx])), by rw [b, f2]; simp, f3, fun G' t' Ct' s h' => ?_⟩
        have := d G' _ _ s (f4 G' t' Ct' s h')
        have e2 : putT (.tp ts) (j :: p) t' = .tp (ts.set j (putT u p t')) := by simp only [putT, hk]
        rw [e2]
        have e3 : Ca ++ Da ++ (Ct' ++ (Db ++ Cb)) = Ca ++ (Da ++ (Ct' ++ Db) ++ Cb) := by simp
        rw [e3]
        exact .tp (s _ _ hq) this
end
section
variable {X : Cx} {τ : Tb} {W : WX} {K : PySem.W.Frag} {Φ : Nat → List T → FOut} {fx : List Nat}
/-- a store at a place -/
theorem store_ok' {o i : E} (ho : spure o = true) (hi : spure i = true) {σ : L2.St} {H : Hp} {Q : L2.St → Hp → Prop} {F : List Cell} {Γ : Env} {G : Hp} {C Ct : List Cell} {v : V} {t : T} (g : Good G (Ct ++ (C ++ F)) H) (r : RelG K τ.κ G σ Γ C) (t1 : RelT K τ.κ G v t Ct)
    (h : match storeP Φ o i t Γ with
      | .nx Γ' => ∀ H' G' C', Same G G' → Good G' (C' ++ F) H' → RelG K τ.κ G' σ Γ' C' → Q σ H'
      | .ex c Γ' => ∀ H' G' C', Same G G' → Good G' (C' ++ F) H' → RelG K τ.κ G' σ Γ' C' → W (.ref (τ.ea c)) none σ H'
      | _ => False) : gSub (tO K τ W (ev Φ o) (spure o)) (tO K τ W (ev Φ i) (spure i)) rSetL v σ H Q := by
  refine ⟨Ct ++ F, Γ, G, C, g.re (fun a => by simp <;> omega) (fun c hc => by simp at hc ⊢; grind), r, ?_⟩
  unfold storeP at h
  cases hO : ev Φ o Γ with
  | no => simp only [hO, Out.toS_no] at h
  | ex c Γ1 => simp only [hO, Out.toS_ex] at h ⊢; exact fun H1 G1 C1 e1 g1 r1 => h H1 G1 C1 e1 (g1.re (fun a => by simp <;> omega) (fun c hc => by simp at hc ⊢; grind)) r1
  | ok x Γ1 =>
    simp only [hO, Out.toS_ok] at h ⊢
    intro ov H1 G1 C1 Co e1 g1 r1 o1 sp1
    obtain ⟨hΓ, hC⟩ := sp1 ho
    subst hΓ hC
    refine ⟨Co ++ (Ct ++ F), Γ1, G1, C1, g1.re (fun a => by simp <;> omega) (fun c hc => by simp at hc ⊢; grind), r1, ?_⟩
    cases hI : ev Φ i Γ1 with
    | no => simp only [hI, Out.toS_no] at h
    | ex c Γ2 => simp only [hI, Out.toS_ex] at h ⊢; exact fun H2 G2 C2 e2 g2 r2 => h H2 G2 C2 (e1.trans e2) (g2.re (fun a => by simp <;> omega) (fun c hc => by simp at hc ⊢; grind)) r2
    | ok j Γ2 =>
      simp only [hI, Out.toS_ok] at h ⊢
      intro iv H2 G2 C2 Cj e2 g2 r2 o2 sp2
      obtain ⟨hΓ2, hC2⟩ := sp2 hi
      subst hΓ2 hC2
      cases x with
      | t xt => simp only at h
      | «at» k p =>
        cases j with
        | «at» _ _ => simp only at h
        | t jt =>
          cases jt with
          | ol _ => simp only at h
          | ob _ _ _ => simp only at h
          | tp _ => simp only at h
          | sh dj =>
            have o2' : RelT K τ.κ G2 iv (.sh dj) Cj := o2
            cases dj with
            | int j =>
              have hiv : iv = .int j := by
                cases o2' with
                | sh od => cases od; rfl
              simp only at h
              cases hk : Γ2[k]? with
              | none => simp only [hk] at h
              | some ot =>
                cases ot with
                | none => simp only [hk] at h
                | some t0 =>
                  simp only [hk] at h
                  cases hs : sub t0 p with
                  | none => simp only [hs] at h
                  | some tt =>
                    cases tt with
                    | sh _ => simp only [hs] at h
                    | ob _ _ _ => simp only [hs] at h
                    | tp _ => simp only [hs] at h
                    | ol ts =>
                      simp only [hs] at h
                      cases hj : ixJ ts.length j with
                      | none => simp only [hj] at h
                      | some j' =>
                        simp only [hj] at h
                        obtain ⟨hCo, v0, hv0, hfol⟩ := o1
                        obtain ⟨w0, Ca, Ck, Cb, q1, q2, q3, _, q5⟩ := r2.get hk
                        rw [hv0] at q1
                        cases q1
                        obtain ⟨w, Da, Dt, Db, z1, z2, z3, z4⟩ := q3.zip hs
                        have gC : Good G2 C2 H2 := g2.re (fun a => by simp <;> omega) (fun c hc => by simp; grind)
                        have hw : ov = w := fol_det (cells_one gC.nd) (fun c hc => (gC.mem c hc).2) (hfol.mono e2) (z1 C2 fun c hc => by rw [q2]; simp [hc])
                        subst hw
                        cases z3 with
                        | @ol q vs _ De z3 =>
                          subst hCo
                          refine ⟨q, vs, j, j', rfl, hiv, ?_, by rw [z3.len]; exact hj, ?_⟩
                          · exact (gC.mem (q, .lst vs) (by rw [q2, z2]; simp)).1
                          · obtain ⟨C', k1, k2, k3⟩ := relTs_set j' z3 (t1.mono (e1.trans e2))
                            have back := q5 G2 _ _ (L2.Same.refl G2) (z4 G2 (.ol (ts.set j' t)) _ (L2.Same.refl G2) (.ol k1))
                            have g3 : Good G2 ((q, .lst vs) :: ((De ++ Ct) ++ (Ca ++ (Da ++ (Db ++ (Cb ++ F)))))) H2 := g2.re (fun a => by rw [q2, z2]; simp <;> omega) (fun c hc => by rw [q2, z2]; simp at hc ⊢; grind)
                            exact h _ G2 _ (e1.trans e2) ((g3.set (.lst (vs.set j' v))).re (fun a => by have := k2 a; simp <;> omega) (fun c hc => by have := k3 c; simp at hc this ⊢; grind)) back
            | none => simp only at h
            | bool _ => simp only at h
            | str _ => simp only at h
            | list _ => simp only at h
            | tuple _ => simp only at h
            | dict _ => simp only at h
theorem st_setP {e eo ei : Expr} {ie io ii : E} {spos pos : Pos} (ho : spure io = true) (hi : spure ii = true) (he : PE X e (tO X.K τ W (ev Φ ie) (spure ie))) (hpo : PE X eo (tO X.K τ W (ev Φ io) (spure io))) (hpi : PE X ei (tO X.K τ W (ev Φ ii) (spure ii)))
    (ha : ∀ v, assign (.Subscript eo ei spos) X.env v = (do
      let ov ← holding [v] (eval eo X.env)
      let iv ← holding [v, ov] (eval ei X.env)
      standAt spos
      holding [v, ov, iv] (setItem ov iv v)
      release [v, ov, iv] []))
    (hs : swapsWithSole [.Subscript eo ei spos] e pos.line X.env = pure false) (hw : swappedStores [.Subscript eo ei spos] e X.env = pure none) :
    PS X (.Assign [.Subscript eo ei spos] e pos) (tS X.K τ W fx (exS Φ (.setP io ii ie))) := by
  refine (ps_asg he (pg_sub hpo hpi set_list ha) hs hw rfl).imp fun D σ H h => ?_
  obtain ⟨F, Γ, G, C, g, r, h⟩ := h
  refine tO_esc g r ?_
  unfold exS at h
  rw [← toS_bind] at h
  cases hA : ((ev Φ ie Γ).bind fun o Γ => esc o Γ) with
  | no => simp only [hA, Out.toS_no] at h
  | ex c Γ1 => simp only [hA, Out.toS_ex] at h ⊢; exact fun H1 G1 C1 e1 g1 r1 => h σ H1 G1 C1 e1 g1 r1 FixS.refl
  | ok t Γ1 =>
    simp only [hA, Out.toS_ok] at h ⊢
    intro v H1 G1 C1 Ct e1 g1 r1 t1
    refine store_ok' ho hi g1 r1 t1 ?_
    cases hS : storeP Φ io ii t Γ1 with
    | no => simp only [hS] at h
    | nx Γ2 => simp only [hS] at h ⊢; exact fun H2 G2 C2 e2 g2 r2 => h σ H2 G2 C2 (e1.trans e2) g2 r2 FixS.refl
    | ex c Γ2 => simp only [hS] at h ⊢; exact fun H2 G2 C2 e2 g2 r2 => h σ H2 G2 C2 (e1.trans e2) g2 r2 FixS.refl
    | rt t' Γ2 =>
      exfalso
      unfold storeP at hS
      cases hO : ev Φ io Γ1 with
      | no => simp [hO] at hS
      | ex c Γ => simp [hO] at hS
      | ok x Γ =>
        cases hI : ev Φ ii Γ with
        | no => simp [hO, hI] at hS
        | ex c Γ => simp [hO, hI] at hS
        | ok j Γ' =>
          simp only [hO, hI, Out.toS_ok] at hS
          repeat' (first | (split at hS) | cases hS)
theorem storeP_rt {o i : E} {t t' : T} {Γ Γ' : Env} (h : storeP Φ o i t Γ = .rt t' Γ') : False := by
  unfold storeP at h
  cases hO : ev Φ o Γ with
  | no => simp [hO] at h
  | ex c Γ => simp [hO] at h
  | ok x Γ1 =>
    cases hI : ev Φ i Γ1 with
    | no => simp [hO, hI] at h
    | ex c Γ => simp [hO, hI] at h
    | ok j Γ' =>
      simp only [hO, hI, Out.toS_ok] at h
      repeat' (first | (split at h) | cases h)
theorem st_set2P {e e' eo ei eo' ei' : Expr} {ie ie' io ii io' ii' : E} {sp sp' pt p2 pos : Pos} {kt k2 : Nat} (hc : X.calm = true) (ho : spure io = true) (hi : spure ii = true) (ho' : spure io' = true) (hi' : spure ii' = true) (he : PA X [e, e'] (tTs X.K τ W (evTs Φ (.cons ie (.cons ie' .nil)))))
    (hpo : PE X eo (tO X.K τ W (ev Φ io) (spure io))) (hpi : PE X ei (tO X.K τ W (ev Φ ii) (spure ii))) (hpo' : PE X eo' (tO X.K τ W (ev Φ io') (spure io'))) (hpi' : PE X ei' (tO X.K τ W (ev Φ ii') (spure ii')))
    (ha : ∀ v, assign (.Subscript eo ei sp) X.env v = (do
      let ov ← holding [v] (eval eo X.env)
      let iv ← holding [v, ov] (eval ei X.env)
      standAt sp
      holding [v, ov, iv] (setItem ov iv v)
      release [v, ov, iv] []))
    (ha' : ∀ v, assign (.Subscript eo' ei' sp') X.env v = (do
      let ov ← holding [v] (eval eo' X.env)
      let iv ← holding [v, ov] (eval ei' X.env)
      standAt sp'
      holding [v, ov, iv] (setItem ov iv v)
      release [v, ov, iv] []))
    (hw : swappedStores [.Tuple [.Subscript eo ei sp, .Subscript eo' ei' sp'] kt pt] (.Tuple [e, e'] k2 p2) X.env = pure none) :
    PS X (.Assign [.Tuple [.Subscript eo ei sp, .Subscript eo' ei' sp'] kt pt] (.Tuple [e, e'] k2 p2) pos) (tS X.K τ W fx (exS Φ (.set2P io ii io' ii' ie ie'))) := by
  refine (ps_asg (pe_tup he) (pg_tup hc (pgs_cons (pg_sub hpo hpi set_list ha) (pgs_cons (pg_sub hpo' hpi' set_list ha') pgs_nil rfl) rfl) rfl rfl) rfl hw rfl).imp fun D σ H h => ?_
  obtain ⟨F, Γ, G, C, g, r, h⟩ := h
  refine ⟨F, Γ, G, C, g, r, ?_⟩
  unfold exS at h
  cases hA : evTs Φ (.cons ie (.cons ie' .nil)) Γ with
  | no => simp only [hA, Out.toS_no] at h
  | ex c Γ1 => simp only [hA, Out.toS_ex] at h ⊢; exact fun H1 G1 C1 e1 g1 r1 => h σ H1 G1 C1 e1 g1 r1 FixS.refl
  | ok ts Γ1 =>
    simp only [hA, Out.toS_ok] at h ⊢
    intro vs H1 G1 C1 Ct e1 g1 r1 t1
    match ts, t1 with
    | [], _ => simp only at h
    | [_], _ => simp only at h
    | _ :: _ :: _ :: _, _ => simp only at h
    | [t, t'], .cons (v := v) (C := Ca) q1 (.cons (v := v') (C := Cb) q2 .nil) =>
      simp only at h
      refine ⟨by show 2 ≤ sizeLine; decide, fun p hp => ?_⟩
      have g2 := g1.newG (.tup [v, v']) hp
      have e2 : Same G1 (upd G1 p (.tup [v, v'])) := L2.Same.new (g1.fresh hp).1
      refine ⟨p, [v, v'], rfl, SqT.of upd_same, rfl, v, [v'], rfl, ?_⟩
      refine store_ok' (F := Cb ++ F) (C := C1) (Ct := Ca) ho hi (g2.re (fun a => by simp <;> omega) (fun c hc => by simp at hc ⊢; grind)) (r1.mono e2) (q1.mono e2) ?_
      cases hS : storeP Φ io ii t Γ1 with
      | no => simp only [hS] at h
      | rt _ _ => exact (storeP_rt hS).elim
      | ex c Γ2 =>
        simp only [hS] at h ⊢
        exact fun H2 G2 C2 e3 g3 r3 => h σ H2 G2 C2 (e1.trans (e2.trans e3)) (g3.re (fun a => by simp <;> omega) (fun c hc => by simp at hc ⊢; grind)) r3 FixS.refl
      | nx Γ2 =>
        simp only [hS] at h ⊢
        intro H2 G2 C2 e3 g3 r3
        refine ⟨v', [], rfl, ?_⟩
        refine store_ok' (F := F) (C := C2) (Ct := Cb) ho' hi' (g3.re (fun a => by simp <;> omega) (fun c hc => by simp at hc ⊢; grind)) r3 (q2.mono (e2.trans e3)) ?_
        cases hS2 : storeP Φ io' ii' t' Γ2 with
        | no => simp only [hS2] at h
        | rt _ _ => exact (storeP_rt hS2).elim
        | ex c Γ3 => simp only [hS2] at h ⊢; exact fun H4 G4 C4 e4 g4 r4 => h σ H4 G4 C4 (e1.trans (e2.trans (e3.trans e4))) g4 r4 FixS.refl
        | nx Γ3 =>
          simp only [hS2] at h ⊢
          exact fun H4 G4 C4 e4 g4 r4 => ⟨rfl, h σ H4 G4 C4 (e1.trans (e2.trans (e3.trans e4))) g4 r4 FixS.refl⟩
/-! ### name += an int -/
theorem ip_addI : PIp X .Add (ipI fun a b => a + b) := ip_add
theorem st_aug {k : Nat} {x : Str} {e : Expr} {ie : E} {pos pos' : Pos} (hN : X.N.Nodup) (hi : X.N[k]? = some x) (hx : Loc X.env.scope x) (hfx : k ∉ fx) (he : PE X e (tO X.K τ W (ev Φ ie) (spure ie))) (hf : X.fn x = true ∨ X.env.scope.names.lookup x = some .local) :
    PS X (.AugAssign (.Name x pos') .Add e pos) (tS X.K τ W fx (exS Φ (.aug k ie))) := by
  refine (ps_aug hN hi hx he ip_addI hf).imp fun D σ H h => ?_
  obtain ⟨F, Γ, G, C, g, r, h⟩ := h
  unfold exS at h
  cases hk : Γ[k]? with
  | none => simp only [hk] at h
  | some o =>
    cases o with
    | none => simp only [hk] at h
    | some t0 =>
      cases t0 with
      | ol _ => simp only [hk] at h
      | ob _ _ _ => simp only [hk] at h
      | tp _ => simp only [hk] at h
      | sh d0 =>
        cases d0 with
        | int a =>
          simp only [hk] at h
          obtain ⟨v, Ca, Ct, Cb, q1, q2, q3, q4, q5⟩ := r.get hk
          have hv : v = .int a := by
            cases q3 with
            | sh q3 => cases q3; rfl
          refine ⟨v, q1, F, Γ, G, C, g, r, ?_⟩
          cases hA : ev Φ ie Γ with
          | no => simp only [hA, Out.toS_no] at h
          | ex c Γ1 => simp only [hA, Out.toS_ex] at h ⊢; exact fun H1 G1 C1 e1 g1 r1 => h σ H1 G1 C1 e1 g1 r1 FixS.refl
          | ok x Γ1 =>
            simp only [hA, Out.toS_ok] at h ⊢
            intro w H1 G1 C1 Co e1 g1 r1 o1 _
            cases x with
            | «at» _ _ => simp only at h
            | t xt =>
              cases xt with
              | ol _ => simp only at h
              | ob _ _ _ => simp only at h
              | tp _ => simp only at h
              | sh dx =>
                cases dx with
                | int b =>
                  have hw : w = .int b := by
                    have ox : RelT X.K τ.κ G1 w (.sh (.int b)) Co := o1
                    cases ox with
                    | sh od => cases od; rfl
                  cases hk1 : Γ1[k]? with
                  | none => simp only [hk1] at h
                  | some o2 =>
                    cases o2 with
                    | none => simp only [hk1] at h
                    | some t2 =>
                      cases t2 with
                      | ol _ => simp only [hk1] at h
                      | ob _ _ _ => simp only [hk1] at h
                      | tp _ => simp only [hk1] at h
                      | sh d2 =>
                        cases d2 with
                        | int a' =>
                          simp only [hk1] at h
                          by_cases haa : a = a'
                          · subst haa
                            simp only [if_true] at h
                            refine ⟨a, b, hv, hw, ?_⟩
                            obtain ⟨C2, r2, z2, y2⟩ := r1.set (i := k) (RelT.sh (Dp.int (K := X.K) (H := G1) (a + b)))
                            exact h _ H1 G1 C2 e1 (g1.re (fun a => by have := z2 a; simp at this ⊢ <;> omega) (fun c hc => by have := y2 c; simp at hc this ⊢; grind)) r2 (FixS.setV (is := [k]) (ws := [V.int (a + b)]) (by simpa using hfx))
                          · rw [if_neg haa] at h; exact h.elim
                        | _ => simp only [hk1] at h
                | _ => simp only at h
        | _ => simp only [hk] at h
end
end Z

set_option Elab.async false
set_option linter.all false
set_option maxRecDepth 100000
namespace Z
open PySem PySem.Spec PyProof.Rows L2

/-! ### what a text shows by itself -/
def notStar : Expr → Bool
  | .Starred _ _ => false
  | _ => true
theorem star_cons {e : Expr} {es : List Expr} {env : PySem.Env} (h : notStar e = true) : starEach (e :: es) env = (false, eval e env) :: starEach es env := by
  cases e <;> first | rfl | cases h
theorem star_none {pos : Pos} {env : PySem.Env} : ∀ {es : List Expr}, es.all notStar = true → (backTo pos (starEach es env)).any (·.1) = false
  | [], _ => rfl
  | e :: es, h => by
    rw [List.all_cons, Bool.and_eq_true] at h
    rw [star_cons h.1]
    have := star_none (pos := pos) (env := env) h.2
    unfold backTo at this ⊢
    rw [List.map_cons, List.any_cons, this]
    rfl
def plainTest : Expr → Bool
  | .UnaryOp .Not _ _ => false
  | .BoolOp _ _ _ => false
  | .IfExp _ _ _ _ => false
  | .Compare _ _ _ _ => false
  | _ => true
theorem test_plain {e : Expr} {env : PySem.Env} (h : plainTest e = true) : ∀ whole, isTrue e env whole = (do let v ← whole; standAt e.pos; holding [v] (truthy v)) := by
  intro whole
  cases e with
  | UnaryOp op a p => cases op <;> first | rfl | cases h
  | _ => first | rfl | cases h
def noComp : Expr → Bool
  | .ListComp _ _ _ _ => false
  | .SetComp _ _ _ _ => false
  | .DictComp _ _ _ _ _ => false
  | _ => true
theorem sw_no {e : Expr} {t : Option Expr} {l : Nat} {env : PySem.Env} (h : noComp e = true) : swapsWith e t l env = pure false := by
  cases e <;> first | rfl | cases h
def noSet : Expr → Bool
  | .Set _ _ _ => false
  | _ => true
theorem fold_no {e : Expr} {env : PySem.Env} (h : noSet e = true) : ∀ x, foldedSetIterable e env x = pure x := by
  intro x
  cases e <;> first | rfl | cases h
theorem marks_no {op : CmpOp} {e : Expr} (h : noSet e = true) : behindInMarks op e = false := by
  cases e <;> first | rfl | cases h
def noTup : Expr → Bool
  | .Tuple _ _ _ => false
  | _ => true
theorem stores_noV {ts : List Expr} {e : Expr} {env : PySem.Env} (h : noTup e = true) : swappedStores ts e env = pure none := by
  unfold swappedStores
  split
  · rename_i ts' vs' q
    exfalso
    revert q
    split
    · simp [noTup] at h
    · simp [noTup] at h
    · intro q; cases q
  · rfl
def noTupT : Expr → Bool
  | .Tuple _ _ _ => false
  | .List _ _ => false
  | _ => true
theorem stores_noT {t e : Expr} {env : PySem.Env} (h : noTupT t = true) : swappedStores [t] e env = pure none := by
  unfold swappedStores
  split
  · rename_i ts' vs' q
    exfalso
    revert q
    split
    · rename_i z; cases z; simp [noTupT] at h
    · rename_i z; cases z; simp [noTupT] at h
    · intro q; cases q
  · rfl
def noSlice : Expr → Bool
  | .Slice _ _ _ _ => false
  | _ => true
theorem ix_plain {b : Expr} (h : noSlice b = true) : PlainIx b := by
  intro o i
  cases b <;> first | rfl | cases h
theorem fn_kind {sc : Scope} {env : PySem.Env} (h : env.scope = sc) (hk : sc.kind = .function) : env.blockKind = .function := by
  unfold Env.blockKind
  rw [h, hk]
  rfl
/-- the names of swapped stores -/
def swNm (kind : Str → Option NameKind) (ts : List Expr) : List Str := ts.filterMap fun
    | .Name id pos => if kind id == some .local && pos.line == (ts.head?.map (·.pos.line)).getD 0 then some id else none
    | _ => none
abbrev swNames (sc : Scope) (ts : List Expr) : List Str := swNm (fun x => sc.names.lookup x) ts
def hasStar (vs : List Expr) : Bool := vs.any fun | .Starred .. => true | _ => false
def swB (sc : Scope) (ts vs : List Expr) : Bool := (ts.length == 2 || ts.length == 3) && vs.length == ts.length && !hasStar vs && (swNames sc ts).length == ts.length && (swNames sc ts).eraseDups.length == (swNames sc ts).length && !vs.all (foldedForSure 8) && !vs.all (constantsAlone 8)
/-- it is surely not swapped -/
def nswB (sc : Scope) (ts vs : List Expr) : Bool := !(ts.length == 2 || ts.length == 3) || vs.length != ts.length || (!hasStar vs && ((swNames sc ts).length != ts.length || (swNames sc ts).eraseDups.length != (swNames sc ts).length || vs.all (foldedForSure 8)))
section
variable {sc : Scope} {env : PySem.Env} {ts vs : List Expr} {kt k2 : Nat} {pt p2 : Pos}
theorem sw_form : swappedStores [.Tuple ts kt pt] (.Tuple vs k2 p2) env = (if (!(ts.length == 2 || ts.length == 3) || vs.length != ts.length || env.blockKind != .function) = true then pure none
    else if hasStar vs = true then pure none
    else if ((swNm env.kindOf ts).length != ts.length || (swNm env.kindOf ts).eraseDups.length != (swNm env.kindOf ts).length) = true then pure none
    else if vs.all (foldedForSure 8) = true then pure none
    else if vs.all (constantsAlone 8) = true then (do unsupported "assign.tuple-of-constant-expressions:order-of-the-stores"; pure (some (swNm env.kindOf ts))) else pure (some (swNm env.kindOf ts))) := rfl
theorem sw_yes (h : env.scope = sc) (hk : sc.kind = .function) (hb : swB sc ts vs = true) : swappedStores [.Tuple ts kt pt] (.Tuple vs k2 p2) env = pure (some (swNames sc ts)) := by
  unfold swB at hb
  simp only [Bool.and_eq_true, Bool.not_eq_true', beq_iff_eq] at hb
  obtain ⟨⟨⟨⟨⟨⟨h1, h2⟩, h3⟩, h4⟩, h5⟩, h6⟩, h7⟩ := hb
  have bk := fn_kind h hk
  have hn : swNm env.kindOf ts = swNames sc ts := by unfold swNames; rw [← h]; rfl
  rw [sw_form, hn, bk, h1, h2, h3, h4, h5, h6, h7]
  rw [if_neg (by simp), if_neg (by simp), if_neg (by simp [h4]), if_neg (by simp), if_neg (by simp)]
theorem sw_not (h : env.scope = sc) (hk : sc.kind = .function) (hb : nswB sc ts vs = true) : swappedStores [.Tuple ts kt pt] (.Tuple vs k2 p2) env = pure none := by
  have bk := fn_kind h hk
  have hn : swNm env.kindOf ts = swNames sc ts := by unfold swNames; rw [← h]; rfl
  unfold nswB at hb
  rw [sw_form, hn, bk]
  by_cases c1 : (!(ts.length == 2 || ts.length == 3) || vs.length != ts.length) = true
  · rw [if_pos (by rw [c1]; rfl)]
  · have c1' : (!(ts.length == 2 || ts.length == 3) || vs.length != ts.length) = false := by
      cases q : (!(ts.length == 2 || ts.length == 3) || vs.length != ts.length) with
      | false => rfl
      | true => exact absurd q c1
    rw [c1', Bool.false_or, Bool.and_eq_true, Bool.not_eq_true'] at hb
    rw [if_neg (by rw [c1']; decide), hb.1, if_neg (by decide)]
    have hb := hb.2
    by_cases c2 : ((swNames sc ts).length != ts.length || (swNames sc ts).eraseDups.length != (swNames sc ts).length) = true
    · rw [if_pos c2]
    · rw [if_neg c2]
      have c2' : ((swNames sc ts).length != ts.length || (swNames sc ts).eraseDups.length != (swNames sc ts).length) = false := by
        cases q : ((swNames sc ts).length != ts.length || (swNames sc ts).eraseDups.length != (swNames sc ts).length) with
        | false => rfl
        | true => exact absurd q c2
      rw [c2', Bool.false_or] at hb
      rw [if_pos hb]
end
/-- name = [..]: is the list made for the name? -/
def lcSw (sc scope : Scope) (y : Str) (py pos : Pos) : Bool := sc.names.lookup y == some .local && py.line == pos.line && !(scope.names.any fun (n, k) => n == y && (k == .local || k == .cell))
theorem sw_lc {sc scope : Scope} {env : PySem.Env} {y : Str} {py pos : Pos} {elt : Expr} {gs : List Comprehension} {l : Nat} (h : env.scope = sc) (hk : sc.kind = .function) : swapsWith (.ListComp elt gs scope pos) (some (.Name y py)) l env = pure (lcSw sc scope y py pos) := by
  unfold swapsWith lcSw
  have bk := fn_kind h hk
  simp only [bk, Env.kindOf, h]
  simp [Expr.pos]

/-! ### contexts -/
structure FDef where
  nm : Str
  ps : List Str
  N : List Str
  io : List Bool
  body : Ss
structure Tbl where
  fns : List (Nat × FDef)
  free : List Str
  exs : List (Nat × Str)
structure Cz where
  tb : Tbl
  N : List Str
  sc : Scope
  fs : List (Str × NameKind)
def excBm : List Value := [.type "ValueError", .type "Exception", .type "BaseException", .type "object"]
structure Cok (τ : Tb) (Φ : Nat → List T → FOut) (c : Cz) (X : Cx) : Prop where
  N : X.N = c.N
  nd : c.N.Nodup
  sc : X.env.scope = c.sc
  knd : c.sc.kind = .function
  calm : X.calm = true
  fn : ∀ x, c.fs.lookup x = some .cell → X.fn x = true
  units : X.A.units + 65 < cLine
  pyl : PyR X
  fns : ∀ f d, c.tb.fns.lookup f = some d → ∃ k fa fd, FnOk X.prog X.w X.K X.mg X.base (L2.CX X.prog X.w) k fa fd d.ps (SpOf X.K τ d.io (Φ f)) ∧ Room k X.A ∧ X.mg d.nm = some (.ref fa) ∧ PySem.W.keepIn X.K (.ref fa) = true ∧ Binds X.K fd d.ps []
  free : ∀ x ∈ c.tb.free, X.mg x = none
  exs : ∀ e x, c.tb.exs.lookup e = some x → X.mg x = some (.ref (τ.ea e)) ∧ PySem.W.excIn X.K (τ.ea e) excBm "ValueError.__new__" = true ∧ PySem.W.keepIn X.K (.ref (τ.ea e)) = true ∧ Raises X (.ref (τ.ea e))
  exm : ∀ e x e' x', c.tb.exs.lookup e = some x → c.tb.exs.lookup e' = some x' → PySem.W.exmOne X.K (.ref (τ.ea e)) (.ref (τ.ea e')) = some (e' == e)
def visB (c : Cz) (x : Str) : Bool := match c.sc.names.lookup x with
  | some .local => true
  | some .cell => true
  | some .free => true
  | _ => false
theorem vis_ok {c : Cz} {X : Cx} {x : Str} (hs : X.env.scope = c.sc) (h : visB c x = true) : Vis X.env.scope x := by
  unfold visB at h
  rw [hs]
  split at h
  · exact .inl (by assumption)
  · exact .inr (.inl (by assumption))
  · exact .inr (.inr (by assumption))
  · cases h
def glB (c : Cz) (x : Str) : Bool := decide (c.sc.names.lookup x = some .globalImplicit)
theorem gl_ok {c : Cz} {X : Cx} {x : Str} (hs : X.env.scope = c.sc) (h : glB c x = true) : Gl X x := by
  unfold Gl Env.kindOf
  rw [hs]
  exact of_decide_eq_true h
def frB (c : Cz) (x : Str) : Bool := glB c x && decide (x ∈ c.tb.free)
theorem fr_ok {τ : Tb} {Φ : Nat → List T → FOut} {c : Cz} {X : Cx} {x : Str} (ok : Cok τ Φ c X) (h : frB c x = true) : Gl X x ∧ X.mg x = none := by
  unfold frB at h
  rw [Bool.and_eq_true] at h
  exact ⟨gl_ok ok.sc h.1, ok.free x (of_decide_eq_true h.2)⟩
/-- a name may be stored -/
def stoB (c : Cz) (x : Str) : Bool := match c.sc.names.lookup x with
  | some .local => true
  | some .cell => decide (c.fs.lookup x = some .cell)
  | _ => false
theorem sto_ok {τ : Tb} {Φ : Nat → List T → FOut} {c : Cz} {X : Cx} {x : Str} (ok : Cok τ Φ c X) (h : stoB c x = true) : Loc X.env.scope x ∧ (X.fn x = true ∨ X.env.scope.names.lookup x = some .local) := by
  unfold stoB at h
  rw [ok.sc]
  split at h
  · rename_i q; exact ⟨.inl q, .inr q⟩
  · rename_i q; exact ⟨.inr q, .inl (ok.fn x (of_decide_eq_true h))⟩
  · cases h
def nmB (c : Cz) (k : Nat) (x : Str) : Bool := decide (c.N[k]? = some x) && (!(x == ("__debug__" : Str)) && !(x == ("__classdict__" : Str)))
theorem nm_ok {τ : Tb} {Φ : Nat → List T → FOut} {c : Cz} {X : Cx} {k : Nat} {x : Str} (ok : Cok τ Φ c X) (h : nmB c k x = true) : X.N[k]? = some x ∧ (x == ("__debug__" : Str)) = false ∧ (x == ("__classdict__" : Str)) = false := by
  unfold nmB at h
  simp only [Bool.and_eq_true, Bool.not_eq_true', decide_eq_true_eq] at h
  rw [ok.N]
  exact ⟨h.1, h.2.1, h.2.2⟩
/-- targets -/
def tgsB (c : Cz) : List Expr → List Nat → Bool
  | [], [] => true
  | .Name x _ :: es, i :: is => nmB c i x && stoB c x && tgsB c es is
  | _, _ => false
def tgB (c : Cz) (e : Expr) (one : Bool) (is : List Nat) : Bool := match e, one, is with
  | .Name x _, true, [i] => nmB c i x && stoB c x
  | .Tuple es _ _, false, is => tgsB c es is
  | _, _, _ => false
section
variable {τ : Tb} {Φ : Nat → List T → FOut} {c : Cz} {X : Cx}
theorem tgs_ok (ok : Cok τ Φ c X) : ∀ {es : List Expr} {is : List Nat}, tgsB c es is = true → PGs X es (gNames is) ∧ (assignEach es X.env).length = is.length ∧ (assignEach es X.env).findIdx? (·.1) = none
  | [], [], _ => ⟨pgs_nil, rfl, rfl⟩
  | [], _ :: _, h => by cases h
  | e :: es, [], h => by cases e <;> cases h
  | e :: es, i :: is, h => by
    cases e <;> try cases h
    rename_i x p
    unfold tgsB at h
    simp only [Bool.and_eq_true] at h
    obtain ⟨⟨h1, h2⟩, h3⟩ := h
    obtain ⟨a, b, d⟩ := tgs_ok ok h3
    obtain ⟨n1, _⟩ := nm_ok ok h1
    obtain ⟨s1, s2⟩ := sto_ok ok h2
    have hN : X.N.Nodup := by rw [ok.N]; exact ok.nd
    refine ⟨pgs_cons (pg_name hN n1 s1 s2) a rfl, ?_, ?_⟩
    · show ((false, assign (.Name x p) X.env) :: assignEach es X.env).length = _
      rw [List.length_cons, b]
      rfl
    · show ((false, assign (.Name x p) X.env) :: assignEach es X.env).findIdx? (·.1) = none
      rw [List.findIdx?_cons, d]
      rfl
theorem tg_ok (ok : Cok τ Φ c X) {e : Expr} {one : Bool} {is : List Nat} (h : tgB c e one is = true) : PG X e (gOf X.K one is) := by
  have hN : X.N.Nodup := by rw [ok.N]; exact ok.nd
  unfold tgB at h
  split at h
  · rename_i x p i
    simp only [Bool.and_eq_true] at h
    obtain ⟨n1, _⟩ := nm_ok ok h.1
    obtain ⟨s1, s2⟩ := sto_ok ok h.2
    exact pg_name hN n1 s1 s2
  · rename_i es k p is
    obtain ⟨a, b, d⟩ := tgs_ok ok h
    exact pg_tup ok.calm a b d
  · cases h
end
end Z

set_option Elab.async false
set_option linter.all false
set_option maxRecDepth 100000
namespace Z
open PySem PySem.Spec PyProof.Rows L2

inductive Qy where
  | e (x : Expr) (i : E)
  | ds (xs : List Expr) (is : Es)
  | as (xs : List Expr) (is : Es)
  | ts (xs : List Expr) (is : Es)
  | it (tg x : Expr) (i : I)
  | t (x : Expr) (b : B)
  | w (op : BoolOp) (xs : List Expr) (b : B)
  | v (x : Expr) (b : B)
  | vw (op : BoolOp) (xs : List Expr) (b : B)
  | p (x : Option Expr) (i : E)
  | s (fx : List Nat) (x : Stmt) (i : S)
  | ss (fx : List Nat) (xs : List Stmt) (i : Ss)
structure Sok (X : Cx) : Prop where
  stk : X.stack = X.env :: X.outer
  frm : X.env.frame = some X.env.locals
  own : PassesOwn (model X.prog X.w) X.A X.env X.xe
def Snd (τ : Tb) (Φ : Nat → List T → FOut) (X : Cx) (W : WX) : Qy → Prop
  | .e x i => PE X x (tO X.K τ W (ev Φ i) (spure i))
  | .ds xs is => PA X xs (tDs X.K τ W (evDs Φ is))
  | .as xs is => PA X xs (tAs X.K τ W (evAs Φ is))
  | .ts xs is => PA X xs (tTs X.K τ W (evTs Φ is))
  | .it tg x i => PI X tg x (tI X.K τ W (evI Φ i))
  | .t x b => PT X x (tB X.K τ W (evB Φ false b) (spureB b))
  | .w op xs b => ∀ pos, PW X (.BoolOp op xs pos) (tB X.K τ W (evB Φ false b) (spureB b))
  | .v x b => PE X x (tO X.K τ W (fun Γ => bV (evB Φ true b Γ)) (spureB b))
  | .vw op xs b => ∀ pos, PE X (.BoolOp op xs pos) (tO X.K τ W (fun Γ => bV (evB Φ true b Γ)) (spureB b))
  | .p x i => PartOk X τ W Φ x i
  | .s fx x i => Sok X → PS X x (tS X.K τ W fx (exS Φ i))
  | .ss fx xs i => Sok X → PSs X xs (tS X.K τ W fx (exSs Φ i))
def lenEs : Es → Nat
  | .nil => 0
  | .cons _ es => lenEs es + 1
theorem evDs_len {Φ : Nat → List T → FOut} : ∀ (es : Es) (Γ : Env) (ds : List D) (Γ' : Env), evDs Φ es Γ = .ok ds Γ' → ds.length = lenEs es
  | .nil, Γ, ds, Γ', h => by unfold evDs at h; cases h; rfl
  | .cons e es, Γ, ds, Γ', h => by
    unfold evDs at h
    cases hA : ev Φ e Γ with
    | no => rw [hA] at h; cases h
    | ex c Γ1 => rw [hA] at h; cases h
    | ok o Γ1 =>
      rw [hA] at h
      simp only [Out.bind_ok] at h
      cases hD : escD o Γ1 with
      | no => rw [hD] at h; cases h
      | ex c Γ2 => rw [hD] at h; cases h
      | ok d Γ2 =>
        rw [hD] at h
        simp only [Out.bind_ok] at h
        cases hR : evDs Φ es Γ2 with
        | no => rw [hR] at h; cases h
        | ex c Γ3 => rw [hR] at h; cases h
        | ok ds1 Γ3 =>
          rw [hR] at h
          cases h
          rw [List.length_cons, evDs_len es _ _ _ hR]
          rfl
def ownOf (N : List Str) (vs : List Nat) : List (Str × Nat) := vs.filterMap fun k => (N[k]?).map fun x => (x, k)
def blkCz (c : Cz) (scope : Scope) : Cz := { c with sc := relS scope c.sc, fs := scope.names }
def blkOkB (c : Cz) (scope : Scope) (vs : List Nat) : Bool := decide ((ownOf c.N vs).map (·.2) = vs) && blkC c.N c.sc scope (ownOf c.N vs)
def isNon : E → Bool
  | .non => true
  | _ => false
def isVal : B → Bool
  | .val _ => true
  | _ => false
section
variable (k : Cz → Qy → Bool) (c : Cz)
def chkIfs (cb : Cz) (ifs : List Expr) (b : B) : Bool := match ifs, b with
  | [], .tt => true
  | [i], b => k cb (.t i b)
  | _, _ => false
def chkBi (x : Expr) (f : Bi) (a : E) : Bool := match x with
    | .Call (.Name g _) [ea] [] _ => frB c g && notStar ea && (match isBi f with
      | some p => decide (p.1 = g)
      | none => (match isTy f with
        | some p => decide (p.1 = g)
        | none => false)) && k c (.e ea a)
    | _ => false
def chkE (x : Expr) (i : E) : Bool := match i with
  | .var j => (match x with
    | .Name y _ => nmB c j y && visB c y
    | _ => false)
  | .io _ => false
  | .non => (match x with
    | .Constant .none _ _ => true
    | _ => false)
  | .bl b => (match x with
    | .Constant (.bool b') _ _ => b == b'
    | _ => false)
  | .num n => (match x with
    | .Constant (.int n') _ _ => decide (n = n')
    | _ => false)
  | .text z => (match x with
    | .Constant (.str z') _ _ => decide (z = z')
    | _ => false)
  | .tup is => (match x with
    | .Tuple es _ _ => decide (es.length ≤ 1000) && decide (lenEs is ≤ 1000) && k c (.ds es is)
    | _ => false)
  | .lst is => (match x with
    | .List es _ => decide (lenEs is ≤ 1000) && k c (.ds es is)
    | _ => false)
  | .bin o a b => (match x with
    | .BinOp ea po eb _ => decide (bopOf po = some o) && k c (.e ea a) && k c (.e eb b)
    | _ => false)
  | .neg a => (match x with
    | .UnaryOp .USub ea _ => k c (.e ea a)
    | _ => false)
  | .bool b => k c (.v x b)
  | .ite b a a' => (match x with
    | .IfExp ec ea eb _ => k c (.t ec b) && k c (.e ea a) && k c (.e eb a')
    | _ => false)
  | .ix a j => (match x with
    | .Subscript ea ej _ => noSlice ej && k c (.e ea a) && k c (.e ej j)
    | _ => false)
  | .sl a lo hi => (match x with
    | .Subscript ea (.Slice l h none _) _ => k c (.e ea a) && k c (.p l lo) && k c (.p h hi)
    | _ => false)
  | .rev a => (match x with
    | .Subscript ea (.Slice none none (some (.UnaryOp .USub (.Constant (.int n) _ _) _)) _) _ => decide (n = 1) && k c (.e ea a)
    | _ => false)
  | .isi ty a => (match x with
    | .Call (.Name f _) [ea, .Name g _] [] _ => decide (f = "isinstance") && decide (g = (tyName ty).1) && frB c "isinstance" && frB c (tyName ty).1 && notStar ea && k c (.e ea a)
    | _ => false)
  | .bi (.join z) a => (match x with
    | .Call (.Attribute (.Constant (.str y) _ _) nm apos) [ea] [] cpos => decide (y = z) && decide (nm = "join") && notStar ea && (apos.endLine == cpos.line) && k c (.e ea a)
    | _ => false)
  | .bi .sset a => (match x with
    | .Call (.Name g _) [.Call (.Name g2 _) [ea] [] _] [] _ => frB c g && frB c g2 && decide (g = "sorted") && decide (g2 = "set") && notStar ea && k c (.e ea a)
    | _ => false)
  | .bi f a => chkBi k c x f a
  | .call f as => (match x with
    | .Call (.Name g _) (ea :: es) [] _ => (match c.tb.fns.lookup f with
      | some d => decide (d.nm = g) && glB c g && !(g == ("__debug__" : Str)) && notStar ea && es.all notStar && decide (ioFlags as = d.io) && k c (.as (ea :: es) as)
      | none => false)
    | _ => false)
  | .lc ie is one src b vs _ => (match x with
    | .ListComp elt [⟨tg, iter, ifs, 0⟩] scope _ => blkOkB c scope vs && is.all (fun i => decide (i ∈ vs)) && noSet iter && k c (.it tg iter src) && tgB (blkCz c scope) tg one is && chkIfs k (blkCz c scope) ifs b && k (blkCz c scope) (.e elt ie)
    | _ => false)
  | .lc2 ie is one src is1 one1 src1 vs vs1 => (match x with
    | .ListComp elt [⟨tg, iter, [], 0⟩, ⟨tg1, iter1, [], 0⟩] scope _ => blkOkB c scope vs && is.all (fun i => decide (i ∈ vs)) && is1.all (fun i => decide (i ∈ vs1)) && vs1.all (fun i => decide (i ∈ vs)) && noSet iter && noSet iter1 && k c (.it tg iter src) && tgB (blkCz c scope) tg one is && k (blkCz c scope) (.it tg1 iter1 src1) && tgB (blkCz c scope) tg1 one1 is1 && k (blkCz c scope) (.e elt ie)
    | _ => false)
def chkDs (xs : List Expr) (is : Es) : Bool := match xs, is with
  | [], .nil => true
  | x :: xs, .cons i is => notStar x && k c (.e x i) && k c (.ds xs is)
  | _, _ => false
def chkTs (xs : List Expr) (is : Es) : Bool := match xs, is with
  | [], .nil => true
  | x :: xs, .cons i is => notStar x && k c (.e x i) && k c (.ts xs is)
  | _, _ => false
def chkAs (xs : List Expr) (is : Es) : Bool := match xs, is with
  | [], .nil => true
  | x :: xs, .cons i is => (match i with
    | .io j => (match x with
      | .Name y _ => nmB c j y && visB c y
      | _ => false)
    | i => notStar x && k c (.e x i)) && k c (.as xs is)
  | _, _ => false
def chkI (tg x : Expr) (i : I) : Bool := match i with
  | .rng a => (match x with
    | .Call (.Name f _) [ea] [] _ => decide (f = "range") && frB c "range" && notStar ea && k c (.e ea a)
    | _ => false)
  | .rng2 a b => (match x with
    | .Call (.Name f _) [ea, eb] [] _ => decide (f = "range") && frB c "range" && notStar ea && notStar eb && k c (.e ea a) && k c (.e eb b)
    | _ => false)
  | .enm a => (match tg, x with
    | .Tuple _ _ _, .Call (.Name f _) [ea] [] _ => decide (f = "enumerate") && frB c "enumerate" && notStar ea && k c (.e ea a)
    | _, _ => false)
  | .zip a b => (match tg, x with
    | .Tuple _ _ _, .Call (.Name f _) [ea, eb] [] _ => decide (f = "zip") && frB c "zip" && notStar ea && notStar eb && k c (.e ea a) && k c (.e eb b)
    | _, _ => false)
  | .seq a => k c (.e x a)
def chkT (x : Expr) (b : B) : Bool := match b with
  | .tt => false
  | .val i => plainTest x && k c (.e x i)
  | .not b => (match x with
    | .UnaryOp .Not ex _ => k c (.t ex b)
    | _ => false)
  | .and _ _ => (match x with
    | .BoolOp .And xs _ => k c (.w .And xs b)
    | _ => false)
  | .or _ _ => (match x with
    | .BoolOp .Or xs _ => k c (.w .Or xs b)
    | _ => false)
  | .cmp o a b => (match x with
    | .Compare ea [op] [eb] _ => decide (copOf op = o) && noSet eb && k c (.e ea a) && k c (.e eb b)
    | _ => false)
  | .chn o o' a b d => (match x with
    | .Compare ea [op, op'] [eb, ed] _ => decide (copOf op = o) && decide (copOf op' = o') && noSet ed && k c (.e ea a) && k c (.e eb b) && k c (.e ed d)
    | _ => false)
def chkW (op : BoolOp) (xs : List Expr) (b : B) : Bool := match xs with
  | [] => false
  | [x] => k c (.t x b)
  | x :: y :: xs => (match op, b with
    | .And, .and a b => k c (.t x a) && k c (.w .And (y :: xs) b)
    | .Or, .or a b => k c (.t x a) && k c (.w .Or (y :: xs) b)
    | _, _ => false)
def chkV (x : Expr) (b : B) : Bool := match b with
  | .tt => false
  | .val i => k c (.e x i)
  | .not b => (match x with
    | .UnaryOp .Not ex _ => (match b with
      | .val i => k c (.e ex i)
      | b => k c (.v ex b))
    | _ => false)
  | .and _ _ => (match x with
    | .BoolOp .And xs _ => k c (.vw .And xs b)
    | _ => false)
  | .or _ _ => (match x with
    | .BoolOp .Or xs _ => k c (.vw .Or xs b)
    | _ => false)
  | .cmp o a b => (match x with
    | .Compare ea [op] [eb] _ => decide (copOf op = o) && noSet eb && k c (.e ea a) && k c (.e eb b)
    | _ => false)
  | .chn o o' a b d => (match x with
    | .Compare ea [op, op'] [eb, ed] _ => decide (copOf op = o) && decide (copOf op' = o') && noSet ed && k c (.e ea a) && k c (.e eb b) && k c (.e ed d)
    | _ => false)
def chkVW (op : BoolOp) (xs : List Expr) (b : B) : Bool := match xs with
  | [] => false
  | [x] => k c (.v x b)
  | x :: y :: xs => (match op, b with
    | .And, .and a b => k c (.v x a) && k c (.vw .And (y :: xs) b)
    | .Or, .or a b => k c (.v x a) && k c (.vw .Or (y :: xs) b)
    | _, _ => false)
def chkP (x : Option Expr) (i : E) : Bool := match x with
  | none => isNon i
  | some x => !isNon i && k c (.e x i)
end
theorem few_one {e : Expr} {cpos : Pos} {env : PySem.Env} (h : notStar e = true) : ((backTo cpos (starEach [e] env)).all (fun x => !x.1) && (backToKw cpos (keywordEach [] env)).all (fun x => x.1.isSome) && decide ([e].length + ([] : List Keyword).length + (if ([] : List Keyword).isEmpty then 0 else 1) < 30)) = true := by
  rw [star_cons h]
  rfl
section
variable {τ : Tb} {Φ : Nat → List T → FOut} {c : Cz} {X : Cx} {W : WX} {k : Cz → Qy → Bool}
theorem blk_ok {scope : Scope} (ok : Cok τ Φ c X) (hk : scope.kind = .function) (s : Shared) (H : Hp) (C : Addr) (cl : List (Str × Addr)) (fp : List Addr) : Cok τ Φ (blkCz c scope) (X.blk s H scope (compEnvC scope cl C X.env) fp) where
  N := ok.N
  nd := ok.nd
  sc := by
    show relS scope X.env.scope = relS scope c.sc
    rw [ok.sc]
  knd := hk
  calm := ok.calm
  fn := fun x h => by
    show (scope.names.lookup x == some NameKind.cell) = true
    have h : scope.names.lookup x = some .cell := h
    rw [h]
    rfl
  units := ok.units
  pyl := ok.pyl
  fns := ok.fns
  free := ok.free
  exs := ok.exs
  exm := ok.exm
abbrev Kok (τ : Tb) (Φ : Nat → List T → FOut) (k : Cz → Qy → Bool) : Prop := ∀ c q, k c q = true → ∀ X W, Cok τ Φ c X → Takes X W → Snd τ Φ X W q
theorem and2 {a b : Bool} (h : (a && b) = true) : a = true ∧ b = true := Bool.and_eq_true_iff.mp h
theorem chkDs_ok (hk : Kok τ Φ k) (ok : Cok τ Φ c X) (tk : Takes X W) {xs : List Expr} {is : Es} (h : chkDs k c xs is = true) : Snd τ Φ X W (.ds xs is) := by
  unfold chkDs at h
  split at h
  · exact s_Ds_nil
  · obtain ⟨h, h3⟩ := and2 h
    obtain ⟨h1, h2⟩ := and2 h
    exact s_Ds_cons (hk _ _ h2 X W ok tk) (hk _ _ h3 X W ok tk) (star_cons h1)
  · cases h
theorem chkTs_ok (hk : Kok τ Φ k) (ok : Cok τ Φ c X) (tk : Takes X W) {xs : List Expr} {is : Es} (h : chkTs k c xs is = true) : Snd τ Φ X W (.ts xs is) := by
  unfold chkTs at h
  split at h
  · exact s_Ts_nil
  · obtain ⟨h, h3⟩ := and2 h
    obtain ⟨h1, h2⟩ := and2 h
    exact s_Ts_cons (hk _ _ h2 X W ok tk) (hk _ _ h3 X W ok tk) (star_cons h1)
  · cases h
theorem chkAs_ok (hk : Kok τ Φ k) (ok : Cok τ Φ c X) (tk : Takes X W) {xs : List Expr} {is : Es} (h : chkAs k c xs is = true) : Snd τ Φ X W (.as xs is) := by
  unfold chkAs at h
  split at h
  · exact s_As_nil
  · rename_i x xs i is
    obtain ⟨h, h3⟩ := and2 h
    have t3 := hk _ _ h3 X W ok tk
    split at h
    · rename_i j
      split at h
      · obtain ⟨h1, h2⟩ := and2 h
        obtain ⟨n1, n2, n3⟩ := nm_ok ok h1
        exact s_As_io n1 (vis_ok ok.sc h2) n2 n3 t3 rfl
      · cases h
    · rename_i hi
      obtain ⟨h1, h2⟩ := and2 h
      exact s_As_cons (by cases i <;> first | rfl | exact absurd rfl (hi _)) (hk _ _ h2 X W ok tk) t3 (star_cons h1)
  · cases h
theorem chkP_ok (hk : Kok τ Φ k) (ok : Cok τ Φ c X) (tk : Takes X W) {x : Option Expr} {i : E} (h : chkP k c x i = true) : Snd τ Φ X W (.p x i) := by
  unfold chkP at h
  split at h
  · cases i <;> first | exact part_none | cases h
  · obtain ⟨h1, h2⟩ := and2 h
    exact part_some (fun z => by subst z; cases h1) (hk _ _ h2 X W ok tk)
theorem chkI_ok (hk : Kok τ Φ k) (ok : Cok τ Φ c X) (tk : Takes X W) {tg x : Expr} {i : I} (h : chkI k c tg x i = true) : Snd τ Φ X W (.it tg x i) := by
  unfold chkI at h
  split at h
  · split at h
    · obtain ⟨h, h4⟩ := and2 h
      obtain ⟨h, h3⟩ := and2 h
      obtain ⟨h1, h2⟩ := and2 h
      cases of_decide_eq_true h1
      obtain ⟨a, b⟩ := fr_ok ok h2
      exact i_rng a b (star_cons h3) (hk _ _ h4 X W ok tk)
    · cases h
  · split at h
    · obtain ⟨h, h6⟩ := and2 h
      obtain ⟨h, h5⟩ := and2 h
      obtain ⟨h, h4⟩ := and2 h
      obtain ⟨h, h3⟩ := and2 h
      obtain ⟨h1, h2⟩ := and2 h
      cases of_decide_eq_true h1
      obtain ⟨a, b⟩ := fr_ok ok h2
      exact i_rng2 a b (star_cons h3) (star_cons h4) (hk _ _ h5 X W ok tk) (hk _ _ h6 X W ok tk)
    · cases h
  · split at h
    · obtain ⟨h, h4⟩ := and2 h
      obtain ⟨h, h3⟩ := and2 h
      obtain ⟨h1, h2⟩ := and2 h
      cases of_decide_eq_true h1
      obtain ⟨a, b⟩ := fr_ok ok h2
      exact i_enm a b (star_cons h3) (hk _ _ h4 X W ok tk)
    · cases h
  · split at h
    · obtain ⟨h, h6⟩ := and2 h
      obtain ⟨h, h5⟩ := and2 h
      obtain ⟨h, h4⟩ := and2 h
      obtain ⟨h, h3⟩ := and2 h
      obtain ⟨h1, h2⟩ := and2 h
      cases of_decide_eq_true h1
      obtain ⟨a, b⟩ := fr_ok ok h2
      exact i_zip a b (star_cons h3) (star_cons h4) (hk _ _ h5 X W ok tk) (hk _ _ h6 X W ok tk)
    · cases h
  · exact i_seq (hk _ _ h X W ok tk)
theorem chkT_ok (hk : Kok τ Φ k) (ok : Cok τ Φ c X) (tk : Takes X W) {x : Expr} {b : B} (h : chkT k c x b = true) : Snd τ Φ X W (.t x b) := by
  unfold chkT at h
  split at h
  · cases h
  · obtain ⟨h1, h2⟩ := and2 h
    exact t_val (hk _ _ h2 X W ok tk) (test_plain h1)
  · split at h
    · exact t_not (hk _ _ h X W ok tk)
    · cases h
  · split at h
    · exact (hk _ _ h X W ok tk _).pt
    · cases h
  · split at h
    · exact (hk _ _ h X W ok tk _).pt
    · cases h
  · split at h
    · obtain ⟨h, h4⟩ := and2 h
      obtain ⟨h, h3⟩ := and2 h
      obtain ⟨h1, h2⟩ := and2 h
      cases of_decide_eq_true h1
      exact t_cmp ok.units (marks_no h2) (hk _ _ h3 X W ok tk) (hk _ _ h4 X W ok tk)
    · cases h
  · split at h
    · obtain ⟨h, h6⟩ := and2 h
      obtain ⟨h, h5⟩ := and2 h
      obtain ⟨h, h4⟩ := and2 h
      obtain ⟨h, h3⟩ := and2 h
      obtain ⟨h1, h2⟩ := and2 h
      cases of_decide_eq_true h1
      cases of_decide_eq_true h2
      exact t_chn ok.units (show behindInMarks _ _ = false from marks_no h3) (hk _ _ h4 X W ok tk) (hk _ _ h5 X W ok tk) (hk _ _ h6 X W ok tk)
    · cases h
theorem chkW_ok (hk : Kok τ Φ k) (ok : Cok τ Φ c X) (tk : Takes X W) {op : BoolOp} {xs : List Expr} {b : B} (h : chkW k c op xs b = true) : Snd τ Φ X W (.w op xs b) := by
  intro pos
  unfold chkW at h
  split at h
  · cases h
  · exact w_one (hk _ _ h X W ok tk)
  · split at h
    · obtain ⟨h1, h2⟩ := and2 h
      exact w_and (hk _ _ h1 X W ok tk) (hk _ _ h2 X W ok tk pos)
    · obtain ⟨h1, h2⟩ := and2 h
      exact w_or (hk _ _ h1 X W ok tk) (hk _ _ h2 X W ok tk pos)
    · cases h
theorem chkV_ok (hk : Kok τ Φ k) (ok : Cok τ Φ c X) (tk : Takes X W) {x : Expr} {b : B} (h : chkV k c x b = true) : Snd τ Φ X W (.v x b) := by
  unfold chkV at h
  split at h
  · cases h
  · exact v_val (hk _ _ h X W ok tk)
  · split at h
    · split at h
      · exact v_notval (hk _ _ h X W ok tk)
      · rename_i hb
        exact v_not hb (hk _ _ h X W ok tk)
    · cases h
  · split at h
    · exact hk _ _ h X W ok tk _
    · cases h
  · split at h
    · exact hk _ _ h X W ok tk _
    · cases h
  · split at h
    · obtain ⟨h, h4⟩ := and2 h
      obtain ⟨h, h3⟩ := and2 h
      obtain ⟨h1, h2⟩ := and2 h
      cases of_decide_eq_true h1
      exact v_cmp ok.units (marks_no h2) (hk _ _ h3 X W ok tk) (hk _ _ h4 X W ok tk)
    · cases h
  · split at h
    · obtain ⟨h, h6⟩ := and2 h
      obtain ⟨h, h5⟩ := and2 h
      obtain ⟨h, h4⟩ := and2 h
      obtain ⟨h, h3⟩ := and2 h
      obtain ⟨h1, h2⟩ := and2 h
      cases of_decide_eq_true h1
      cases of_decide_eq_true h2
      exact v_chn ok.units (show behindInMarks _ _ = false from marks_no h3) (hk _ _ h4 X W ok tk) (hk _ _ h5 X W ok tk) (hk _ _ h6 X W ok tk)
    · cases h
theorem chkVW_ok (hk : Kok τ Φ k) (ok : Cok τ Φ c X) (tk : Takes X W) {op : BoolOp} {xs : List Expr} {b : B} (h : chkVW k c op xs b = true) : Snd τ Φ X W (.vw op xs b) := by
  intro pos
  unfold chkVW at h
  split at h
  · cases h
  · exact v_one (hk _ _ h X W ok tk)
  · split at h
    · obtain ⟨h1, h2⟩ := and2 h
      exact v_and (hk _ _ h1 X W ok tk) (hk _ _ h2 X W ok tk pos)
    · obtain ⟨h1, h2⟩ := and2 h
      exact v_or (hk _ _ h1 X W ok tk) (hk _ _ h2 X W ok tk pos)
    · cases h
theorem noW_takes {X : Cx} : Takes X noW := takes_none5
theorem ifs_ok (hk : Kok τ Φ k) {cb : Cz} {ifs : List Expr} {b : B} (h : chkIfs k cb ifs b = true) {Y : Cx} (ok : Cok τ Φ cb Y) : PTs Y ifs (tB Y.K τ noW (evB Φ false b) (spureB b)) := by
  unfold chkIfs at h
  split at h
  · exact pts_tt rfl
  · exact pts_one (hk _ _ h Y noW ok noW_takes)
  · cases h
/-- what a block shows -/
theorem blkOkB_ok {scope : Scope} {vs : List Nat} (ok : Cok τ Φ c X) (h : blkOkB c scope vs = true) : ∃ own : List (Str × Nat), own.map (·.2) = vs ∧ BlkOk X.N X.env.scope scope own := by
  obtain ⟨h1, h2⟩ := and2 h
  exact ⟨ownOf c.N vs, of_decide_eq_true h1, by rw [ok.N, ok.sc]; exact blkOk_by h2⟩
theorem all_mem {is vs : List Nat} (h : (is.all fun i => decide (i ∈ vs)) = true) : ∀ i ∈ is, i ∈ vs := fun i hi => of_decide_eq_true (List.all_eq_true.mp h i hi)
theorem chkE_ok (hk : Kok τ Φ k) (ok : Cok τ Φ c X) (tk : Takes X W) {x : Expr} {i : E} (h : chkE k c x i = true) : Snd τ Φ X W (.e x i) := by
  have hN : X.N.Nodup := by rw [ok.N]; exact ok.nd
  cases i with
  | var j =>
    simp only [chkE] at h
    split at h
    · obtain ⟨h1, h2⟩ := and2 h
      obtain ⟨n1, n2, n3⟩ := nm_ok ok h1
      exact s_var n1 (vis_ok ok.sc h2) n2 n3
    · cases h
  | io j => cases h
  | non =>
    simp only [chkE] at h
    split at h
    · exact s_non
    · cases h
  | bl b =>
    simp only [chkE] at h
    split at h
    · cases eq_of_beq h
      exact s_bl
    · cases h
  | num n =>
    simp only [chkE] at h
    split at h
    · cases of_decide_eq_true h
      exact s_num
    · cases h
  | text z =>
    simp only [chkE] at h
    split at h
    · cases of_decide_eq_true h
      exact s_text
    · cases h
  | tup is =>
    simp only [chkE] at h
    split at h
    · obtain ⟨h, h3⟩ := and2 h
      obtain ⟨h1, h2⟩ := and2 h
      exact s_tup (hk _ _ h3 X W ok tk) (of_decide_eq_true h1) (fun Γ ds Γ' e => by rw [evDs_len _ _ _ _ e]; exact of_decide_eq_true h2)
    · cases h
  | lst is =>
    simp only [chkE] at h
    split at h
    · obtain ⟨h2, h3⟩ := and2 h
      exact s_lst (hk _ _ h3 X W ok tk) (fun Γ ds Γ' e => by rw [evDs_len _ _ _ _ e]; exact of_decide_eq_true h2)
    · cases h
  | bin o a b =>
    simp only [chkE] at h
    split at h
    · obtain ⟨h, h3⟩ := and2 h
      obtain ⟨h1, h2⟩ := and2 h
      exact s_bin ok.pyl (of_decide_eq_true h1) (hk _ _ h2 X W ok tk) (hk _ _ h3 X W ok tk)
    · cases h
  | neg a =>
    simp only [chkE] at h
    split at h
    · exact s_neg (hk _ _ h X W ok tk)
    · cases h
  | bool b => exact s_bool (hk _ _ h X W ok tk)
  | ite b a a' =>
    simp only [chkE] at h
    split at h
    · obtain ⟨h, h3⟩ := and2 h
      obtain ⟨h1, h2⟩ := and2 h
      exact s_ite (hk _ _ h1 X W ok tk) (hk _ _ h2 X W ok tk) (hk _ _ h3 X W ok tk)
    · cases h
  | ix a j =>
    simp only [chkE] at h
    split at h
    · obtain ⟨h, h3⟩ := and2 h
      obtain ⟨h1, h2⟩ := and2 h
      exact s_ix (ix_plain h1) (hk _ _ h2 X W ok tk) (hk _ _ h3 X W ok tk)
    · cases h
  | sl a lo hi =>
    simp only [chkE] at h
    split at h
    · obtain ⟨h, h3⟩ := and2 h
      obtain ⟨h1, h2⟩ := and2 h
      exact s_sl (hk _ _ h1 X W ok tk) (hk _ _ h2 X W ok tk) (hk _ _ h3 X W ok tk)
    · cases h
  | rev a =>
    simp only [chkE] at h
    split at h
    · obtain ⟨h1, h2⟩ := and2 h
      cases of_decide_eq_true h1
      exact s_rev (hk _ _ h2 X W ok tk)
    · cases h
  | isi ty a =>
    simp only [chkE] at h
    split at h
    · obtain ⟨h, h6⟩ := and2 h
      obtain ⟨h, h5⟩ := and2 h
      obtain ⟨h, h4⟩ := and2 h
      obtain ⟨h, h3⟩ := and2 h
      obtain ⟨h1, h2⟩ := and2 h
      cases of_decide_eq_true h1
      cases of_decide_eq_true h2
      obtain ⟨a1, b1⟩ := fr_ok ok h3
      obtain ⟨a2, b2⟩ := fr_ok ok h4
      exact s_isi a1 b1 a2 b2 (star_cons h5) (hk _ _ h6 X W ok tk)
    · cases h
  | bi f a =>
    by_cases hj : ∃ z, f = .join z
    · obtain ⟨z, rfl⟩ := hj
      simp only [chkE] at h
      split at h
      · obtain ⟨h, h5⟩ := and2 h
        obtain ⟨h, h4⟩ := and2 h
        obtain ⟨h, h3⟩ := and2 h
        obtain ⟨h1, h2⟩ := and2 h
        cases of_decide_eq_true h1
        cases of_decide_eq_true h2
        exact s_join (star_cons h3) (few_one h3) h4 (hk _ _ h5 X W ok tk)
      · cases h
    by_cases hf : f = .sset
    · subst hf
      simp only [chkE] at h
      split at h
      · rename_i g p g2 p2 ea p3 p4
        obtain ⟨h, h6⟩ := and2 h
        obtain ⟨h, h5⟩ := and2 h
        obtain ⟨h, h4⟩ := and2 h
        obtain ⟨h, h3⟩ := and2 h
        obtain ⟨h1, h2⟩ := and2 h
        obtain ⟨a1, b1⟩ := fr_ok ok h1
        obtain ⟨a2, b2⟩ := fr_ok ok h2
        exact s_sset ok.calm (by have := ok.units; omega) (of_decide_eq_true h3) (of_decide_eq_true h4) a1 b1 a2 b2 (star_cons h5) (star_cons rfl) (hk _ _ h6 X W ok tk)
      · cases h
    have h : chkBi k c x f a = true := by
      cases f <;> first | exact h | exact absurd ⟨_, rfl⟩ hj | exact absurd rfl hf
    unfold chkBi at h
    split at h
    · rename_i g p ea p2
      obtain ⟨h, h4⟩ := and2 h
      obtain ⟨h, h3⟩ := and2 h
      obtain ⟨h1, h2⟩ := and2 h
      obtain ⟨a1, b1⟩ := fr_ok ok h1
      cases hb : isBi f with
      | some q =>
        rw [hb] at h3
        obtain ⟨q1, q2⟩ := q
        cases of_decide_eq_true h3
        exact s_bi ok.calm hb a1 b1 (star_cons h2) (hk _ _ h4 X W ok tk)
      | none =>
        rw [hb] at h3
        simp only at h3
        cases ht : isTy f with
        | some q =>
          rw [ht] at h3
          obtain ⟨q1, q2⟩ := q
          cases of_decide_eq_true h3
          exact s_ty ht a1 b1 (star_cons h2) (hk _ _ h4 X W ok tk)
        | none => rw [ht] at h3; cases h3
    · cases h
  | call f as =>
    simp only [chkE] at h
    split at h
    · rename_i g p ea es p2
      split at h
      · rename_i d hd
        obtain ⟨h, h7⟩ := and2 h
        obtain ⟨h, h6⟩ := and2 h
        obtain ⟨h, h5⟩ := and2 h
        obtain ⟨h, h4⟩ := and2 h
        obtain ⟨h, h3⟩ := and2 h
        obtain ⟨h1, h2⟩ := and2 h
        cases of_decide_eq_true h1
        obtain ⟨kk, fa, fd, F, r, m, kp, b⟩ := ok.fns f d hd
        exact s_call F r (gl_ok ok.sc h2) m kp b tk (of_decide_eq_true h6) (hk _ _ h7 X W ok tk) (by simpa using h3) (star_cons h4) (star_none h5)
      · cases h
    · cases h
  | lc ie is one src b vs ow =>
    simp only [chkE] at h
    split at h
    · rename_i elt tg iter ifs scope p
      obtain ⟨h, h7⟩ := and2 h
      obtain ⟨h, h6⟩ := and2 h
      obtain ⟨h, h5⟩ := and2 h
      obtain ⟨h, h4⟩ := and2 h
      obtain ⟨h, h3⟩ := and2 h
      obtain ⟨h1, h2⟩ := and2 h
      obtain ⟨own, rfl, bo⟩ := blkOkB_ok ok h1
      have bk := blk_ok (scope := scope) ok bo.kind
      exact s_lc ok.calm hN bo (all_mem h2) (hk _ _ h4 X W ok tk) (fun s H C cl fp => tg_ok (bk s H C cl fp) h5) (fun s H C cl fp => ifs_ok hk h6 (bk s H C cl fp)) (fun s H C cl fp => hk _ _ h7 _ noW (bk s H C cl fp) noW_takes) (fold_no h3)
    · cases h
  | lc2 ie is one src is1 one1 src1 vs vs1 =>
    simp only [chkE] at h
    split at h
    · rename_i elt tg iter tg1 iter1 scope p
      obtain ⟨h, h11⟩ := and2 h
      obtain ⟨h, h10⟩ := and2 h
      obtain ⟨h, h9⟩ := and2 h
      obtain ⟨h, h8⟩ := and2 h
      obtain ⟨h, h7⟩ := and2 h
      obtain ⟨h, h6⟩ := and2 h
      obtain ⟨h, h5⟩ := and2 h
      obtain ⟨h, h4⟩ := and2 h
      obtain ⟨h, h3⟩ := and2 h
      obtain ⟨h1, h2⟩ := and2 h
      obtain ⟨own, rfl, bo⟩ := blkOkB_ok ok h1
      have bk := blk_ok (scope := scope) ok bo.kind
      refine (pe_lc2 (wi := tI X.K τ W (evI Φ src)) (wi1 := tI X.K τ noW (evI Φ src1)) (g := gOf X.K one is) (g1 := gOf X.K one1 is1) (te := tO X.K τ noW (ev Φ ie) (spure ie)) ok.calm hN (hk _ _ h7 X W ok tk) bo (all_mem h4) (fun s H C cl fp => tg_ok (bk s H C cl fp) h8) (fun s H C cl fp => pts_nil) (fun s H C cl fp => hk _ _ h9 _ noW (bk s H C cl fp) noW_takes) (fun s H C cl fp => tg_ok (bk s H C cl fp) h10) (fun s H C cl fp => pts_nil)
        (fun s H C cl fp => hk _ _ h11 _ noW (bk s H C cl fp) noW_takes) (fold_no h5) (fun env x => fold_no h6 x)).imp fun σ H Q h => ?_
      exact lc2_all (all_mem h2) (all_mem h3) (all_mem h4) gOf_does gOf_does (fun _ _ _ q => q) (fun _ _ _ q => q) (fun _ _ _ q => q) (fun _ _ _ q => q) (fun _ _ _ q => q) σ H Q h
    · cases h
end
end Z

set_option Elab.async false
set_option linter.all false
set_option maxRecDepth 100000
namespace Z
open PySem PySem.Spec PyProof.Rows L2

theorem assign_sub {o i : Expr} {pos : Pos} {env : PySem.Env} (h : noSlice i = true) : ∀ v, assign (.Subscript o i pos) env v = (do
      let ov ← holding [v] (eval o env)
      let iv ← holding [v, ov] (eval i env)
      standAt pos
      holding [v, ov, iv] (setItem ov iv v)
      release [v, ov, iv] []) := by
  intro v
  cases i <;> first | rfl | cases h
theorem sole_no {t e : Expr} {l : Nat} {env : PySem.Env} (h : noComp e = true) : swapsWithSole [t] e l env = pure false := sw_no (t := some t) h
def isStarE : Expr → Bool
  | .Starred _ _ => true
  | _ => false
theorem assign_one {t : Expr} {env : PySem.Env} (h : isStarE t = false) : (assignEach [t] env).map (·.2) = [assign t env] := by
  cases t <;> first | rfl | cases h
def hdB (c : Cz) : List ExceptHandler → List (Nat × Str) → Bool
  | [], [] => true
  | .ExceptHandler (some (.Name x _)) none [.Return (some (.Constant (.str y) _ _)) _] _ :: hds, (e, z) :: l => decide (c.tb.exs.lookup e = some x) && decide (y = z) && glB c x && !(x == ("__debug__" : Str)) && hdB c hds l
  | _, _ => false
def disj (is fx : List Nat) : Bool := is.all fun i => !decide (i ∈ fx)
theorem disj_ok {is fx : List Nat} (h : disj is fx = true) : ∀ i ∈ is, i ∉ fx := fun i hi => by
  have := List.all_eq_true.mp h i hi
  simpa using this
section
variable (k : Cz → Qy → Bool) (c : Cz)
def chkSet (fx : List Nat) (j : Nat) (y : Str) (py : Pos) (v : Expr) (e : E) : Bool := match v with
  | .ListComp elt gs scope p => (match lcSw c.sc scope y py p with
    | false => k c (.e v e)
    | true => (match gs, e with
      | [⟨tg, iter, ifs, 0⟩], .lc ie is one src b vs _ => decide (c.sc.names.lookup y = some .local) && blkOkB c scope vs && is.all (fun i => decide (i ∈ vs)) && noSet iter && k c (.it tg iter src) && tgB (blkCz c scope) tg one is && chkIfs k (blkCz c scope) ifs b && k (blkCz c scope) (.e elt ie)
      | _, _ => false))
  | v => noComp v && k c (.e v e)
def chkPar (fx : List Nat) (ts vs : List Expr) (is : List Nat) (es : Es) : Bool := match swB c.sc ts vs with
  | true => (match ts, vs, is with
    | [.Name x _, .Name y _], [_, _], [i, j] => decide (swNames c.sc ts = [x, y]) && nmB c i x && nmB c j y && decide (i ≠ j) && decide (c.sc.names.lookup x = some .local) && decide (c.sc.names.lookup y = some .local) && k c (.ts vs es)
    | [.Name x _, .Name y _, .Name z _], [_, _, _], [i, j, l] => decide (swNames c.sc ts = [x, y, z]) && nmB c i x && nmB c j y && nmB c l z && decide (i ≠ j) && decide (i ≠ l) && decide (j ≠ l) && decide (c.sc.names.lookup x = some .local) && decide (c.sc.names.lookup y = some .local) && decide (c.sc.names.lookup z = some .local) && k c (.ts vs es)
    | _, _, _ => false)
  | false => nswB c.sc ts vs && tgsB c ts is && decide (vs.length ≤ 1000) && decide (is.length ≤ 1000) && k c (.ts vs es)
def chkS (fx : List Nat) (x : Stmt) (i : S) : Bool := match i with
  | .pass => (match x with
    | .Pass _ => true
    | .Expr (.Constant (.str _) _ _) _ => true
    | _ => false)
  | .asg one is e => (match x with
    | .Assign [tg] v _ => (match one, is, tg with
      | true, [j], .Name y py => nmB c j y && stoB c y && disj [j] fx && chkSet k c fx j y py v e
      | false, is, .Tuple ts _ _ => tgsB c ts is && disj is fx && noComp v && noTup v && k c (.e v e)
      | _, _, _ => false)
    | _ => false)
  | .par is es => (match x with
    | .Assign [.Tuple ts _ _] (.Tuple vs _ _) _ => disj is fx && chkPar k c fx ts vs is es
    | _ => false)
  | .exp e => (match x with
    | .Expr v _ => noComp v && k c (.e v e)
    | _ => false)
  | .app j e => (match x with
    | .Expr (.Call (.Attribute (.Name y _) a apos) [ea] [] cpos) _ => decide (a = "append") && nmB c j y && visB c y && notStar ea && (apos.endLine == cpos.line) && k c (.e ea e)
    | _ => false)
  | .set j i e => (match x with
    | .Assign [.Subscript (.Name y _) ei _] v _ => nmB c j y && visB c y && noSlice ei && noComp v && k c (.e v e) && k c (.e ei i)
    | _ => false)
  | .setP o i e => (match x with
    | .Assign [.Subscript eo ei _] v _ => spure o && spure i && noSlice ei && noComp v && k c (.e v e) && k c (.e eo o) && k c (.e ei i)
    | _ => false)
  | .set2P o i o' i' e e' => (match x with
    | .Assign [.Tuple [.Subscript eo ei sp, .Subscript eo' ei' sp'] _ _] (.Tuple [v, v'] _ _) _ => spure o && spure i && spure o' && spure i' && noSlice ei && noSlice ei' && nswB c.sc [.Subscript eo ei sp, .Subscript eo' ei' sp'] [v, v'] && k c (.ts [v, v'] (.cons e (.cons e' .nil))) && k c (.e eo o) && k c (.e ei i) && k c (.e eo' o') && k c (.e ei' i')
    | _ => false)
  | .aug j e => (match x with
    | .AugAssign (.Name y _) .Add v _ => nmB c j y && stoB c y && disj [j] fx && k c (.e v e)
    | _ => false)
  | .ext _ _ => false
  | .ret e => (match x with
    | .Return (some v) _ => k c (.e v e)
    | .Return none _ => isNon e
    | _ => false)
  | .iff b s1 s2 => (match x with
    | .If t x1 x2 _ => k c (.t t b) && k c (.ss fx x1 s1) && k c (.ss fx x2 s2)
    | _ => false)
  | .forS one is src body => (match x with
    | .For tg iter xs [] _ => disj is fx && noSet iter && tgB c tg one is && k c (.it tg iter src) && k c (.ss fx xs body)
    | _ => false)
  | .whileS b body => (match x with
    | .While t xs [] _ => k c (.t t b) && k c (.ss fx xs body)
    | _ => false)
  | .raise e => (match x with
    | .Raise (some (.Call (.Name y _) [] [] _)) none _ => decide (c.tb.exs.lookup e = some y) && glB c y && !(y == ("__debug__" : Str))
    | _ => false)
  | .tryS body hs => (match x with
    | .Try xs (h0 :: hds) [] [] _ => hs.all (fun p => (c.tb.exs.lookup p.1).isSome) && hdB c (h0 :: hds) hs && k c (.ss fx xs body)
    | _ => false)
def chkSs (fx : List Nat) (xs : List Stmt) (i : Ss) : Bool := match xs, i with
  | [], .nil => true
  | x :: xs, .cons s ss => k c (.s fx x s) && k c (.ss fx xs ss)
  | _, _ => false
def chkQ (q : Qy) : Bool := match q with
  | .e x i => chkE k c x i
  | .ds xs is => chkDs k c xs is
  | .as xs is => chkAs k c xs is
  | .ts xs is => chkTs k c xs is
  | .it tg x i => chkI k c tg x i
  | .t x b => chkT k c x b
  | .w op xs b => chkW k c op xs b
  | .v x b => chkV k c x b
  | .vw op xs b => chkVW k c op xs b
  | .p x i => chkP k c x i
  | .s fx x i => chkS k c fx x i
  | .ss fx xs i => chkSs k c fx xs i
end
def chk : Nat → Cz → Qy → Bool
  | 0, _, _ => false
  | n + 1, c, q => chkQ (chk n) c q
section
variable {τ : Tb} {Φ : Nat → List T → FOut} {c : Cz} {X : Cx} {W : WX} {k : Cz → Qy → Bool} {fx : List Nat}
theorem tr_ok (ok : Cok τ Φ c X) (pn : List (Addr × Obj)) (xe : Value → Shared → Prop) : Cok τ Φ c (X.tr pn xe) :=
  ⟨ok.N, ok.nd, ok.sc, ok.knd, ok.calm, ok.fn, ok.units, ok.pyl, ok.fns, ok.free, ok.exs, ok.exm⟩
theorem hdB_ok (ok : Cok τ Φ c X) : ∀ {hds : List ExceptHandler} {l : List (Nat × Str)}, hdB c hds l = true → HdOk X τ hds l := by
  intro hds l
  fun_induction hdB c hds l with
  | case1 => intro _; exact .nil
  | case2 x np y j p1 p2 pos hds e z l ih =>
    intro h
    obtain ⟨h, h5⟩ := and2 h
    obtain ⟨h, h4⟩ := and2 h
    obtain ⟨h, h3⟩ := and2 h
    obtain ⟨h1, h2⟩ := and2 h
    cases of_decide_eq_true h2
    exact .cons ⟨gl_ok ok.sc h3, by simpa using h4, .inl (ok.exs e x (of_decide_eq_true h1)).1⟩ (ih h5)
  | case3 => intro h; cases h
theorem st_retN {pos : Pos} : PS X (.Return none pos) (tS X.K τ W fx (exS Φ (.ret .non))) := by
  refine ps_retN.imp fun D σ H h => ?_
  obtain ⟨F, Γ, G, C, g, r, h⟩ := h
  unfold exS at h
  have e : ev Φ .non Γ = .ok (.t (.sh .none)) Γ := rfl
  simp only [e, Out.toS_ok] at h
  have e2 : mvO (.t (.sh .none)) Γ = .ok (.sh .none) Γ := rfl
  simp only [e2, Out.toS_ok] at h
  exact h .non σ H G C [] (L2.Same.refl G) g r (.sh .non) FixS.refl
theorem chkSet_ok (hk : Kok τ Φ k) (ok : Cok τ Φ c X) (tk : Takes X W) {j : Nat} {y : Str} {py pos : Pos} {v : Expr} {e : E} (hn : nmB c j y = true) (hs : stoB c y = true) (hj : disj [j] fx = true) (h : chkSet k c fx j y py v e = true) : PS X (.Assign [.Name y py] v pos) (tS X.K τ W fx (exS Φ (.asg true [j] e))) := by
  have hN : X.N.Nodup := by rw [ok.N]; exact ok.nd
  obtain ⟨n1, n2, n3⟩ := nm_ok ok hn
  obtain ⟨s1, s2⟩ := sto_ok ok hs
  have hfx : j ∉ fx := disj_ok hj j List.mem_cons_self
  unfold chkSet at h
  split at h
  · rename_i elt gs scope p
    have sw := sw_lc (y := y) (py := py) (pos := p) (elt := elt) (gs := gs) (scope := scope) (l := pos.line) ok.sc ok.knd
    split at h
    · rename_i hl
      rw [hl] at sw
      exact st_asg hN n1 s1 hfx (hk _ _ h X W ok tk) sw s2
    · rename_i hl
      rw [hl] at sw
      split at h
      · rename_i tg iter ifs ie is one src b vs ow
        obtain ⟨h, h7⟩ := and2 h
        obtain ⟨h, h6⟩ := and2 h
        obtain ⟨h, h5⟩ := and2 h
        obtain ⟨h, h4⟩ := and2 h
        obtain ⟨h, h3⟩ := and2 h
        obtain ⟨h, h2⟩ := and2 h
        obtain ⟨h0, h1⟩ := and2 h
        obtain ⟨own, rfl, bo⟩ := blkOkB_ok ok h1
        have bk := blk_ok (scope := scope) ok bo.kind
        exact st_setLc ok.calm hN n1 (by rw [ok.sc]; exact of_decide_eq_true h0) hfx sw bo (all_mem h2) (hk _ _ h4 X W ok tk) (fun s H C cl fp => tg_ok (bk s H C cl fp) h5) (fun s H C cl fp => ifs_ok hk h6 (bk s H C cl fp)) (fun s H C cl fp => hk _ _ h7 _ noW (bk s H C cl fp) noW_takes) (fold_no h3)
      · cases h
  · obtain ⟨h1, h2⟩ := and2 h
    exact st_asg hN n1 s1 hfx (hk _ _ h2 X W ok tk) (sw_no h1) s2
theorem tup_ok (ok : Cok τ Φ c X) {ts : List Expr} {is : List Nat} {kt : Nat} {pt : Pos} (h : tgsB c ts is = true) : PG X (.Tuple ts kt pt) (gOf X.K false is) := by
  obtain ⟨a, b, d⟩ := tgs_ok ok h
  exact pg_tup ok.calm a b d
theorem chkPar_ok (hk : Kok τ Φ k) (ok : Cok τ Φ c X) (tk : Takes X W) {ts vs : List Expr} {is : List Nat} {es : Es} {kt k2 : Nat} {pt p2 pos : Pos} (hj : disj is fx = true) (h : chkPar k c fx ts vs is es = true) : PS X (.Assign [.Tuple ts kt pt] (.Tuple vs k2 p2) pos) (tS X.K τ W fx (exS Φ (.par is es))) := by
  have hN : X.N.Nodup := by rw [ok.N]; exact ok.nd
  have hfx := disj_ok hj
  unfold chkPar at h
  split at h
  · rename_i hsw
    have sw := sw_yes (kt := kt) (k2 := k2) (pt := pt) (p2 := p2) ok.sc ok.knd hsw
    split at h
    · rename_i x px y py a b i j
      obtain ⟨h, h7⟩ := and2 h
      obtain ⟨h, h6⟩ := and2 h
      obtain ⟨h, h5⟩ := and2 h
      obtain ⟨h, h4⟩ := and2 h
      obtain ⟨h, h3⟩ := and2 h
      obtain ⟨h1, h2⟩ := and2 h
      rw [of_decide_eq_true h1] at sw
      exact st_par2 ok.calm hN (nm_ok ok h2).1 (nm_ok ok h3).1 (of_decide_eq_true h4) (by rw [ok.sc]; exact of_decide_eq_true h5) (by rw [ok.sc]; exact of_decide_eq_true h6) (hfx i (by simp)) (hfx j (by simp)) (hk _ _ h7 X W ok tk) sw rfl
    · rename_i x px y py z pz a b d i j l
      obtain ⟨h, h11⟩ := and2 h
      obtain ⟨h, h10⟩ := and2 h
      obtain ⟨h, h9⟩ := and2 h
      obtain ⟨h, h8⟩ := and2 h
      obtain ⟨h, h7⟩ := and2 h
      obtain ⟨h, h6⟩ := and2 h
      obtain ⟨h, h5⟩ := and2 h
      obtain ⟨h, h4⟩ := and2 h
      obtain ⟨h, h3⟩ := and2 h
      obtain ⟨h1, h2⟩ := and2 h
      rw [of_decide_eq_true h1] at sw
      exact st_par3 ok.calm hN (nm_ok ok h2).1 (nm_ok ok h3).1 (nm_ok ok h4).1 (of_decide_eq_true h5) (of_decide_eq_true h6) (of_decide_eq_true h7) (by rw [ok.sc]; exact of_decide_eq_true h8) (by rw [ok.sc]; exact of_decide_eq_true h9) (by rw [ok.sc]; exact of_decide_eq_true h10) (hfx i (by simp)) (hfx j (by simp)) (hfx l (by simp)) (hk _ _ h11 X W ok tk) sw rfl
    · cases h
  · obtain ⟨h, h5⟩ := and2 h
    obtain ⟨h, h4⟩ := and2 h
    obtain ⟨h, h3⟩ := and2 h
    obtain ⟨h1, h2⟩ := and2 h
    exact st_parT (of_decide_eq_true h3) (of_decide_eq_true h4) hfx (hk _ _ h5 X W ok tk) (tup_ok ok h2) rfl (sw_not ok.sc ok.knd h1) rfl
theorem chkS_ok (hk : Kok τ Φ k) (ok : Cok τ Φ c X) (tk : Takes X W) {x : Stmt} {i : S} (h : chkS k c fx x i = true) : Snd τ Φ X W (.s fx x i) := by
  intro so
  have hN : X.N.Nodup := by rw [ok.N]; exact ok.nd
  cases i with
  | pass =>
    simp only [chkS] at h
    split at h
    · exact st_pass
    · exact st_doc
    · cases h
  | asg one is e =>
    simp only [chkS] at h
    split at h
    · split at h
      · obtain ⟨h, h4⟩ := and2 h
        obtain ⟨h, h3⟩ := and2 h
        obtain ⟨h1, h2⟩ := and2 h
        exact chkSet_ok hk ok tk h1 h2 h3 h4
      · obtain ⟨h, h5⟩ := and2 h
        obtain ⟨h, h4⟩ := and2 h
        obtain ⟨h, h3⟩ := and2 h
        obtain ⟨h1, h2⟩ := and2 h
        exact st_asgT (disj_ok h2) (hk _ _ h5 X W ok tk) (tup_ok ok h1) (sole_no h3) (stores_noV h4) rfl
      · cases h
    · cases h
  | par is es =>
    simp only [chkS] at h
    split at h
    · obtain ⟨h1, h2⟩ := and2 h
      exact chkPar_ok hk ok tk h1 h2
    · cases h
  | exp e =>
    simp only [chkS] at h
    split at h
    · obtain ⟨h1, h2⟩ := and2 h
      exact st_exp (hk _ _ h2 X W ok tk) (sw_no h1)
    · cases h
  | app j e =>
    simp only [chkS] at h
    split at h
    · obtain ⟨h, h6⟩ := and2 h
      obtain ⟨h, h5⟩ := and2 h
      obtain ⟨h, h4⟩ := and2 h
      obtain ⟨h, h3⟩ := and2 h
      obtain ⟨h1, h2⟩ := and2 h
      cases of_decide_eq_true h1
      obtain ⟨n1, n2, n3⟩ := nm_ok ok h2
      exact st_app n1 (vis_ok ok.sc h3) n2 n3 (hk _ _ h6 X W ok tk) (star_cons h4) (few_one h4) h5 rfl
    · cases h
  | set j i e =>
    simp only [chkS] at h
    split at h
    · obtain ⟨h, h6⟩ := and2 h
      obtain ⟨h, h5⟩ := and2 h
      obtain ⟨h, h4⟩ := and2 h
      obtain ⟨h, h3⟩ := and2 h
      obtain ⟨h1, h2⟩ := and2 h
      obtain ⟨n1, n2, n3⟩ := nm_ok ok h1
      exact st_set n1 (vis_ok ok.sc h2) n2 n3 (hk _ _ h5 X W ok tk) (hk _ _ h6 X W ok tk) (assign_sub h3) (sole_no h4) (stores_noT rfl)
    · cases h
  | setP o i e =>
    simp only [chkS] at h
    split at h
    · obtain ⟨h, h7⟩ := and2 h
      obtain ⟨h, h6⟩ := and2 h
      obtain ⟨h, h5⟩ := and2 h
      obtain ⟨h, h4⟩ := and2 h
      obtain ⟨h, h3⟩ := and2 h
      obtain ⟨h1, h2⟩ := and2 h
      exact st_setP h1 h2 (hk _ _ h5 X W ok tk) (hk _ _ h6 X W ok tk) (hk _ _ h7 X W ok tk) (assign_sub h3) (sole_no h4) (stores_noT rfl)
    · cases h
  | set2P o i o' i' e e' =>
    simp only [chkS] at h
    split at h
    · obtain ⟨h, h12⟩ := and2 h
      obtain ⟨h, h11⟩ := and2 h
      obtain ⟨h, h10⟩ := and2 h
      obtain ⟨h, h9⟩ := and2 h
      obtain ⟨h, h8⟩ := and2 h
      obtain ⟨h, h7⟩ := and2 h
      obtain ⟨h, h6⟩ := and2 h
      obtain ⟨h, h5⟩ := and2 h
      obtain ⟨h, h4⟩ := and2 h
      obtain ⟨h, h3⟩ := and2 h
      obtain ⟨h1, h2⟩ := and2 h
      exact st_set2P ok.calm h1 h2 h3 h4 (hk _ _ h8 X W ok tk) (hk _ _ h9 X W ok tk) (hk _ _ h10 X W ok tk) (hk _ _ h11 X W ok tk) (hk _ _ h12 X W ok tk) (assign_sub h5) (assign_sub h6) (sw_not ok.sc ok.knd h7)
    · cases h
  | aug j e =>
    simp only [chkS] at h
    split at h
    · obtain ⟨h, h4⟩ := and2 h
      obtain ⟨h, h3⟩ := and2 h
      obtain ⟨h1, h2⟩ := and2 h
      obtain ⟨n1, n2, n3⟩ := nm_ok ok h1
      obtain ⟨s1, s2⟩ := sto_ok ok h2
      exact st_aug hN n1 s1 (disj_ok h3 j List.mem_cons_self) (hk _ _ h4 X W ok tk) s2
    · cases h
  | ext j e => simp only [chkS] at h; cases h
  | ret e =>
    simp only [chkS] at h
    split at h
    · exact st_ret (hk _ _ h X W ok tk)
    · cases e <;> first | exact st_retN | cases h
    · cases h
  | iff b s1 s2 =>
    simp only [chkS] at h
    split at h
    · obtain ⟨h, h3⟩ := and2 h
      obtain ⟨h1, h2⟩ := and2 h
      exact st_if (hk _ _ h1 X W ok tk) (hk _ _ h2 X W ok tk so) (hk _ _ h3 X W ok tk so)
    · cases h
  | forS one is src body =>
    simp only [chkS] at h
    split at h
    · obtain ⟨h, h5⟩ := and2 h
      obtain ⟨h, h4⟩ := and2 h
      obtain ⟨h, h3⟩ := and2 h
      obtain ⟨h1, h2⟩ := and2 h
      exact st_for so.own ok.calm (disj_ok h1) (hk _ _ h4 X W ok tk) (tg_ok ok h3) (hk _ _ h5 X W ok tk so) (fold_no h2)
    · cases h
  | whileS b body =>
    simp only [chkS] at h
    split at h
    · obtain ⟨h1, h2⟩ := and2 h
      exact st_while so.own (hk _ _ h1 X W ok tk) (hk _ _ h2 X W ok tk so)
    · cases h
  | raise e =>
    simp only [chkS] at h
    split at h
    · obtain ⟨h, h3⟩ := and2 h
      obtain ⟨h1, h2⟩ := and2 h
      obtain ⟨a, b, d, r⟩ := ok.exs e _ (of_decide_eq_true h1)
      exact st_raise ok.calm tk PySem.F.excBase_ValueError b a d r (gl_ok ok.sc h2) (by simpa using h3)
    · cases h
  | tryS body hs =>
    simp only [chkS] at h
    split at h
    · obtain ⟨h, h4⟩ := and2 h
      obtain ⟨h2, h3⟩ := and2 h
      have hx : ∀ p ∈ hs, ∃ x, c.tb.exs.lookup p.1 = some x := fun p hp => Option.isSome_iff_exists.mp (List.all_eq_true.mp h2 p hp)
      exact st_try so.stk so.frm tk (fun p hp p' hp' => by
        obtain ⟨x, e⟩ := hx p hp
        obtain ⟨x', e'⟩ := hx p' hp'
        exact ok.exm p.1 x p'.1 x' e e') (fun W' pn xe tk' ow => hk _ _ h4 (X.tr pn xe) W' (tr_ok ok pn xe) tk' ⟨so.stk, so.frm, ow⟩) (hdB_ok ok h3)
    · cases h
theorem chkSs_ok (hk : Kok τ Φ k) (ok : Cok τ Φ c X) (tk : Takes X W) {xs : List Stmt} {i : Ss} (h : chkSs k c fx xs i = true) : Snd τ Φ X W (.ss fx xs i) := by
  intro so
  unfold chkSs at h
  split at h
  · exact ss_nil
  · obtain ⟨h1, h2⟩ := and2 h
    exact ss_cons (hk _ _ h1 X W ok tk so) (hk _ _ h2 X W ok tk so)
  · cases h
end
theorem chk_ok {τ : Tb} {Φ : Nat → List T → FOut} : ∀ (n : Nat), Kok τ Φ (chk n)
  | 0 => fun c q h => by cases h
  | n + 1 => fun c q h X W ok tk => by
    have hk := chk_ok (τ := τ) (Φ := Φ) n
    have h : chkQ (chk n) c q = true := h
    cases q with
    | e x i => exact chkE_ok hk ok tk h
    | ds xs is => exact chkDs_ok hk ok tk h
    | as xs is => exact chkAs_ok hk ok tk h
    | ts xs is => exact chkTs_ok hk ok tk h
    | it tg x i => exact chkI_ok hk ok tk h
    | t x b => exact chkT_ok hk ok tk h
    | w op xs b => exact chkW_ok hk ok tk h
    | v x b => exact chkV_ok hk ok tk h
    | vw op xs b => exact chkVW_ok hk ok tk h
    | p x i => exact chkP_ok hk ok tk h
    | s fx x i => exact chkS_ok hk ok tk h
    | ss fx xs i => exact chkSs_ok hk ok tk h
end Z

set_option Elab.async false
set_option linter.all false
set_option maxRecDepth 100000
namespace Z
open PySem PySem.Spec PyProof.Rows L2

def ioIx : Nat → List Bool → List Nat
  | _, [] => []
  | n, true :: r => n :: ioIx (n + 1) r
  | n, false :: r => ioIx (n + 1) r
def outsOf (Γ : Env) (io : List Bool) : Option (List T) := argTs Γ ((ioIx 0 io).map Arg.io)
def finish (d : FDef) (r : SOut) : FOut := match r with
  | .nx Γ => (match outsOf Γ d.io with
    | some o => .ok (.sh .none) o
    | none => .no)
  | .rt t Γ => (match outsOf Γ d.io with
    | some o => .ok t o
    | none => .no)
  | .ex c Γ => (match outsOf Γ d.io with
    | some o => .ex c o
    | none => .no)
  | .no => .no
def startE (d : FDef) (ts : List T) : Env := ts.map some ++ List.replicate (d.N.length - ts.length) none
noncomputable def runDef (Φ : Nat → List T → FOut) (d : FDef) (ts : List T) : FOut := finish d (exSs Φ d.body (startE d ts))
noncomputable def callD (tb : Tbl) : Nat → Nat → List T → FOut
  | 0, _, _ => .no
  | n + 1, f, ts => match tb.fns.lookup f with
    | some d => if ts.length = d.ps.length then runDef (callD tb n) d ts else .no
    | none => .no
section
variable {K : PySem.W.Frag} {κ : Nat → Addr} {τ : Tb}
theorem relG_none {G : Hp} : ∀ (n : Nat), RelG K κ G (List.replicate n none) (List.replicate n none) []
  | 0 => .nl
  | n + 1 => by rw [List.replicate_succ, List.replicate_succ]; exact .no (relG_none n)
theorem relG_start {G : Hp} : ∀ {vs : List V} {ts : List T} {C : List Cell} (n : Nat), RelTs K κ G vs ts C → RelG K κ G (vs.map some ++ List.replicate n none) (ts.map some ++ List.replicate n none) C
  | _, _, _, n, .nil => relG_none n
  | _, _, _, n, .cons h1 h2 => .sm h1 (relG_start n h2)
theorem ars_start {G : Hp} {σ : L2.St} : ∀ (io : List Bool) (vs : List V) (n : Nat), vs.length = io.length → (∀ j v, vs[j]? = some v → σ[n + j]? = some (some v)) → ARs K G σ (pickV io vs) ((ioIx n io).map Arg.io)
  | [], vs, n, hl, h => by
    cases vs with
    | nil => exact .nil
    | cons v vs => cases hl
  | b :: io, [], n, hl, h => by cases hl
  | b :: io, v :: vs, n, hl, h => by
    have ih := ars_start (σ := σ) (G := G) io vs (n + 1) (by simpa using hl) (fun j w e => by
      have := h (j + 1) w (by simpa using e)
      rw [show n + (j + 1) = n + 1 + j by omega] at this
      exact this)
    cases b with
    | true => exact .io (by simpa using h 0 v rfl) ih
    | false => exact ih
theorem ars_fix {G : Hp} {σ σ' : L2.St} : ∀ (ks : List Nat) (vs : List V), (∀ k ∈ ks, σ'[k]? = σ[k]?) → ARs K G σ vs (ks.map Arg.io) → ARs K G σ' vs (ks.map Arg.io)
  | [], vs, hf, h => by cases h; exact .nil
  | k :: ks, vs, hf, h => by
    cases h with
    | io h1 h2 => exact .io ((hf k List.mem_cons_self).trans h1) (ars_fix ks _ (fun j hj => hf j (List.mem_cons_of_mem _ hj)) h2)
theorem ios_map : ∀ (ks : List Nat), ios (ks.map Arg.io) = ks
  | [] => rfl
  | k :: ks => by show k :: ios (ks.map Arg.io) = _; rw [ios_map ks]
/-- what the in-out parameters have become -/
theorem outs_ok {G : Hp} {σ σ0 : L2.St} {Γ : Env} {C : List Cell} {io : List Bool} {vs : List V} {outs : List T} (r : RelG K τ.κ G σ Γ C) (hl : vs.length = io.length) (h0 : ∀ j v, vs[j]? = some v → σ0[0 + j]? = some (some v)) (hf : FixS (ioIx 0 io) σ0 σ) (hn : nodupB (ioIx 0 io) = true) (ho : outsOf Γ io = some outs) :
    ∃ Co, RelTs K τ.κ G (pickV io vs) outs Co ∧ (∀ a, cnt a Co ≤ cnt a C) ∧ ∀ c ∈ Co, c ∈ C := by
  have a0 : ARs K G σ (pickV io vs) ((ioIx 0 io).map Arg.io) := ars_fix _ _ hf (ars_start io vs 0 hl h0)
  obtain ⟨Ct, Cr, t1, t2, t3, _⟩ := take_args _ _ Γ C outs r a0 ho (by rw [ios_map]; exact hn)
  exact ⟨Ct, t1, fun a => by have := t2 a; omega, fun c hc => t3 c (List.mem_append_left _ hc)⟩
end
/-! ### defs -/
/-- what is known of a def of the text -/
structure DefOk (K : PySem.W.Frag) (mg : Str → Option Value) (tb : Tbl) (d : FDef) (params : Arguments) (body : List Stmt) (scope : Scope) (f : Addr) (fd : FuncData) : Prop where
  F : FunD K d.nm d.nm params body scope [] [] f fd
  S : FnScope d.N d.ps scope
  io : d.io.length = d.ps.length
  nd : nodupB (ioIx 0 d.io) = true
  ck : ∃ n, chk n ⟨tb, d.N, scope, scope.names⟩ (.ss (ioIx 0 d.io) body d.body) = true
  gl : mg d.nm = some (.ref f)
  bd : Binds K fd d.ps []
/-- the exceptions -/
structure ExOk (K : PySem.W.Frag) (mg : Str → Option Value) (τ : Tb) (tb : Tbl) : Prop where
  exs : ∀ (e : Nat) (x : Str), tb.exs.lookup e = some x → mg x = some (.ref (τ.ea e)) ∧ PySem.W.excIn K (τ.ea e) excBm "ValueError.__new__" = true ∧ PySem.W.keepIn K (.ref (τ.ea e)) = true ∧ PySem.W.subIn K (.ref (τ.ea e)) (.type "BaseException") = some true ∧ PySem.W.typeIn K (.ref (τ.ea e)) = some (.type "type")
  exm : ∀ e x e' x', tb.exs.lookup e = some x → tb.exs.lookup e' = some x' → PySem.W.exmOne K (.ref (τ.ea e)) (.ref (τ.ea e')) = some (e' == e)
theorem fns_ok {P : Program} {w : World} {K : PySem.W.Frag} {mg : Str → Option Value} {base : Heap} {τ : Tb} {tb : Tbl} (hd : ∀ (i : Nat) (d : FDef), tb.fns.lookup i = some d → ∃ params body scope f fd, DefOk K mg tb d params body scope f fd) (hfree : ∀ x ∈ tb.free, mg x = none) (hex : ExOk K mg τ tb) (hsee : seerB K = true) (htree : P.given.tree = none) :
    ∀ (n i : Nat) (d : FDef) (params : Arguments) (body : List Stmt) (scope : Scope) (f : Addr) (fd : FuncData), tb.fns.lookup i = some d → DefOk K mg tb d params body scope f fd → FnOk P w K mg base (L2.CX P w) (n + 40) f fd d.ps (SpOf K τ d.io (callD tb n i))
  | 0, i, d, params, body, scope, f, fd, hi, D => by
    have no : ∀ vs H Q E, ¬ SpOf K τ d.io (callD tb 0 i) vs H Q E := by
      rintro vs H Q E ⟨Fr, G, C, ts, g, r, hl, h⟩
      unfold callD at h
      exact h
    exact ⟨fun vs H Q E h => (no vs H Q E h).elim, fun A outer s H args us vs Q E _ _ _ _ h => (no vs H Q E h).elim⟩
  | n + 1, i, d, params, body, scope, f, fd, hi, D => by
    rw [show n + 1 + 40 = n + 40 + 1 by omega]
    refine D.F.ok D.S (fun vs H Q E h => ?_) (fun cdv A outer s H vs Q E hr h => ?_)
    · obtain ⟨Fr, G, C, ts, g, r, hl, h⟩ := h
      rw [hl, D.io]
    · obtain ⟨Fr, G, C, ts, g, r, hl, h⟩ := h
      obtain ⟨m, hck⟩ := D.ck
      have IH := fns_ok (P := P) (w := w) (base := base) hd hfree hex hsee htree n
      have ok : Cok τ (callD tb n) ⟨tb, d.N, scope, scope.names⟩ (cxOf (L2.CX P w) P w K mg base d.N d.nm scope f cdv A outer s H E) :=
        { N := rfl, nd := D.S.nd, sc := rfl, knd := D.S.kind, calm := rfl, fn := fun _ _ => rfl, units := by have := hr.un; show (A.deeper _).units + 65 < cLine; omega
          pyl := ⟨hsee, htree, by have := hr.dp; show (A.deeper _).depth + 100 < recursionLimit; omega, _, outer, rfl, D.S.gen, D.S.co, rfl, rfl⟩
          fns := fun j e hj => by
            obtain ⟨pa', bo', sc', f', fd', D'⟩ := hd j e hj
            exact ⟨n + 40, f', fd', IH j e pa' bo' sc' f' fd' hj D', hr, D'.gl, D'.F.kp, D'.bd⟩
          free := hfree
          exs := fun e x he => by
            obtain ⟨a1, a2, a3, a4, a5⟩ := hex.exs e x he
            exact ⟨a1, a2, a3, raises_own a4 a5⟩
          exm := hex.exm }
      have tk : Takes (cxOf (L2.CX P w) P w K mg base d.N d.nm scope f cdv A outer s H E) (fun cls dd _ H => E cls dd H) := takes_of rfl rfl rfl rfl
      refine ⟨_, chk_ok m _ _ hck _ _ ok tk ⟨rfl, rfl, passes_of rfl⟩, ?_⟩
      have hts : ts.length = d.ps.length := by rw [← r.len, hl, D.io]
      have hvs : vs.length = ts.length := r.len
      unfold callD at h
      simp only [hi, hts, if_true] at h
      have r0 : RelG K τ.κ G (start d.N vs) (startE d ts) C := by
        unfold L2.start startE
        rw [hvs]
        exact relG_start _ r
      refine ⟨Fr, startE d ts, G, C, g, r0, ?_⟩
      have h0 : ∀ j v, vs[j]? = some v → (start d.N vs)[0 + j]? = some (some v) := fun j v e => by
        unfold L2.start
        have hj : j < vs.length := (List.getElem?_eq_some_iff.mp e).1
        rw [Nat.zero_add, List.getElem?_append_left (by simpa using hj), List.getElem?_map, e]
        rfl
      unfold runDef at h
      show match exSs (callD tb n) d.body (startE d ts) with
        | .nx Γ' => _
        | .rt t Γ' => _
        | .ex c Γ' => _
        | .no => _
      cases hE : exSs (callD tb n) d.body (startE d ts) with
      | no => rw [hE] at h; exact h
      | nx Γ' =>
        rw [hE] at h
        simp only [finish] at h ⊢
        cases hO : outsOf Γ' d.io with
        | none => rw [hO] at h; exact h.elim
        | some outs =>
          rw [hO] at h
          intro σ' H' G' C' e' g' r' f'
          obtain ⟨Co, o1, o2, o3⟩ := outs_ok r' hl h0 f' D.nd hO
          exact h .non H' G' Co [] e' (g'.re (fun a => by have := o2 a; simp <;> omega) (fun c hc => by have := o3 c; simp at hc this ⊢; grind)) (.sh .non) o1
      | rt t Γ' =>
        rw [hE] at h
        simp only [finish] at h ⊢
        cases hO : outsOf Γ' d.io with
        | none => rw [hO] at h; exact h.elim
        | some outs =>
          rw [hO] at h
          intro v σ' H' G' C' Ct e' g' r' t' f'
          obtain ⟨Co, o1, o2, o3⟩ := outs_ok r' hl h0 f' D.nd hO
          exact h v H' G' Co Ct e' (g'.re (fun a => by have := o2 a; simp <;> omega) (fun c hc => by have := o3 c; simp at hc this ⊢; grind)) t' o1
      | ex c Γ' =>
        rw [hE] at h
        simp only [finish] at h ⊢
        cases hO : outsOf Γ' d.io with
        | none => rw [hO] at h; exact h.elim
        | some outs =>
          rw [hO] at h
          intro σ' H' G' C' e' g' r' f'
          obtain ⟨Co, o1, o2, o3⟩ := outs_ok r' hl h0 f' D.nd hO
          exact h H' G' Co e' (g'.re (fun a => by have := o2 a; simp <;> omega) (fun c hc => by have := o3 c; simp at hc this ⊢; grind)) o1
/-! ### the end -/
theorem dp_ints {K : PySem.W.Frag} {H : Hp} : ∀ (ns : List Int), DpAll K H (ns.map V.int) (ns.map PyData.int)
  | [] => .nil
  | n :: ns => .cons (.int n) (dp_ints ns)
abbrev script (ns : List Int) : T := .sh (.list (ns.map PyData.int))
/-- the law's promise, from what it computes -/
theorem law_sp {K : PySem.W.Frag} {τ : Tb} {F : List T → FOut} {H : Hp} {a : Addr} {ns : List Int} (hS : SqL K H a (ns.map V.int)) (hF : F [script ns] = .ok (.sh (.bool true)) []) : SpOf K τ [false] F [.ref a] H (fun v _ => v = .bl true) (fun _ _ _ => False) := by
  refine ⟨[], H, [], [script ns], ⟨L2.Same.refl H, fun c hc => (by cases hc), fun b => (by simp)⟩, .cons (C := []) (.sh (.lst hS (dp_ints ns))) .nil, rfl, ?_⟩
  rw [hF]
  intro v H' G' Co Cr _ _ hv _
  cases hv with
  | sh hv => cases hv; rfl
theorem walkZ {l : PySem.W.OpenLaw} {n k : Nat} {q : Program} {loose : List Str} {XP : (Str → Option Value) → Heap → Prop} {YP : World → Heap → Prop} {d : DefRec} {x : Str} (hn : l.most = some n) (hn2 : n ≤ sizeLine) (hdf : d.params.defaults = []) (hr : Room k callerA)
    (F : ∀ (w : World) (mg : Str → Option Value) (h : Heap), YP w h → h.Ns mainGlobals mg → ∃ (K : PySem.W.Frag) (fa : Addr) (fd : FuncData) (sp : Sp), mg d.name = some (.ref fa) ∧ K.In h ∧ (∀ (s : Shared) (u : Value), BindsTo s fd ⟨[u], []⟩ [(x, u)]) ∧
        (∀ (H : Hp) (a : Addr) (ns : List Int), ns.length ≤ n → SqL K H a (ns.map V.int) → sp [.ref a] H (fun v _ => v = .bl true) fun _ _ _ => False) ∧
        ∀ base : Heap, FnOk l.prog w K mg base (L2.CX l.prog w) k fa fd [x] sp) :
    PySem.W.WalkO q loose XP YP l.row.toRowW d [] (fun f vs => PySem.call f vs) := by
  refine Att.attach_call hn hdf fun w s₀ s₁ mg mb fa o pm cd doc a vs ns G Y ho hd hcd hmg hobj hints hlen hg => ?_
  obtain ⟨K, fa', fd, sp, e, KX, hb, hsp, hF⟩ := F w mg _ Y G.T.g
  have e2 := hmg.symm.trans e
  cases e2
  exact law_call KX G.T.g G.T.b G.T.builtins G.T.nolimit hg hobj hints (Nat.le_trans hlen hn2) hr (fun base _ _ => hF base) hb (fun H _ hS => hsp H a ns hlen hS) fun H e s' h => by
    obtain ⟨_, _, _, _, _, _, _, _, _, _, _, _, z⟩ := h
    exact z
end Z

set_option Elab.async false
set_option linter.all false
set_option maxRecDepth 100000
namespace Z
open PySem PySem.Spec PyProof.Rows L2

def stAt (P : Program) (i : Nat) : Stmt := P.main.body.getD i (.Pass ⟨0, 0, 0, 0⟩)
def dD (P : Program) (d : FDef) (i : Nat) : He.DefD := ⟨(d.nm, none), d.nm, d.nm, defArgs (stAt P i), defBody (stAt P i), defScope (stAt P i), [], []⟩
def fnD (P : Program) (tb : Tbl) (pos : List Nat) : List He.DefD := List.zipWith (fun p i => dD P p.2 i) tb.fns pos
def faD (tb : Tbl) : List He.Fa := tb.fns.map (fun d => .glo d.2.nm) ++ (tb.free.map He.Fa.free ++ tb.exs.map fun x => He.Fa.glo x.2)
def exa (tb : Tbl) (K : PySem.W.Frag) (e : Nat) : Addr := He.ga K ((tb.exs.lookup e).getD Str.empty)
def exD (tb : Tbl) (K : PySem.W.Frag) : Bool := (tb.exs.all fun x => PySem.W.excIn K (He.ga K x.2) excBm "ValueError.__new__" && (PySem.W.keepIn K (.ref (He.ga K x.2)) && (decide (PySem.W.subIn K (.ref (He.ga K x.2)) (.type "BaseException") = some true) && decide (PySem.W.typeIn K (.ref (He.ga K x.2)) = some (.type "type"))))) &&
  tb.exs.all fun x => tb.exs.all fun x' => decide (PySem.W.exmOne K (.ref (He.ga K x.2)) (.ref (He.ga K x'.2)) = some (x'.1 == x.1))
def exK (tb : Tbl) (K : PySem.W.Frag) : Bool := exD tb K && seerB K
/-- the hook's fragment: what the module's names reach, and two of the heap's own tables -/
def frZ (g : Addr → Option Obj) : PySem.W.Frag := He.frT g (He.asD g 4 ++ [cStatics, sysModules])
def obsZ (fa : List He.Fa) (fn : List He.DefD) (ex : PySem.W.Frag → Bool) (g : Addr → Option Obj) : He.AlT × Bool := (He.obsT fa fn [] (frZ g), ex (frZ g))
def hookZ (fa : List He.Fa) (fn : List He.DefD) (ex : PySem.W.Frag → Bool) : PySem.W.Hook where
  α := He.AlT × Bool
  obs := fun s => obsZ fa fn ex s.heap.get?
  val := fun w => (He.valT fn [] w, true)
  says := fun w h => ∃ K : PySem.W.Frag, K.In h ∧ He.obsT fa fn [] K = He.valT fn [] w ∧ ex K = true
  of := fun _ _ e => ⟨_, He.frT_in, congrArg Prod.fst e, congrArg Prod.snd e⟩
  keeps := fun _ _ _ ⟨K, a, b⟩ k => ⟨K, PySem.W.Frag.In.keeps a k, b⟩
abbrev hkD (P : Program) (tb : Tbl) (pos : List Nat) : PySem.W.Hook := hookZ (faD tb) (fnD P tb pos) (exK tb)
abbrev obD (P : Program) (tb : Tbl) (pos : List Nat) (s : PySem.W.SharedT) : He.AlT × Bool := obsZ (faD tb) (fnD P tb pos) (exK tb) (HandSHeadRun.getT s)
theorem obD_eq (P : Program) (tb : Tbl) (pos : List Nat) (s : PySem.W.SharedT) : obD P tb pos s = (hkD P tb pos).obs s.abs := by
  have e : HandSHeadRun.getT s = s.abs.heap.get? := funext (HandSHeadRun.getT_eq s)
  show obsZ _ _ _ (HandSHeadRun.getT s) = obsZ _ _ _ s.abs.heap.get?
  rw [e]
/-- what the text shows of a def -/
def scB (N ps : List Str) (sc : Scope) : Bool := decide (sc.kind = .function) && !sc.isCoroutine && !sc.isGenerator && decide N.Nodup && decide (N.take ps.length = ps) && (ps.all fun x => match sc.names.lookup x with
    | some .local => true
    | some .cell => true
    | _ => false) && sc.names.all fun y => decide (y.2 ≠ .free)
theorem scB_ok {N ps : List Str} {sc : Scope} (h : scB N ps sc = true) : FnScope N ps sc := by
  unfold scB at h
  obtain ⟨h, h7⟩ := and2 h
  obtain ⟨h, h6⟩ := and2 h
  obtain ⟨h, h5⟩ := and2 h
  obtain ⟨h, h4⟩ := and2 h
  obtain ⟨h, h3⟩ := and2 h
  obtain ⟨h1, h2⟩ := and2 h
  refine ⟨of_decide_eq_true h1, by simpa using h2, by simpa using h3, of_decide_eq_true h4, of_decide_eq_true h5, fun x hx => ?_, fun y hy => of_decide_eq_true (List.all_eq_true.mp h7 y hy)⟩
  have := List.all_eq_true.mp h6 x hx
  split at this
  · exact .inl (by assumption)
  · exact .inr (by assumption)
  · cases this
def defB (P : Program) (tb : Tbl) (d : FDef) (i : Nat) : Bool := scB d.N d.ps (defScope (stAt P i)) && decide (d.io.length = d.ps.length) && nodupB (ioIx 0 d.io) && chk 100 ⟨tb, d.N, defScope (stAt P i), (defScope (stAt P i)).names⟩ (.ss (ioIx 0 d.io) (defBody (stAt P i)) d.body)
def allB (P : Program) (tb : Tbl) : List (Nat × FDef) → List Nat → Bool
  | [], [] => true
  | d :: ds, i :: is => defB P tb d.2 i && allB P tb ds is
  | _, _ => false
def BOk (P : Program) (d : FDef) (i : Nat) : Prop := ∀ (kV doc pm : Value) (an : Option Addr) (cdv ct : Value) (us : List Value), us.length = d.ps.length → bindArgs (PySem.W.fnOf d.nm d.nm (defArgs (stAt P i)) (defBody (stAt P i)) (defScope (stAt P i)) .none kV doc pm an cdv ct) ⟨us, []⟩ = pure (d.ps.zip us)
def BAll (P : Program) : List (Nat × FDef) → List Nat → Prop
  | d :: ds, i :: is => BOk P d.2 i ∧ BAll P ds is
  | _, _ => True
theorem all_at {P : Program} {tb : Tbl} : ∀ {ds : List (Nat × FDef)} {is : List Nat} {j : Nat} {d : FDef}, allB P tb ds is = true → BAll P ds is → ds.lookup j = some d → ∃ (m i : Nat), ds[m]? = some (j, d) ∧ is[m]? = some i ∧ defB P tb d i = true ∧ BOk P d i
  | [], _, j, d, h, hb, e => by cases e
  | d0 :: ds, [], j, d, h, hb, e => by cases h
  | (k0, d0) :: ds, i :: is, j, d, h, hb, e => by
    rw [List.lookup_cons] at e
    cases q : (j == k0) with
    | true =>
      rw [q] at e
      cases e
      exact ⟨0, i, by rw [eq_of_beq q]; rfl, rfl, (and2 h).1, hb.1⟩
    | false =>
      rw [q] at e
      obtain ⟨m, i', a, a2, b, c⟩ := all_at (j := j) (d := d) (and2 h).2 hb.2 e
      exact ⟨m + 1, i', by simpa using a, by simpa using a2, b, c⟩
theorem mem_of_lookupN {α : Type} : ∀ {l : List (Nat × α)} {j : Nat} {d : α}, l.lookup j = some d → (j, d) ∈ l
  | [], j, d, e => by cases e
  | (k0, d0) :: ds, j, d, e => by
    rw [List.lookup_cons] at e
    cases q : (j == k0) with
    | true =>
      rw [q] at e
      cases e
      rw [eq_of_beq q]
      exact List.mem_cons_self
    | false =>
      rw [q] at e
      exact List.mem_cons_of_mem _ (mem_of_lookupN e)
section
variable {P : Program} {w : World} {K : PySem.W.Frag} {h : Heap} {mg : Str → Option Value} {tb : Tbl} {pos : List Nat}
theorem defs_ok (X : K.In h) (G : h.Ns mainGlobals mg) (c : He.SaysD (faD tb) (fnD P tb pos) K) (ha : allB P tb tb.fns pos = true) (hb : BAll P tb.fns pos) (j : Nat) (d : FDef) (e : tb.fns.lookup j = some d) : ∃ i fd, BOk P d i ∧ DefOk K mg tb d (defArgs (stAt P i)) (defBody (stAt P i)) (defScope (stAt P i)) (He.ga K d.nm) fd := by
  obtain ⟨m, i, em, ei, h1, h2⟩ := all_at ha hb e
  have hfn : (fnD P tb pos)[m]? = some (dD P d i) := by
    unfold fnD
    rw [List.getElem?_zipWith, em, ei]
  obtain ⟨fd, F⟩ := c.def_ m hfn
  have hg : (He.Fa.glo d.nm).ok K = true := c.facts (by
    unfold faD
    refine List.mem_append_left _ (List.mem_map.mpr ⟨(j, d), mem_of_lookupN e, rfl⟩))
  unfold defB at h1
  obtain ⟨h1, k4⟩ := and2 h1
  obtain ⟨h1, k3⟩ := and2 h1
  obtain ⟨k1, k2⟩ := and2 h1
  exact ⟨i, fd, h2, F, scB_ok k1, of_decide_eq_true k2, k3, ⟨100, k4⟩, He.glo_ok X G hg, FunD.bindsN F h2⟩
theorem free_all (X : K.In h) (G : h.Ns mainGlobals mg) (c : He.SaysD (faD tb) (fnD P tb pos) K) : ∀ x ∈ tb.free, mg x = none := fun x hx =>
  He.free_ok X G (c.facts (by
    unfold faD
    exact List.mem_append_right _ (List.mem_append_left _ (List.mem_map.mpr ⟨x, hx, rfl⟩))))
theorem ex_all (X : K.In h) (G : h.Ns mainGlobals mg) (c : He.SaysD (faD tb) (fnD P tb pos) K) (m : exD tb K = true) : ExOk K mg ⟨fun _ => 0, exa tb K⟩ tb := by
  obtain ⟨m1, m2⟩ := and2 m
  have hx : ∀ e x, tb.exs.lookup e = some x → exa tb K e = He.ga K x := fun e x he => by unfold exa; rw [he]; rfl
  refine ⟨fun e x he => ?_, fun e x e' x' he he' => ?_⟩
  · have q := List.all_eq_true.mp m1 (e, x) (mem_of_lookupN he)
    obtain ⟨q1, q⟩ := and2 q
    obtain ⟨q2, q⟩ := and2 q
    obtain ⟨q3, q4⟩ := and2 q
    show mg x = some (.ref (exa tb K e)) ∧ PySem.W.excIn K (exa tb K e) _ _ = true ∧ PySem.W.keepIn K (.ref (exa tb K e)) = true ∧ PySem.W.subIn K (.ref (exa tb K e)) _ = _ ∧ PySem.W.typeIn K (.ref (exa tb K e)) = _
    rw [hx e x he]
    refine ⟨?_, q1, q2, of_decide_eq_true q3, of_decide_eq_true q4⟩
    exact He.glo_ok X G (c.facts (by
      unfold faD
      exact List.mem_append_right _ (List.mem_append_right _ (List.mem_map.mpr ⟨(e, x), mem_of_lookupN he, rfl⟩))))
  · have q := List.all_eq_true.mp (List.all_eq_true.mp m2 (e, x) (mem_of_lookupN he)) (e', x') (mem_of_lookupN he')
    show PySem.W.exmOne K (.ref (exa tb K e)) (.ref (exa tb K e')) = _
    rw [hx e x he, hx e' x' he']
    exact of_decide_eq_true q
end
/-- the law holds if what it computes is True -/
theorem law_walk {l : PySem.W.OpenLaw} {tb : Tbl} {pos : List Nat} {n k li : Nat} {q : Program} {loose : List Str} {XP : (Str → Option Value) → Heap → Prop} {d : DefRec} {ld : FDef} {x : Str}
    (hn : l.most = some n) (hn2 : n ≤ sizeLine) (hdf : d.params.defaults = []) (hr : Room (k + 40) callerA) (hld : tb.fns.lookup li = some ld) (hnm : d.name = ld.nm) (hps : ld.ps = [x]) (hio : ld.io = [false])
    (ha : allB l.prog tb tb.fns pos = true) (hb : BAll l.prog tb.fns pos) (ht : l.prog.given.tree = none)
    (hlaw : ∀ ns : List Int, ns.length ≤ n → callD tb k li [script ns] = .ok (.sh (.bool true)) []) :
    PySem.W.WalkO q loose XP (hkD l.prog tb pos).says l.row.toRowW d [] (fun f vs => PySem.call f vs) := by
  refine walkZ (k := k + 40) (x := x) hn hn2 hdf hr fun w mg h Y G => ?_
  obtain ⟨K, KX, Z1, Z2⟩ := Y
  have c : He.SaysD (faD tb) (fnD l.prog tb pos) K := congrArg (fun z : He.AlT => z.1) Z1
  obtain ⟨Z2, Z3⟩ := and2 Z2
  have hd := defs_ok KX G c ha hb
  have hfree := free_all KX G c
  have hex := ex_all KX G c Z2
  have hd' : ∀ (i : Nat) (d : FDef), tb.fns.lookup i = some d → ∃ params body scope f fd, DefOk K mg tb d params body scope f fd := fun i d e => by
    obtain ⟨i', fd, _, D⟩ := hd i d e
    exact ⟨_, _, _, _, fd, D⟩
  obtain ⟨i', fd, hB, D⟩ := hd li ld hld
  have hb1 := FunD.bindsA (ps := ld.ps) D.F hB
  refine ⟨K, He.ga K ld.nm, fd, SpOf K ⟨fun _ => 0, exa tb K⟩ ld.io (callD tb k li), by rw [hnm]; exact D.gl, KX, fun s u => ?_, fun H a ns hl hS => ?_, fun base => ?_⟩
  · have := hb1 s [u] (by rw [hps]; rfl)
    rw [hps] at this
    exact this
  · rw [hio]
    exact law_sp hS (hlaw ns hl)
  · rw [← hps]
    exact fns_ok hd' hfree hex Z3 ht k li ld _ _ _ _ fd hld D
end Z

set_option Elab.async false
set_option linter.all false
set_option maxRecDepth 100000
/-! the evaluator by small steps, for simp -/
namespace Z
open PySem

section
variable (Φ : Nat → List T → FOut)
@[simp] theorem lineOk_iff {n : Nat} : lineOk n = true ↔ n ≤ 1000000 := by unfold lineOk; simp
/-! operands -/
@[simp] theorem tree_t {Γ : Env} {t : T} : O.tree Γ (.t t) = some t := rfl
@[simp] theorem tree_at {Γ : Env} {k : Nat} {p : List Nat} : O.tree Γ (.at k p) = look Γ k p := rfl
def lookO (o : Option (Option T)) (p : List Nat) : Option T := match o with
  | some (some t) => sub t p
  | _ => none
@[simp] theorem look_eq {Γ : Env} {k : Nat} {p : List Nat} : look Γ k p = lookO Γ[k]? p := rfl
@[simp] theorem lookO_some {t : T} {p : List Nat} : lookO (some (some t)) p = sub t p := rfl
@[simp] theorem sub_nil {t : T} : sub t [] = some t := by cases t <;> rfl
@[simp] theorem esc_t {t : T} {Γ : Env} : esc (.t t) Γ = .ok t Γ := rfl
def escAt (k : Nat) (Γ : Env) (t : Option T) : Out T := match t with
  | some t => match t.fz with
    | some d => .ok (.sh d) (Γ.set k (some (.sh d)))
    | none => .no
  | none => .no
@[simp] theorem esc_at {k : Nat} {Γ : Env} : esc (.at k []) Γ = escAt k Γ (lookO Γ[k]? []) := rfl
@[simp] theorem escAt_sh {k : Nat} {Γ : Env} {d : D} : escAt k Γ (some (.sh d)) = .ok (.sh d) (Γ.set k (some (.sh d))) := rfl
theorem fzs_map : ∀ (ds : List D), T.fzs (ds.map T.sh) = some ds
  | [] => rfl
  | d :: ds => by rw [List.map_cons, T.fzs, fzs_map ds]; rfl
@[simp] theorem fz_ol (ds : List D) : (ol ds).fz = some (.list ds) := by unfold ol T.fz; rw [fzs_map]; rfl
@[simp] theorem fz_sh (d : D) : (T.sh d).fz = some d := rfl
@[simp] theorem escAt_ol {k : Nat} {Γ : Env} {ds : List D} : escAt k Γ (some (ol ds)) = .ok (.sh (.list ds)) (Γ.set k (some (.sh (.list ds)))) := by
  unfold escAt; simp
@[simp] theorem fzO_sh {d : D} {Γ : Env} : fzO (.sh d) Γ = .ok d Γ := rfl
@[simp] theorem fzO_ol {ds : List D} {Γ : Env} : fzO (ol ds) Γ = .ok (.list ds) Γ := by unfold fzO; simp
@[simp] theorem escD_eq {o : O} {Γ : Env} : escD o Γ = (esc o Γ).bind fzO := rfl
@[simp] theorem keepIf_t {b : Bool} {t : T} {Γ : Env} : keepIf b (.t t) Γ = .ok (.t t) Γ := by cases b <;> rfl
@[simp] theorem keepIf_true {o : O} {Γ : Env} : keepIf true o Γ = .ok o Γ := rfl
def kT (t : T) (Γ : Env) : Out O := .ok (.t t) Γ
@[simp] theorem kT_eq {t : T} {Γ : Env} : kT t Γ = .ok (.t t) Γ := rfl
@[simp] theorem keepIf_false {o : O} {Γ : Env} : keepIf false o Γ = (esc o Γ).bind kT := rfl
/-! trees -/
theorem shs_map : ∀ (ds : List D), shs (ds.map T.sh) = some ds
  | [] => rfl
  | d :: ds => by rw [List.map_cons, shs, shs_map ds]
@[simp] theorem els_ol (ds : List D) : els (ol ds) = some ds := shs_map ds
@[simp] theorem els_listD (ds : List D) : els (.sh (.list ds)) = some ds := rfl
@[simp] theorem els_tupleD (ds : List D) : els (.sh (.tuple ds)) = some ds := rfl
@[simp] theorem isL_ol (ds : List D) : isL (ol ds) = true := rfl
@[simp] theorem isL_list (ds : List D) : isL (.sh (.list ds)) = true := rfl
@[simp] theorem binT_int {o : Bop} {i j : Int} : binT o (.sh (.int i)) (.sh (.int j)) = (binI o i j).map .sh := by cases o <;> rfl
@[simp] theorem binI_add {i j : Int} : binI .add i j = some (.int (i + j)) := rfl
@[simp] theorem binI_sub {i j : Int} : binI .sub i j = some (.int (i - j)) := rfl
theorem binI_mul {i j : Int} (h : mulOk i j = true) : binI .mul i j = some (.int (i * j)) := by unfold binI; simp [h]
theorem binI_mod {i j : Int} (h : j ≠ 0) : binI .mod i j = some (.int (i.fmod j)) := by unfold binI; simp [h]
theorem binI_fdiv {i j : Int} (h : j ≠ 0) : binI .fdiv i j = some (.int (i.fdiv j)) := by unfold binI; simp [h]
@[simp] theorem binT_bool_add {x : Bool} {j : Int} : binT .add (.sh (.bool x)) (.sh (.int j)) = some (.sh (.int ((if x then 1 else 0) + j))) := rfl
@[simp] theorem binT_bool_sub {x : Bool} {j : Int} : binT .sub (.sh (.bool x)) (.sh (.int j)) = some (.sh (.int ((if x then 1 else 0) - j))) := rfl
theorem binT_str {x y : Str} (h : x.length + y.length ≤ 1000000) : binT .add (.sh (.str x)) (.sh (.str y)) = some (.sh (.str (x ++ y))) := by
  show (if lineOk (x.length + y.length) then _ else _) = _
  rw [if_pos (lineOk_iff.mpr h)]
theorem binT_tup {x y : List D} (h : x.length + y.length ≤ 1000000) : binT .add (.sh (.tuple x)) (.sh (.tuple y)) = some (.sh (.tuple (x ++ y))) := by
  show (if lineOk (x.length + y.length) then _ else _) = _
  rw [if_pos (lineOk_iff.mpr h)]
theorem binT_rep {x : List D} {n : Int} (h2 : -1000 ≤ n) (h3 : n ≤ 1000) (h4 : x.length ≤ 1000) : binT .mul (.sh (.tuple x)) (.sh (.int n)) = some (.sh (.tuple (List.replicate n.toNat x).flatten)) := by
  unfold binT
  simp [h2, h3, h4]
theorem binT_cat {a b : T} {x y : List D} (ha : isL a = true) (hb : isL b = true) (ea : els a = some x) (eb : els b = some y) (h : x.length + y.length ≤ 1000000) : binT .add a b = some (ol (x ++ y)) := by
  have key : binT .add a b = if isL a && isL b then match els a, els b with
      | some xs, some ys => if lineOk (xs.length + ys.length) then some (ol (xs ++ ys)) else none
      | _, _ => none
    else none := by
    cases a with
    | sh d => cases d with
      | list ds => cases b with
        | sh e => cases e <;> rfl
        | _ => rfl
      | _ => cases ha
    | ol ts => cases b with
      | sh e => cases e <;> rfl
      | _ => rfl
    | _ => cases ha
  rw [key, ha, hb, ea, eb]
  simp [h]
theorem binT_cat' {x y : List D} (h : x.length + y.length ≤ 1000000) : binT .add (ol x) (ol y) = some (ol (x ++ y)) := binT_cat rfl rfl (els_ol x) (els_ol y) h
theorem binT_cat1 {x y : List D} (h : x.length + y.length ≤ 1000000) : binT .add (.sh (.list x)) (ol y) = some (ol (x ++ y)) := binT_cat rfl rfl rfl (els_ol y) h
theorem binT_cat2 {x y : List D} (h : x.length + y.length ≤ 1000000) : binT .add (ol x) (.sh (.list y)) = some (ol (x ++ y)) := binT_cat rfl rfl (els_ol x) rfl h
theorem binT_repL {x : List D} {n : Int} (h1 : x.length * n.toNat ≤ 1000000) (h2 : n.natAbs ≤ 1000000) : binT .mul (ol x) (.sh (.int n)) = some (ol (List.replicate n.toNat x).flatten) := by
  show (match shs (x.map T.sh) with
      | some xs => if lineOk (xs.length * n.toNat) && lineOk n.natAbs then some (ol (List.replicate n.toNat xs).flatten) else none
      | none => none) = _
  rw [shs_map]
  simp [h1, h2]
@[simp] theorem tr2_eq {α : Type} {f : T → T → Option α} {Γ : Env} {x y : O} : tr2 f Γ x y = (O.tree Γ x).bind fun a => (O.tree Γ y).bind fun b => f a b := by
  unfold tr2
  cases O.tree Γ x <;> cases O.tree Γ y <;> rfl
@[simp] theorem tr1_eq {α : Type} {f : T → Option α} {Γ : Env} {x : O} : tr1 f Γ x = (O.tree Γ x).bind f := by
  unfold tr1
  cases O.tree Γ x <;> rfl
@[simp] theorem cmpT_sh {o : Cop} {a b : D} : cmpT o (.sh a) (.sh b) = cmpD o a b := rfl
@[simp] theorem cmpT_olL {o : Cop} {a : List D} {b : D} : cmpT o (ol a) (.sh b) = cmpD o (.list a) b := by unfold cmpT; simp
@[simp] theorem cmpT_olR {o : Cop} {a : D} {b : List D} : cmpT o (.sh a) (ol b) = cmpD o a (.list b) := by unfold cmpT; simp
@[simp] theorem cmpT_ol {o : Cop} {a b : List D} : cmpT o (ol a) (ol b) = cmpD o (.list a) (.list b) := by unfold cmpT; simp
@[simp] theorem cmpD_lt {i j : Int} : cmpD .lt (.int i) (.int j) = some (decide (i < j)) := rfl
@[simp] theorem cmpD_le {i j : Int} : cmpD .le (.int i) (.int j) = some (decide (i ≤ j)) := rfl
@[simp] theorem cmpD_gt {i j : Int} : cmpD .gt (.int i) (.int j) = some (decide (j < i)) := rfl
@[simp] theorem cmpD_ge {i j : Int} : cmpD .ge (.int i) (.int j) = some (decide (j ≤ i)) := rfl
@[simp] theorem cmpD_is {a : D} : cmpD .is a .none = some (isNone a) := rfl
@[simp] theorem cmpD_isnot {a : D} : cmpD .isnot a .none = some (!isNone a) := rfl
theorem cmpD_eq {a b : D} (ha : fineD a = true) (hb : fineD b = true) : cmpD .eq a b = some (PyData.eqv a b) := by unfold cmpD; simp [ha, hb]
theorem cmpD_ne {a b : D} (ha : fineD a = true) (hb : fineD b = true) : cmpD .ne a b = some (!PyData.eqv a b) := by unfold cmpD; simp [ha, hb]
@[simp] theorem fine_none : fineD .none = true := rfl
@[simp] theorem fine_bool {b : Bool} : fineD (.bool b) = true := rfl
@[simp] theorem fine_int {i : Int} : fineD (.int i) = true := by simp [fineD, SeqAt.shaped, PyData.canLay0, PyData.depth]
@[simp] theorem cmpD_eqI {i j : Int} : cmpD .eq (.int i) (.int j) = some (decide (i = j)) := by
  rw [cmpD_eq fine_int fine_int]
  show some (i == j) = _
  rw [Bool.beq_eq_decide_eq]
@[simp] theorem cmpD_neI {i j : Int} : cmpD .ne (.int i) (.int j) = some (!decide (i = j)) := by
  rw [cmpD_ne fine_int fine_int]
  show some (!(i == j)) = _
  rw [Bool.beq_eq_decide_eq]
@[simp] theorem cmpD_eqB {i j : Bool} : cmpD .eq (.bool i) (.bool j) = some (i == j) := by rw [cmpD_eq rfl rfl]; rfl
@[simp] theorem cmpD_neB {i j : Bool} : cmpD .ne (.bool i) (.bool j) = some (!(i == j)) := by rw [cmpD_ne rfl rfl]; rfl
@[simp] theorem strict_bool {b : Bool} : strictT (.sh (.bool b)) = some b := rfl
@[simp] theorem truthT_bool {b : Bool} : truthT (.sh (.bool b)) = some b := rfl
@[simp] theorem truthT_none : truthT (.sh .none) = some false := rfl
@[simp] theorem truthT_int {i : Int} : truthT (.sh (.int i)) = some (i != 0) := rfl
@[simp] theorem truthT_list {ds : List D} : truthT (.sh (.list ds)) = some (!ds.isEmpty) := rfl
@[simp] theorem truthT_tuple {ds : List D} : truthT (.sh (.tuple ds)) = some (!ds.isEmpty) := rfl
@[simp] theorem truthT_ol {ds : List D} : truthT (ol ds) = some (!ds.isEmpty) := by unfold truthT; simp [truthD]
@[simp] theorem isi_sh {ty : Ty} {d : D} : isiT ty (.sh d) = some (.sh (.bool (isiD ty d))) := rfl
@[simp] theorem isi_ol {ty : Ty} {ds : List D} : isiT ty (ol ds) = some (.sh (.bool (isiD ty (.list ds)))) := by unfold isiT; simp
@[simp] theorem negT_int {i : Int} : negT (.sh (.int i)) = some (.sh (.int (-i))) := rfl
/-! built-ins -/
@[simp] theorem bi_len_list {ds : List D} : biT .len (.sh (.list ds)) = some (.sh (.int ds.length)) := rfl
@[simp] theorem bi_len_tuple {ds : List D} : biT .len (.sh (.tuple ds)) = some (.sh (.int ds.length)) := rfl
@[simp] theorem bi_len_ol {ds : List D} : biT .len (ol ds) = some (.sh (.int ds.length)) := by unfold biT; simp
@[simp] theorem bi_abs {i : Int} : biT .abs (.sh (.int i)) = some (.sh (.int (if i < 0 then -i else i))) := rfl
@[simp] theorem bi_int {i : Int} : biT .int (.sh (.int i)) = some (.sh (.int i)) := rfl
@[simp] theorem bi_intB {b : Bool} : biT .int (.sh (.bool b)) = some (.sh (.int (if b then 1 else 0))) := rfl
@[simp] theorem bi_tuple_list {ds : List D} : biT .tuple (.sh (.list ds)) = some (.sh (.tuple ds)) := rfl
@[simp] theorem bi_tuple_tuple {ds : List D} : biT .tuple (.sh (.tuple ds)) = some (.sh (.tuple ds)) := rfl
@[simp] theorem bi_tuple_ol {ds : List D} : biT .tuple (ol ds) = some (.sh (.tuple ds)) := by unfold biT; simp
@[simp] theorem bi_list_list {ds : List D} : biT .list (.sh (.list ds)) = some (ol ds) := rfl
@[simp] theorem bi_list_tuple {ds : List D} : biT .list (.sh (.tuple ds)) = some (ol ds) := rfl
@[simp] theorem bi_list_ol {ds : List D} : biT .list (ol ds) = some (ol ds) := by unfold biT; simp
@[simp] theorem bi_sorted {ds : List D} : biT .sorted (ol ds) = (srtD ds).map ol := by unfold biT; simp
@[simp] theorem bi_sset {ds : List D} : biT .sset (ol ds) = (ssetD ds).map ol := by unfold biT; simp
@[simp] theorem bi_join {x : Str} {ds : List D} : biT (.join x) (ol ds) = (joinD x ds).map .sh := by unfold biT; simp
theorem strsOf_map : ∀ (ys : List Str), strsOf (ys.map PyData.str) = some ys
  | [] => rfl
  | y :: ys => by rw [List.map_cons, strsOf, strsOf_map ys]; rfl
theorem joinD_map {x : Str} {ys : List Str} (h : (ys.map (·.length)).sum + ys.length * x.length ≤ 1000000) : joinD x (ys.map PyData.str) = some (.str (PySem.Txt.join x ys)) := by
  unfold joinD
  rw [strsOf_map, Option.bind_some, if_pos (decide_eq_true h)]
theorem binT_strRep {x : Str} {n : Int} (h1 : -1000 ≤ n) (h2 : n ≤ 1000) (h3 : x.length ≤ 1000) : binT .mul (.sh (.str x)) (.sh (.int n)) = some (.sh (.str (strRep x n))) := by
  unfold binT
  simp [h1, h2, h3]
theorem bools_map : ∀ (bs : List Bool), bools (bs.map PyData.bool) = some bs
  | [] => rfl
  | b :: bs => by rw [List.map_cons, bools, bools_map bs]
theorem asInts_map : ∀ (is : List Int), asInts (is.map PyData.int) = some is
  | [] => rfl
  | i :: is => by rw [List.map_cons, asInts, asInts_map is]
@[simp] theorem bi_all {bs : List Bool} : biT .all (ol (bs.map PyData.bool)) = some (.sh (.bool (bs.all id))) := by
  unfold biT; simp [bools_map]
@[simp] theorem bi_any {bs : List Bool} : biT .any (ol (bs.map PyData.bool)) = some (.sh (.bool (bs.any id))) := by
  unfold biT; simp [bools_map]
@[simp] theorem bi_sum {is : List Int} : biT .sum (ol (is.map PyData.int)) = some (.sh (.int is.sum)) := by
  unfold biT; simp [asInts_map]
@[simp] theorem bi_sumT {is : List Int} : biT .sum (.sh (.tuple (is.map PyData.int))) = some (.sh (.int is.sum)) := by
  unfold biT; simp [asInts_map]
@[simp] theorem bi_sumL {is : List Int} : biT .sum (.sh (.list (is.map PyData.int))) = some (.sh (.int is.sum)) := by
  unfold biT; simp [asInts_map]
theorem bi_max {is : List Int} {m : Int} (h : maxI is = some m) : biT .max (ol (is.map PyData.int)) = some (.sh (.int m)) := by
  unfold biT; simp [asInts_map, h]
/-! the evaluator -/
def evVar (i : Nat) (o : Option (Option T)) (Γ : Env) : Out O := match o with
  | some (some (.sh d)) => .ok (.t (.sh d)) Γ
  | some (some _) => .ok (.at i []) Γ
  | _ => .no
@[simp] theorem evVar_sh {i : Nat} {d : D} {Γ : Env} : evVar i (some (some (.sh d))) Γ = .ok (.t (.sh d)) Γ := rfl
@[simp] theorem evVar_ol {i : Nat} {ds : List D} {Γ : Env} : evVar i (some (some (ol ds))) Γ = .ok (.at i []) Γ := rfl
@[simp] theorem evVar_ols {i : Nat} {ds : List T} {Γ : Env} : evVar i (some (some (.ol ds))) Γ = .ok (.at i []) Γ := rfl
@[simp] theorem ev_var {i : Nat} {Γ : Env} : ev Φ (.var i) Γ = evVar i Γ[i]? Γ := rfl
@[simp] theorem ev_non {Γ : Env} : ev Φ .non Γ = .ok (.t (.sh .none)) Γ := rfl
@[simp] theorem ev_bl {b : Bool} {Γ : Env} : ev Φ (.bl b) Γ = .ok (.t (.sh (.bool b))) Γ := rfl
@[simp] theorem ev_num {i : Int} {Γ : Env} : ev Φ (.num i) Γ = .ok (.t (.sh (.int i))) Γ := rfl
@[simp] theorem ev_text {x : Str} {Γ : Env} : ev Φ (.text x) Γ = .ok (.t (.sh (.str x))) Γ := rfl
def kTup (ds : List D) (Γ : Env) : Out O := .ok (.t (.sh (.tuple ds))) Γ
@[simp] theorem kTup_eq {ds : List D} {Γ : Env} : kTup ds Γ = .ok (.t (.sh (.tuple ds))) Γ := rfl
@[simp] theorem ev_tup {es : Es} {Γ : Env} : ev Φ (.tup es) Γ = (evDs Φ es Γ).bind kTup := rfl
def kLst (ds : List D) (Γ : Env) : Out O := .ok (.t (ol ds)) Γ
@[simp] theorem kLst_eq {ds : List D} {Γ : Env} : kLst ds Γ = .ok (.t (ol ds)) Γ := rfl
@[simp] theorem ev_lst {es : Es} {Γ : Env} : ev Φ (.lst es) Γ = (evDs Φ es Γ).bind kLst := rfl
def kFin (t : Option T) (Γ : Env) : Out O := lift (t.map .t) Γ
@[simp] theorem kFin_some {t : T} {Γ : Env} : kFin (some t) Γ = .ok (.t t) Γ := rfl
def kBin3 (o : Bop) (x y : O) (Γ : Env) : Out O := kFin ((O.tree Γ x).bind fun a => (O.tree Γ y).bind fun b => binT o a b) Γ
@[simp] theorem kBin3_eq {o : Bop} {x y : O} {Γ : Env} : kBin3 o x y Γ = kFin ((O.tree Γ x).bind fun a => (O.tree Γ y).bind fun b => binT o a b) Γ := rfl
def kBin2 (o : Bop) (b : E) (x : O) (Γ : Env) : Out O := (ev Φ b Γ).bind (kBin3 o x)
@[simp] theorem kBin2_eq {o : Bop} {b : E} {x : O} {Γ : Env} : kBin2 Φ o b x Γ = (ev Φ b Γ).bind (kBin3 o x) := rfl
def kBin1 (o : Bop) (b : E) (x : O) (Γ : Env) : Out O := (keepIf (spure b) x Γ).bind (kBin2 Φ o b)
@[simp] theorem kBin1_eq {o : Bop} {b : E} {x : O} {Γ : Env} : kBin1 Φ o b x Γ = (keepIf (spure b) x Γ).bind (kBin2 Φ o b) := rfl
@[simp] theorem ev_bin {o : Bop} {a b : E} {Γ : Env} : ev Φ (.bin o a b) Γ = (ev Φ a Γ).bind (kBin1 Φ o b) := by
  show (ev Φ a Γ).bind _ = _
  congr 1
  funext x Γ
  show (keepIf (spure b) x Γ).bind _ = _
  congr 1
  funext x Γ
  show (ev Φ b Γ).bind _ = _
  congr 1
  funext y Γ
  simp [kFin]
def kOne (f : T → Option T) (x : O) (Γ : Env) : Out O := kFin ((O.tree Γ x).bind f) Γ
@[simp] theorem kOne_eq {f : T → Option T} {x : O} {Γ : Env} : kOne f x Γ = kFin ((O.tree Γ x).bind f) Γ := rfl
theorem kOne_of {f : T → Option T} : (fun (x : O) (Γ : Env) => lift ((tr1 f Γ x).map .t) Γ) = kOne f := by funext x Γ; simp [kFin]
@[simp] theorem ev_neg {a : E} {Γ : Env} : ev Φ (.neg a) Γ = (ev Φ a Γ).bind (kOne negT) := by rw [← kOne_of]; rfl
@[simp] theorem ev_rev {a : E} {Γ : Env} : ev Φ (.rev a) Γ = (ev Φ a Γ).bind (kOne revT) := by rw [← kOne_of]; rfl
@[simp] theorem ev_isi {ty : Ty} {a : E} {Γ : Env} : ev Φ (.isi ty a) Γ = (ev Φ a Γ).bind (kOne (isiT ty)) := by rw [← kOne_of]; rfl
@[simp] theorem ev_bi {f : Bi} {a : E} {Γ : Env} : ev Φ (.bi f a) Γ = (ev Φ a Γ).bind (kOne (biT f)) := by rw [← kOne_of]; rfl
def kBool (b : Bool) (Γ : Env) : Out O := .ok (.t (.sh (.bool b))) Γ
@[simp] theorem kBool_eq {b : Bool} {Γ : Env} : kBool b Γ = .ok (.t (.sh (.bool b))) Γ := rfl
@[simp] theorem ev_bool {b : B} {Γ : Env} : ev Φ (.bool b) Γ = (evB Φ true b Γ).bind kBool := rfl
def kEsc (o : O) (Γ : Env) : Out O := (esc o Γ).bind kT
@[simp] theorem kEsc_eq {o : O} {Γ : Env} : kEsc o Γ = (esc o Γ).bind kT := rfl
def kIte (a b : E) (k : Bool) (Γ : Env) : Out O := match k with
  | true => (ev Φ a Γ).bind kEsc
  | false => (ev Φ b Γ).bind kEsc
@[simp] theorem kIte_t {a b : E} {Γ : Env} : kIte Φ a b true Γ = (ev Φ a Γ).bind kEsc := rfl
@[simp] theorem kIte_f {a b : E} {Γ : Env} : kIte Φ a b false Γ = (ev Φ b Γ).bind kEsc := rfl
@[simp] theorem ev_ite {c : B} {a b : E} {Γ : Env} : ev Φ (.ite c a b) Γ = (evB Φ false c Γ).bind (kIte Φ a b) := by
  show (evB Φ false c Γ).bind _ = _
  congr 1
  funext k Γ
  cases k <;> rfl
def kIx3 (x j : O) (Γ : Env) : Out O := lift (ixO Γ x j) Γ
@[simp] theorem kIx3_eq {x j : O} {Γ : Env} : kIx3 x j Γ = lift (ixO Γ x j) Γ := rfl
def kIx2 (i : E) (x : O) (Γ : Env) : Out O := (ev Φ i Γ).bind (kIx3 x)
@[simp] theorem kIx2_eq {i : E} {x : O} {Γ : Env} : kIx2 Φ i x Γ = (ev Φ i Γ).bind (kIx3 x) := rfl
def kIx1 (i : E) (x : O) (Γ : Env) : Out O := (keepIf (spure i) x Γ).bind (kIx2 Φ i)
@[simp] theorem kIx1_eq {i : E} {x : O} {Γ : Env} : kIx1 Φ i x Γ = (keepIf (spure i) x Γ).bind (kIx2 Φ i) := rfl
@[simp] theorem ev_ix {a i : E} {Γ : Env} : ev Φ (.ix a i) Γ = (ev Φ a Γ).bind (kIx1 Φ i) := rfl
@[simp] theorem ixO_sh {Γ : Env} {d : D} {j : Int} : ixO Γ (.t (.sh d)) (.t (.sh (.int j))) = (ixD d j).map fun d => .t (.sh d) := by
  show ((ixD d j).map T.sh).map O.t = _
  cases ixD d j <;> rfl
@[simp] theorem ixO_at {Γ : Env} {k : Nat} {p : List Nat} {j : Int} : ixO Γ (.at k p) (.t (.sh (.int j))) = (lookO Γ[k]? p).bind fun t => ixAt k p t j := by
  show (match look Γ k p with | some t => ixAt k p t j | none => none) = _
  rw [look_eq]
  cases lookO Γ[k]? p <;> rfl
@[simp] theorem ixAt_sh {k : Nat} {p : List Nat} {d : D} {j : Int} : ixAt k p (.sh d) j = (ixD d j).map fun d => .t (.sh d) := rfl
@[simp] theorem ixAt_ol {k : Nat} {p : List Nat} {ds : List D} {j : Int} : ixAt k p (ol ds) j = (ixD (.list ds) j).map fun d => .t (.sh d) := by
  show ((ixJ (ds.map T.sh).length j).bind fun j => _) = ((ixJ ds.length j).bind fun j => ds[j]?).map _
  rw [List.length_map]
  cases ixJ ds.length j with
  | none => rfl
  | some m =>
    simp only [Option.bind_some, List.getElem?_map]
    cases ds[m]? <;> rfl
@[simp] theorem ixD_tuple {ds : List D} {j : Int} : ixD (.tuple ds) j = ixD (.list ds) j := rfl
theorem ixD_nat {ds : List D} {j : Nat} (h : j < ds.length) : ixD (.list ds) (j : Int) = ds[j]? := by
  show ((L2.ixN ds.length (j : Int)).bind fun j => ds[j]?) = _
  have : L2.ixN ds.length (j : Int) = some j := by
    unfold L2.ixN
    simp [h]
  rw [this]
  rfl
/-! slices -/
def kSl4 (l : Option Int) (x : O) (h : Option Int) (Γ : Env) : Out O := kFin ((O.tree Γ x).bind (slT l h)) Γ
@[simp] theorem kSl4_eq {l h : Option Int} {x : O} {Γ : Env} : kSl4 l x h Γ = kFin ((O.tree Γ x).bind (slT l h)) Γ := rfl
def kPart (e : E) (o : O) (Γ : Env) : Out (Option Int) := lift (part e o) Γ
@[simp] theorem kPart_eq {e : E} {o : O} {Γ : Env} : kPart e o Γ = lift (part e o) Γ := rfl
@[simp] theorem part_non {o : O} : part .non o = some none := rfl
theorem part_int {e : E} {i : Int} (h : isNon e = false) : part e (.t (.sh (.int i))) = some (some i) := by
  cases e <;> first | rfl | cases h
@[simp] theorem part_var {k : Nat} {i : Int} : part (.var k) (.t (.sh (.int i))) = some (some i) := rfl
@[simp] theorem part_num {k i : Int} : part (.num k) (.t (.sh (.int i))) = some (some i) := rfl
@[simp] theorem part_neg {a : E} {i : Int} : part (.neg a) (.t (.sh (.int i))) = some (some i) := rfl
@[simp] theorem part_bin {o : Bop} {a b : E} {i : Int} : part (.bin o a b) (.t (.sh (.int i))) = some (some i) := rfl
@[simp] theorem part_bi {f : Bi} {a : E} {i : Int} : part (.bi f a) (.t (.sh (.int i))) = some (some i) := rfl
@[simp] theorem part_ix {a b : E} {i : Int} : part (.ix a b) (.t (.sh (.int i))) = some (some i) := rfl
def kSl3 (hi : E) (x : O) (l : Option Int) (Γ : Env) : Out O := ((ev Φ hi Γ).bind (kPart hi)).bind (kSl4 l x)
@[simp] theorem kSl3_eq {hi : E} {x : O} {l : Option Int} {Γ : Env} : kSl3 Φ hi x l Γ = ((ev Φ hi Γ).bind (kPart hi)).bind (kSl4 l x) := rfl
def kSl2 (lo hi : E) (x : O) (Γ : Env) : Out O := ((ev Φ lo Γ).bind (kPart lo)).bind (kSl3 Φ hi x)
@[simp] theorem kSl2_eq {lo hi : E} {x : O} {Γ : Env} : kSl2 Φ lo hi x Γ = ((ev Φ lo Γ).bind (kPart lo)).bind (kSl3 Φ hi x) := rfl
def kSl1 (lo hi : E) (x : O) (Γ : Env) : Out O := (keepIf (spure lo && spure hi) x Γ).bind (kSl2 Φ lo hi)
@[simp] theorem kSl1_eq {lo hi : E} {x : O} {Γ : Env} : kSl1 Φ lo hi x Γ = (keepIf (spure lo && spure hi) x Γ).bind (kSl2 Φ lo hi) := rfl
theorem bind_assoc' {α β γ : Type} (m : Out α) (f : α → Env → Out β) (g : β → Env → Out γ) : (m.bind f).bind g = m.bind fun a Γ => (f a Γ).bind g := by cases m <;> rfl
@[simp] theorem ev_sl {a lo hi : E} {Γ : Env} : ev Φ (.sl a lo hi) Γ = (ev Φ a Γ).bind (kSl1 Φ lo hi) := by
  show (ev Φ a Γ).bind _ = _
  congr 1
  funext x Γ
  show (keepIf (spure lo && spure hi) x Γ).bind _ = _
  congr 1
  funext x Γ
  rw [kSl2_eq, bind_assoc']
  congr 1
  funext l Γ
  show (lift (part lo l) Γ).bind _ = _
  congr 1
  funext l Γ
  rw [kSl3_eq, bind_assoc']
  congr 1
  funext h Γ
  show (lift (part hi h) Γ).bind _ = _
  congr 1
  funext h Γ
  simp [kFin]
@[simp] theorem slT_tuple {l h : Option Int} {ds : List D} : slT l h (.sh (.tuple ds)) = some (.sh (.tuple (cut ds l h))) := rfl
@[simp] theorem slT_list {l h : Option Int} {ds : List D} : slT l h (.sh (.list ds)) = some (ol (cut ds l h)) := rfl
@[simp] theorem slT_ol {l h : Option Int} {ds : List D} : slT l h (ol ds) = some (ol (cut ds l h)) := by
  show (if isL (ol ds) = true then (els (ol ds)).map fun ds => ol (cut ds l h) else none) = _
  simp
@[simp] theorem revT_tuple {ds : List D} : revT (.sh (.tuple ds)) = some (.sh (.tuple ds.reverse)) := rfl
@[simp] theorem revT_list {ds : List D} : revT (.sh (.list ds)) = some (ol ds.reverse) := rfl
@[simp] theorem revT_ol {ds : List D} : revT (ol ds) = some (ol ds.reverse) := by
  show (if isL (ol ds) = true then (els (ol ds)).map fun ds => ol ds.reverse else none) = _
  simp
/-! calls -/
def kCall (f : Nat) (as : List Arg) (Γ : Env) : Out O := runCall Φ f as Γ
@[simp] theorem ev_call {f : Nat} {as : Es} {Γ : Env} : ev Φ (.call f as) Γ = (evAs Φ as Γ).bind (kCall Φ f) := rfl
def kRun3 (o : Option Env) (r : T) : Out O := match o with
  | some Γ => .ok (.t r) Γ
  | none => .no
@[simp] theorem kRun3_some {Γ : Env} {r : T} : kRun3 (some Γ) r = .ok (.t r) Γ := rfl
def kRun4 (o : Option Env) (c : Nat) : Out O := match o with
  | some Γ => .ex c Γ
  | none => .no
@[simp] theorem kRun4_some {Γ : Env} {c : Nat} : kRun4 (some Γ) c = .ex c Γ := rfl
def kRun2 (ks : List Nat) (Γ : Env) (r : FOut) : Out O := match r with
  | .ok r outs => kRun3 (putOuts Γ ks outs) r
  | .ex c outs => kRun4 (putOuts Γ ks outs) c
  | .no => .no
@[simp] theorem kRun2_ok {ks : List Nat} {Γ : Env} {r : T} {outs : List T} : kRun2 ks Γ (.ok r outs) = kRun3 (putOuts Γ ks outs) r := rfl
@[simp] theorem kRun2_ex {ks : List Nat} {Γ : Env} {c : Nat} {outs : List T} : kRun2 ks Γ (.ex c outs) = kRun4 (putOuts Γ ks outs) c := rfl
def kRun1 (f : Nat) (as : List Arg) (Γ : Env) (ts : Option (List T)) : Out O := match ts with
  | none => .no
  | some ts => if nodupB (ios as) then kRun2 (ios as) Γ (Φ f ts) else .no
@[simp] theorem kRun1_some {f : Nat} {as : List Arg} {Γ : Env} {ts : List T} : kRun1 Φ f as Γ (some ts) = if nodupB (ios as) then kRun2 (ios as) Γ (Φ f ts) else .no := rfl
@[simp] theorem kCall_eq {f : Nat} {as : List Arg} {Γ : Env} : kCall Φ f as Γ = kRun1 Φ f as Γ (argTs Γ as) := by
  unfold kCall runCall kRun1
  cases argTs Γ as with
  | none => rfl
  | some ts => rfl
@[simp] theorem argTs_nil {Γ : Env} : argTs Γ [] = some [] := rfl
@[simp] theorem argTs_val {Γ : Env} {d : D} {as : List Arg} : argTs Γ (.val d :: as) = (argTs Γ as).map (.sh d :: ·) := rfl
def argIo (o : Option (Option T)) (r : Option (List T)) : Option (List T) := match o with
  | some (some t) => r.map (t :: ·)
  | _ => none
@[simp] theorem argIo_some {t : T} {r : Option (List T)} : argIo (some (some t)) r = r.map (t :: ·) := rfl
@[simp] theorem argTs_io {Γ : Env} {k : Nat} {as : List Arg} : argTs Γ (.io k :: as) = argIo Γ[k]? (argTs Γ as) := rfl
@[simp] theorem ios_nil : ios [] = [] := rfl
@[simp] theorem ios_val {d : D} {as : List Arg} : ios (.val d :: as) = ios as := rfl
@[simp] theorem ios_io {k : Nat} {as : List Arg} : ios (.io k :: as) = k :: ios as := rfl
@[simp] theorem putOuts_nil {Γ : Env} : putOuts Γ [] [] = some Γ := rfl
@[simp] theorem putOuts_cons {Γ : Env} {k : Nat} {ks : List Nat} {t : T} {ts : List T} : putOuts Γ (k :: ks) (t :: ts) = putOuts (Γ.set k (some t)) ks ts := rfl
@[simp] theorem nodupB_nil : nodupB [] = true := rfl
@[simp] theorem nodupB_cons' {k : Nat} {ks : List Nat} : nodupB (k :: ks) = (!ks.contains k && nodupB ks) := rfl
/-! several -/
@[simp] theorem evDs_nil {Γ : Env} : evDs Φ .nil Γ = .ok [] Γ := rfl
def kDs3 (d : D) (ds : List D) (Γ : Env) : Out (List D) := .ok (d :: ds) Γ
@[simp] theorem kDs3_eq {d : D} {ds : List D} {Γ : Env} : kDs3 d ds Γ = .ok (d :: ds) Γ := rfl
def kDs2 (es : Es) (d : D) (Γ : Env) : Out (List D) := (evDs Φ es Γ).bind (kDs3 d)
@[simp] theorem kDs2_eq {es : Es} {d : D} {Γ : Env} : kDs2 Φ es d Γ = (evDs Φ es Γ).bind (kDs3 d) := rfl
def kDs1 (es : Es) (o : O) (Γ : Env) : Out (List D) := ((esc o Γ).bind fzO).bind (kDs2 Φ es)
@[simp] theorem kDs1_eq {es : Es} {o : O} {Γ : Env} : kDs1 Φ es o Γ = ((esc o Γ).bind fzO).bind (kDs2 Φ es) := rfl
@[simp] theorem evDs_cons {e : E} {es : Es} {Γ : Env} : evDs Φ (.cons e es) Γ = (ev Φ e Γ).bind (kDs1 Φ es) := rfl
@[simp] theorem evAs_nil {Γ : Env} : evAs Φ .nil Γ = .ok [] Γ := rfl
def kAs3 (a : Arg) (as : List Arg) (Γ : Env) : Out (List Arg) := .ok (a :: as) Γ
@[simp] theorem kAs3_eq {a : Arg} {as : List Arg} {Γ : Env} : kAs3 a as Γ = .ok (a :: as) Γ := rfl
def kAs2 (es : Es) (d : D) (Γ : Env) : Out (List Arg) := (evAs Φ es Γ).bind (kAs3 (.val d))
@[simp] theorem kAs2_eq {es : Es} {d : D} {Γ : Env} : kAs2 Φ es d Γ = (evAs Φ es Γ).bind (kAs3 (.val d)) := rfl
def kAs1 (es : Es) (o : O) (Γ : Env) : Out (List Arg) := ((esc o Γ).bind fzO).bind (kAs2 Φ es)
@[simp] theorem kAs1_eq {es : Es} {o : O} {Γ : Env} : kAs1 Φ es o Γ = ((esc o Γ).bind fzO).bind (kAs2 Φ es) := rfl
def kAsIo (es : Es) (k : Nat) (o : Option (Option T)) (Γ : Env) : Out (List Arg) := match o with
  | some (some _) => (evAs Φ es Γ).bind (kAs3 (.io k))
  | _ => .no
@[simp] theorem kAsIo_some {es : Es} {k : Nat} {t : T} {Γ : Env} : kAsIo Φ es k (some (some t)) Γ = (evAs Φ es Γ).bind (kAs3 (.io k)) := rfl
def evAs1 (e : E) (es : Es) (Γ : Env) : Out (List Arg) := match e with
  | .io k => kAsIo Φ es k Γ[k]? Γ
  | e => (ev Φ e Γ).bind (kAs1 Φ es)
@[simp] theorem evAs_cons1 {e : E} {es : Es} {Γ : Env} : evAs Φ (.cons e es) Γ = evAs1 Φ e es Γ := by
  cases e <;> rfl
@[simp] theorem evAs1_io {k : Nat} {es : Es} {Γ : Env} : evAs1 Φ (.io k) es Γ = kAsIo Φ es k Γ[k]? Γ := rfl
@[simp] theorem evAs1_var {i : Nat} {es : Es} {Γ : Env} : evAs1 Φ (.var i) es Γ = (ev Φ (.var i) Γ).bind (kAs1 Φ es) := rfl
@[simp] theorem evAs1_num {i : Int} {es : Es} {Γ : Env} : evAs1 Φ (.num i) es Γ = (ev Φ (.num i) Γ).bind (kAs1 Φ es) := rfl
@[simp] theorem evAs1_non {es : Es} {Γ : Env} : evAs1 Φ .non es Γ = (ev Φ .non Γ).bind (kAs1 Φ es) := rfl
@[simp] theorem evAs1_bl {b : Bool} {es : Es} {Γ : Env} : evAs1 Φ (.bl b) es Γ = (ev Φ (.bl b) Γ).bind (kAs1 Φ es) := rfl
@[simp] theorem evAs1_text {x : Str} {es : Es} {Γ : Env} : evAs1 Φ (.text x) es Γ = (ev Φ (.text x) Γ).bind (kAs1 Φ es) := rfl
@[simp] theorem evAs1_tup {x : Es} {es : Es} {Γ : Env} : evAs1 Φ (.tup x) es Γ = (ev Φ (.tup x) Γ).bind (kAs1 Φ es) := rfl
@[simp] theorem evAs1_lst {x : Es} {es : Es} {Γ : Env} : evAs1 Φ (.lst x) es Γ = (ev Φ (.lst x) Γ).bind (kAs1 Φ es) := rfl
@[simp] theorem evAs1_bin {o : Bop} {a b : E} {es : Es} {Γ : Env} : evAs1 Φ (.bin o a b) es Γ = (ev Φ (.bin o a b) Γ).bind (kAs1 Φ es) := rfl
@[simp] theorem evAs1_neg {a : E} {es : Es} {Γ : Env} : evAs1 Φ (.neg a) es Γ = (ev Φ (.neg a) Γ).bind (kAs1 Φ es) := rfl
@[simp] theorem evAs1_bool {b : B} {es : Es} {Γ : Env} : evAs1 Φ (.bool b) es Γ = (ev Φ (.bool b) Γ).bind (kAs1 Φ es) := rfl
@[simp] theorem evAs1_ite {c : B} {a b : E} {es : Es} {Γ : Env} : evAs1 Φ (.ite c a b) es Γ = (ev Φ (.ite c a b) Γ).bind (kAs1 Φ es) := rfl
@[simp] theorem evAs1_ix {a b : E} {es : Es} {Γ : Env} : evAs1 Φ (.ix a b) es Γ = (ev Φ (.ix a b) Γ).bind (kAs1 Φ es) := rfl
@[simp] theorem evAs1_sl {a b c : E} {es : Es} {Γ : Env} : evAs1 Φ (.sl a b c) es Γ = (ev Φ (.sl a b c) Γ).bind (kAs1 Φ es) := rfl
@[simp] theorem evAs1_rev {a : E} {es : Es} {Γ : Env} : evAs1 Φ (.rev a) es Γ = (ev Φ (.rev a) Γ).bind (kAs1 Φ es) := rfl
@[simp] theorem evAs1_isi {t : Ty} {a : E} {es : Es} {Γ : Env} : evAs1 Φ (.isi t a) es Γ = (ev Φ (.isi t a) Γ).bind (kAs1 Φ es) := rfl
@[simp] theorem evAs1_bi {f : Bi} {a : E} {es : Es} {Γ : Env} : evAs1 Φ (.bi f a) es Γ = (ev Φ (.bi f a) Γ).bind (kAs1 Φ es) := rfl
@[simp] theorem evAs1_call {f : Nat} {x : Es} {es : Es} {Γ : Env} : evAs1 Φ (.call f x) es Γ = (ev Φ (.call f x) Γ).bind (kAs1 Φ es) := rfl
@[simp] theorem evAs1_lc {a : E} {x1 : List Nat} {x2 : Bool} {x3 : I} {x4 : B} {x5 : List Nat} {x6 : Bool} {es : Es} {Γ : Env} : evAs1 Φ (.lc a x1 x2 x3 x4 x5 x6) es Γ = (ev Φ (.lc a x1 x2 x3 x4 x5 x6) Γ).bind (kAs1 Φ es) := rfl
/-! walks -/
def kRng (x : D) (Γ : Env) : Out (List D) := match x with
  | .int n => if rngOk n then .ok (rngD 0 n.toNat) Γ else .no
  | _ => .no
@[simp] theorem kRng_int {n : Int} {Γ : Env} : kRng (.int n) Γ = if rngOk n then .ok (rngD 0 n.toNat) Γ else .no := rfl
@[simp] theorem rngOk_iff {n : Int} : rngOk n = true ↔ -1000000 ≤ n ∧ n ≤ 1000000 := by unfold rngOk; simp
def kEscD (o : O) (Γ : Env) : Out D := (esc o Γ).bind fzO
@[simp] theorem kEscD_eq {o : O} {Γ : Env} : kEscD o Γ = (esc o Γ).bind fzO := rfl
@[simp] theorem evI_rng {a : E} {Γ : Env} : evI Φ (.rng a) Γ = ((ev Φ a Γ).bind kEscD).bind kRng := by
  rw [bind_assoc']; rfl
def kRng2b (m n : D) (Γ : Env) : Out (List D) := match m, n with
  | .int m, .int n => if rngOk m && rngOk n then .ok (rngD m (n - m).toNat) Γ else .no
  | _, _ => .no
@[simp] theorem kRng2b_int {m n : Int} {Γ : Env} : kRng2b (.int m) (.int n) Γ = if rngOk m && rngOk n then .ok (rngD m (n - m).toNat) Γ else .no := rfl
def kRng2 (b : E) (m : D) (Γ : Env) : Out (List D) := ((ev Φ b Γ).bind kEscD).bind (kRng2b m)
@[simp] theorem kRng2_eq {b : E} {m : D} {Γ : Env} : kRng2 Φ b m Γ = ((ev Φ b Γ).bind kEscD).bind (kRng2b m) := rfl
@[simp] theorem evI_rng2 {a b : E} {Γ : Env} : evI Φ (.rng2 a b) Γ = ((ev Φ a Γ).bind kEscD).bind (kRng2 Φ b) := by
  rw [bind_assoc']
  show (ev Φ a Γ).bind _ = _
  congr 1
  funext x Γ
  show (escD x Γ).bind _ = (escD x Γ).bind _
  congr 1
  funext x Γ
  rw [kRng2_eq, bind_assoc']
  rfl
def kEnm (x : D) (Γ : Env) : Out (List D) := (lift (els (.sh x)) Γ).bind fun ds Γ => .ok (enmD 0 ds) Γ
@[simp] theorem kEnm_list {ds : List D} {Γ : Env} : kEnm (.list ds) Γ = .ok (enmD 0 ds) Γ := rfl
@[simp] theorem kEnm_tuple {ds : List D} {Γ : Env} : kEnm (.tuple ds) Γ = .ok (enmD 0 ds) Γ := rfl
@[simp] theorem evI_enm {a : E} {Γ : Env} : evI Φ (.enm a) Γ = ((ev Φ a Γ).bind kEscD).bind kEnm := by
  rw [bind_assoc']; rfl
def kZipb (x y : D) (Γ : Env) : Out (List D) := (lift (els (.sh x)) Γ).bind fun xs Γ => (lift (els (.sh y)) Γ).bind fun ys Γ => .ok (zipD xs ys) Γ
@[simp] theorem kZipb_ll {x y : List D} {Γ : Env} : kZipb (.list x) (.list y) Γ = .ok (zipD x y) Γ := rfl
@[simp] theorem kZipb_lt {x y : List D} {Γ : Env} : kZipb (.list x) (.tuple y) Γ = .ok (zipD x y) Γ := rfl
@[simp] theorem kZipb_tl {x y : List D} {Γ : Env} : kZipb (.tuple x) (.list y) Γ = .ok (zipD x y) Γ := rfl
@[simp] theorem kZipb_tt {x y : List D} {Γ : Env} : kZipb (.tuple x) (.tuple y) Γ = .ok (zipD x y) Γ := rfl
def kZip (b : E) (x : D) (Γ : Env) : Out (List D) := ((ev Φ b Γ).bind kEscD).bind (kZipb x)
@[simp] theorem kZip_eq {b : E} {x : D} {Γ : Env} : kZip Φ b x Γ = ((ev Φ b Γ).bind kEscD).bind (kZipb x) := rfl
@[simp] theorem evI_zip {a b : E} {Γ : Env} : evI Φ (.zip a b) Γ = ((ev Φ a Γ).bind kEscD).bind (kZip Φ b) := by
  rw [bind_assoc']
  show (ev Φ a Γ).bind _ = _
  congr 1
  funext x Γ
  show (escD x Γ).bind _ = (escD x Γ).bind _
  congr 1
  funext x Γ
  rw [kZip_eq, bind_assoc']
  rfl
def kSeq (x : D) (Γ : Env) : Out (List D) := lift (itemsT (.sh x)) Γ
@[simp] theorem kSeq_list {ds : List D} {Γ : Env} : kSeq (.list ds) Γ = .ok ds Γ := rfl
@[simp] theorem kSeq_tuple {ds : List D} {Γ : Env} : kSeq (.tuple ds) Γ = .ok ds Γ := rfl
@[simp] theorem kSeq_str {x : Str} {Γ : Env} : kSeq (.str x) Γ = .ok (signsD x) Γ := rfl
@[simp] theorem evI_seq {a : E} {Γ : Env} : evI Φ (.seq a) Γ = ((ev Φ a Γ).bind kEscD).bind kSeq := by
  rw [bind_assoc']; rfl
/-! tests -/
@[simp] theorem evB_tt {st : Bool} {Γ : Env} : evB Φ st .tt Γ = .ok true Γ := rfl
def kTest (st : Bool) (x : O) (Γ : Env) : Out Bool := lift ((O.tree Γ x).bind (if st then strictT else truthT)) Γ
@[simp] theorem kTest_t {x : O} {Γ : Env} : kTest true x Γ = lift ((O.tree Γ x).bind strictT) Γ := rfl
@[simp] theorem kTest_f {x : O} {Γ : Env} : kTest false x Γ = lift ((O.tree Γ x).bind truthT) Γ := rfl
@[simp] theorem evB_val {st : Bool} {e : E} {Γ : Env} : evB Φ st (.val e) Γ = (ev Φ e Γ).bind (kTest st) := by
  show (ev Φ e Γ).bind _ = _
  congr 1
  funext x Γ
  simp [kTest]
def kNot (k : Bool) (Γ : Env) : Out Bool := .ok (!k) Γ
@[simp] theorem kNot_eq {k : Bool} {Γ : Env} : kNot k Γ = .ok (!k) Γ := rfl
/-- not: whatever stands behind it -/
def evNot (st : Bool) (b : B) (Γ : Env) : Out Bool := match b with
  | .val e => ((ev Φ e Γ).bind (kTest false)).bind kNot
  | b => (evB Φ st b Γ).bind kNot
@[simp] theorem evB_notZ {st : Bool} {b : B} {Γ : Env} : evB Φ st (.not b) Γ = evNot Φ st b Γ := by
  cases b with
  | val e =>
    show (ev Φ e Γ).bind _ = ((ev Φ e Γ).bind (kTest false)).bind kNot
    rw [bind_assoc']
    congr 1
    funext x Γ
    simp [kTest]
    rfl
  | _ => rfl
@[simp] theorem evNot_val {st : Bool} {e : E} {Γ : Env} : evNot Φ st (.val e) Γ = ((ev Φ e Γ).bind (kTest false)).bind kNot := rfl
@[simp] theorem evNot_not {st : Bool} {b : B} {Γ : Env} : evNot Φ st (.not b) Γ = (evB Φ st (.not b) Γ).bind kNot := rfl
@[simp] theorem evNot_and {st : Bool} {a b : B} {Γ : Env} : evNot Φ st (.and a b) Γ = (evB Φ st (.and a b) Γ).bind kNot := rfl
@[simp] theorem evNot_or {st : Bool} {a b : B} {Γ : Env} : evNot Φ st (.or a b) Γ = (evB Φ st (.or a b) Γ).bind kNot := rfl
@[simp] theorem evNot_cmp {st : Bool} {o : Cop} {a b : E} {Γ : Env} : evNot Φ st (.cmp o a b) Γ = (evB Φ st (.cmp o a b) Γ).bind kNot := rfl
@[simp] theorem evNot_chn {st : Bool} {o o' : Cop} {a b c : E} {Γ : Env} : evNot Φ st (.chn o o' a b c) Γ = (evB Φ st (.chn o o' a b c) Γ).bind kNot := rfl
def kAnd (st : Bool) (b : B) (k : Bool) (Γ : Env) : Out Bool := match k with
  | true => evB Φ st b Γ
  | false => .ok false Γ
@[simp] theorem kAnd_t {st : Bool} {b : B} {Γ : Env} : kAnd Φ st b true Γ = evB Φ st b Γ := rfl
@[simp] theorem kAnd_f {st : Bool} {b : B} {Γ : Env} : kAnd Φ st b false Γ = .ok false Γ := rfl
@[simp] theorem evB_and {st : Bool} {a b : B} {Γ : Env} : evB Φ st (.and a b) Γ = (evB Φ st a Γ).bind (kAnd Φ st b) := by
  show (evB Φ st a Γ).bind _ = _
  congr 1
  funext k Γ
  cases k <;> rfl
def kOr (st : Bool) (b : B) (k : Bool) (Γ : Env) : Out Bool := match k with
  | true => .ok true Γ
  | false => evB Φ st b Γ
@[simp] theorem kOr_t {st : Bool} {b : B} {Γ : Env} : kOr Φ st b true Γ = .ok true Γ := rfl
@[simp] theorem kOr_f {st : Bool} {b : B} {Γ : Env} : kOr Φ st b false Γ = evB Φ st b Γ := rfl
@[simp] theorem evB_or {st : Bool} {a b : B} {Γ : Env} : evB Φ st (.or a b) Γ = (evB Φ st a Γ).bind (kOr Φ st b) := by
  show (evB Φ st a Γ).bind _ = _
  congr 1
  funext k Γ
  cases k <;> rfl
def kCmp3 (o : Cop) (x y : O) (Γ : Env) : Out Bool := lift ((O.tree Γ x).bind fun a => (O.tree Γ y).bind fun b => cmpT o a b) Γ
@[simp] theorem kCmp3_eq {o : Cop} {x y : O} {Γ : Env} : kCmp3 o x y Γ = lift ((O.tree Γ x).bind fun a => (O.tree Γ y).bind fun b => cmpT o a b) Γ := rfl
def kCmp2 (o : Cop) (b : E) (x : O) (Γ : Env) : Out Bool := (ev Φ b Γ).bind (kCmp3 o x)
@[simp] theorem kCmp2_eq {o : Cop} {b : E} {x : O} {Γ : Env} : kCmp2 Φ o b x Γ = (ev Φ b Γ).bind (kCmp3 o x) := rfl
def kCmp1 (o : Cop) (b : E) (x : O) (Γ : Env) : Out Bool := (keepIf (spure b) x Γ).bind (kCmp2 Φ o b)
@[simp] theorem kCmp1_eq {o : Cop} {b : E} {x : O} {Γ : Env} : kCmp1 Φ o b x Γ = (keepIf (spure b) x Γ).bind (kCmp2 Φ o b) := rfl
@[simp] theorem evB_cmp {st : Bool} {o : Cop} {a b : E} {Γ : Env} : evB Φ st (.cmp o a b) Γ = (ev Φ a Γ).bind (kCmp1 Φ o b) := by
  show (ev Φ a Γ).bind _ = _
  congr 1
  funext x Γ
  show (keepIf (spure b) x Γ).bind _ = _
  congr 1
  funext x Γ
  show (ev Φ b Γ).bind _ = _
  congr 1
  funext y Γ
  simp
def kChn5 (o : Cop) (y z : O) (Γ : Env) : Out Bool := lift ((O.tree Γ y).bind fun a => (O.tree Γ z).bind fun b => cmpT o a b) Γ
@[simp] theorem kChn5_eq {o : Cop} {x y : O} {Γ : Env} : kChn5 o x y Γ = lift ((O.tree Γ x).bind fun a => (O.tree Γ y).bind fun b => cmpT o a b) Γ := rfl
def kChn4 (o : Cop) (c : E) (y : O) (Γ : Env) : Out Bool := (ev Φ c Γ).bind (kChn5 o y)
@[simp] theorem kChn4_eq {o : Cop} {b : E} {x : O} {Γ : Env} : kChn4 Φ o b x Γ = (ev Φ b Γ).bind (kChn5 o x) := rfl
def kChnB (o : Cop) (c : E) (y : O) (k : Bool) (Γ : Env) : Out Bool := match k with
  | true => (keepIf (spure c) y Γ).bind (kChn4 Φ o c)
  | false => .ok false Γ
@[simp] theorem kChnB_t {o : Cop} {c : E} {y : O} {Γ : Env} : kChnB Φ o c y true Γ = (keepIf (spure c) y Γ).bind (kChn4 Φ o c) := rfl
@[simp] theorem kChnB_f {o : Cop} {c : E} {y : O} {Γ : Env} : kChnB Φ o c y false Γ = .ok false Γ := rfl
def kChn3 (o o' : Cop) (c : E) (x y : O) (Γ : Env) : Out Bool := (lift ((O.tree Γ x).bind fun a => (O.tree Γ y).bind fun b => cmpT o a b) Γ).bind (kChnB Φ o' c y)
@[simp] theorem kChn3_eq {o o' : Cop} {c : E} {x y : O} {Γ : Env} : kChn3 Φ o o' c x y Γ = (lift ((O.tree Γ x).bind fun a => (O.tree Γ y).bind fun b => cmpT o a b) Γ).bind (kChnB Φ o' c y) := rfl
def kChn2 (o o' : Cop) (b c : E) (x : O) (Γ : Env) : Out Bool := (ev Φ b Γ).bind (kChn3 Φ o o' c x)
@[simp] theorem kChn2_eq {o o' : Cop} {b c : E} {x : O} {Γ : Env} : kChn2 Φ o o' b c x Γ = (ev Φ b Γ).bind (kChn3 Φ o o' c x) := rfl
def kChn1 (o o' : Cop) (b c : E) (x : O) (Γ : Env) : Out Bool := (keepIf (spure b) x Γ).bind (kChn2 Φ o o' b c)
@[simp] theorem kChn1_eq {o o' : Cop} {b c : E} {x : O} {Γ : Env} : kChn1 Φ o o' b c x Γ = (keepIf (spure b) x Γ).bind (kChn2 Φ o o' b c) := rfl
@[simp] theorem evB_chn {st : Bool} {o o' : Cop} {a b c : E} {Γ : Env} : evB Φ st (.chn o o' a b c) Γ = (ev Φ a Γ).bind (kChn1 Φ o o' b c) := by
  show (ev Φ a Γ).bind _ = _
  congr 1
  funext x Γ
  show (keepIf (spure b) x Γ).bind _ = _
  congr 1
  funext x Γ
  show (ev Φ b Γ).bind _ = _
  congr 1
  funext y Γ
  rw [kChn3_eq, ← tr2_eq]
  show (lift _ Γ).bind _ = _
  congr 1
  funext k Γ
  cases k with
  | false => rfl
  | true =>
    show (keepIf (spure c) y Γ).bind _ = _
    congr 1
    funext y Γ
    show (ev Φ c Γ).bind _ = _
    congr 1
    funext z Γ
    simp
/-! statements -/
@[simp] theorem exSs_nil {Γ : Env} : exSs Φ .nil Γ = .nx Γ := by unfold exSs; rfl
def SOut.andThen (r : SOut) (f : Env → SOut) : SOut := match r with
  | .nx Γ => f Γ
  | r => r
@[simp] theorem andThen_nx {Γ : Env} {f : Env → SOut} : (SOut.nx Γ).andThen f = f Γ := rfl
@[simp] theorem andThen_rt {t : T} {Γ : Env} {f : Env → SOut} : (SOut.rt t Γ).andThen f = .rt t Γ := rfl
@[simp] theorem andThen_ex {c : Nat} {Γ : Env} {f : Env → SOut} : (SOut.ex c Γ).andThen f = .ex c Γ := rfl
@[simp] theorem andThen_no {f : Env → SOut} : SOut.no.andThen f = .no := rfl
@[simp] theorem exSs_cons {s : S} {ss : Ss} {Γ : Env} : exSs Φ (.cons s ss) Γ = (exS Φ s Γ).andThen (exSs Φ ss) := by
  rw [exSs]
  cases exS Φ s Γ <;> rfl
@[simp] theorem exS_pass {Γ : Env} : exS Φ .pass Γ = .nx Γ := by rw [exS]
def sAsg2 (i : Nat) (t : T) (Γ : Env) : SOut := .nx (Γ.set i (some t))
@[simp] theorem sAsg2_eq {i : Nat} {t : T} {Γ : Env} : sAsg2 i t Γ = .nx (Γ.set i (some t)) := rfl
def sAsg1 (i : Nat) (o : O) (Γ : Env) : SOut := (esc o Γ).toS (sAsg2 i)
@[simp] theorem sAsg1_eq {i : Nat} {o : O} {Γ : Env} : sAsg1 i o Γ = (esc o Γ).toS (sAsg2 i) := rfl
@[simp] theorem exS_asg {i : Nat} {e : E} {Γ : Env} : exS Φ (.asg true [i] e) Γ = (ev Φ e Γ).toS (sAsg1 i) := by rw [exS]; rfl
def sEnv (Γ : Env) (_ : Env) : SOut := .nx Γ
@[simp] theorem sEnv_eq {Γ Γ' : Env} : sEnv Γ Γ' = .nx Γ := rfl
def sAsgT (is : List Nat) (d : D) (Γ : Env) : SOut := (lift (bindTg false is d Γ) Γ).toS sEnv
@[simp] theorem sAsgT_eq {is : List Nat} {d : D} {Γ : Env} : sAsgT is d Γ = (lift (bindTg false is d Γ) Γ).toS sEnv := rfl
def sAsgO (is : List Nat) (o : O) (Γ : Env) : SOut := ((esc o Γ).bind fzO).toS (sAsgT is)
@[simp] theorem sAsgO_eq {is : List Nat} {o : O} {Γ : Env} : sAsgO is o Γ = ((esc o Γ).bind fzO).toS (sAsgT is) := rfl
@[simp] theorem exS_asgT {is : List Nat} {e : E} {Γ : Env} : exS Φ (.asg false is e) Γ = (ev Φ e Γ).toS (sAsgO is) := by rw [exS]; rfl
@[simp] theorem bindTg_tup {is : List Nat} {ds : List D} {Γ : Env} : bindTg false is (.tuple ds) Γ = setAll Γ is ds := by
  cases is with
  | nil => rfl
  | cons i is => cases is <;> rfl
@[simp] theorem bindTg_one {i : Nat} {d : D} {Γ : Env} : bindTg true [i] d Γ = some (Γ.set i (some (.sh d))) := rfl
@[simp] theorem setAll_nil {Γ : Env} : setAll Γ [] [] = some Γ := rfl
@[simp] theorem setAll_cons {Γ : Env} {i : Nat} {is : List Nat} {d : D} {ds : List D} : setAll Γ (i :: is) (d :: ds) = setAll (Γ.set i (some (.sh d))) is ds := rfl
@[simp] theorem evTs_nil {Γ : Env} : evTs Φ .nil Γ = .ok [] Γ := rfl
def kTs3 (t : T) (ts : List T) (Γ : Env) : Out (List T) := .ok (t :: ts) Γ
@[simp] theorem kTs3_eq {t : T} {ts : List T} {Γ : Env} : kTs3 t ts Γ = .ok (t :: ts) Γ := rfl
def kTs2 (es : Es) (t : T) (Γ : Env) : Out (List T) := (evTs Φ es Γ).bind (kTs3 t)
@[simp] theorem kTs2_eq {es : Es} {t : T} {Γ : Env} : kTs2 Φ es t Γ = (evTs Φ es Γ).bind (kTs3 t) := rfl
def kTs1 (es : Es) (o : O) (Γ : Env) : Out (List T) := (esc o Γ).bind (kTs2 Φ es)
@[simp] theorem kTs1_eq {es : Es} {o : O} {Γ : Env} : kTs1 Φ es o Γ = (esc o Γ).bind (kTs2 Φ es) := rfl
@[simp] theorem evTs_cons {e : E} {es : Es} {Γ : Env} : evTs Φ (.cons e es) Γ = (ev Φ e Γ).bind (kTs1 Φ es) := rfl
@[simp] theorem setTs_nil {Γ : Env} : setTs Γ [] [] = some Γ := rfl
@[simp] theorem setTs_cons {Γ : Env} {i : Nat} {is : List Nat} {d : T} {ds : List T} : setTs Γ (i :: is) (d :: ds) = setTs (Γ.set i (some d)) is ds := rfl
def sPar (is : List Nat) (ts : List T) (Γ : Env) : SOut := (lift (setTs Γ is ts) Γ).toS sEnv
@[simp] theorem sPar_eq {is : List Nat} {ts : List T} {Γ : Env} : sPar is ts Γ = (lift (setTs Γ is ts) Γ).toS sEnv := rfl
@[simp] theorem exS_par {is : List Nat} {es : Es} {Γ : Env} : exS Φ (.par is es) Γ = (evTs Φ es Γ).toS (sPar is) := by rw [exS]; rfl
def sDrop (_ : O) (Γ : Env) : SOut := .nx Γ
@[simp] theorem sDrop_eq {o : O} {Γ : Env} : sDrop o Γ = .nx Γ := rfl
@[simp] theorem exS_exp {e : E} {Γ : Env} : exS Φ (.exp e) Γ = (ev Φ e Γ).toS sDrop := by rw [exS]; rfl
def sApp3 (k : Nat) (t : T) (o : Option (Option T)) (Γ : Env) : SOut := match o with
  | some (some (.ol ts)) => if lineOk ts.length then .nx (Γ.set k (some (.ol (ts ++ [t])))) else .no
  | _ => .no
@[simp] theorem sApp3_ols {k : Nat} {t : T} {ts : List T} {Γ : Env} : sApp3 k t (some (some (.ol ts))) Γ = if lineOk ts.length then .nx (Γ.set k (some (.ol (ts ++ [t])))) else .no := rfl
@[simp] theorem sApp3_ol {k : Nat} {d : D} {ds : List D} {Γ : Env} : sApp3 k (.sh d) (some (some (ol ds))) Γ = if lineOk ds.length then .nx (Γ.set k (some (ol (ds ++ [d])))) else .no := by
  unfold ol
  rw [sApp3_ols, List.length_map, List.map_append]
  rfl
@[simp] theorem sApp3_olol {k : Nat} {d : List D} {ds : List D} {Γ : Env} : sApp3 k (ol d) (some (some (ol ds))) Γ = if lineOk ds.length then .nx (Γ.set k (some (.ol (ds.map .sh ++ [ol d])))) else .no := by
  show sApp3 k (ol d) (some (some (.ol (ds.map .sh)))) Γ = _
  rw [sApp3_ols, List.length_map]
def sApp2 (k : Nat) (t : T) (Γ : Env) : SOut := sApp3 k t Γ[k]? Γ
@[simp] theorem sApp2_eq {k : Nat} {t : T} {Γ : Env} : sApp2 k t Γ = sApp3 k t Γ[k]? Γ := rfl
def sApp1 (k : Nat) (o : O) (Γ : Env) : SOut := (esc o Γ).toS (sApp2 k)
@[simp] theorem sApp1_eq {k : Nat} {o : O} {Γ : Env} : sApp1 k o Γ = (esc o Γ).toS (sApp2 k) := rfl
def sApp0 (k : Nat) (e : E) (o : Option (Option T)) (Γ : Env) : SOut := match o with
  | some (some (.ol _)) => (ev Φ e Γ).toS (sApp1 k)
  | _ => .no
@[simp] theorem sApp0_ols {k : Nat} {e : E} {ts : List T} {Γ : Env} : sApp0 Φ k e (some (some (.ol ts))) Γ = (ev Φ e Γ).toS (sApp1 k) := rfl
@[simp] theorem sApp0_ol {k : Nat} {e : E} {ds : List D} {Γ : Env} : sApp0 Φ k e (some (some (ol ds))) Γ = (ev Φ e Γ).toS (sApp1 k) := rfl
@[simp] theorem exS_app {k : Nat} {e : E} {Γ : Env} : exS Φ (.app k e) Γ = sApp0 Φ k e Γ[k]? Γ := by
  rw [exS]
  unfold sApp0
  cases hk : Γ[k]? with
  | none => rfl
  | some o =>
    cases o with
    | none => rfl
    | some t =>
      cases t with
      | sh d => rfl
      | ob _ _ _ => rfl
      | tp _ => rfl
      | ol ts => rfl
def sSet4 (k : Nat) (t : T) (j : Int) (o : Option (Option T)) (Γ : Env) : SOut := match o with
  | some (some (.ol ts)) => match ixJ ts.length j with
    | some j => .nx (Γ.set k (some (.ol (ts.set j t))))
    | none => .no
  | _ => .no
def sSet3 (k : Nat) (t : T) (j : O) (Γ : Env) : SOut := match j with
  | .t (.sh (.int j)) => sSet4 k t j Γ[k]? Γ
  | _ => .no
@[simp] theorem sSet3_int {k : Nat} {t : T} {j : Int} {Γ : Env} : sSet3 k t (.t (.sh (.int j))) Γ = sSet4 k t j Γ[k]? Γ := rfl
theorem sSet4_ol {k : Nat} {d : D} {j : Nat} {ds : List D} {Γ : Env} (h : j < ds.length) : sSet4 k (.sh d) (j : Int) (some (some (ol ds))) Γ = .nx (Γ.set k (some (ol (ds.set j d)))) := by
  unfold ol
  have : ixJ (ds.map T.sh).length (j : Int) = some j := by
    show L2.ixN _ _ = _
    unfold L2.ixN
    simp [h]
  show (match ixJ (ds.map T.sh).length (j : Int) with
    | some j => SOut.nx (Γ.set k (some (.ol ((ds.map T.sh).set j (.sh d)))))
    | none => .no) = _
  rw [this, List.map_set]
def sSet2 (k : Nat) (i : E) (t : T) (o : Option (Option T)) (Γ : Env) : SOut := match o with
  | some (some (.ol _)) => (ev Φ i Γ).toS (sSet3 k t)
  | _ => .no
@[simp] theorem sSet2_ol {k : Nat} {i : E} {t : T} {ds : List D} {Γ : Env} : sSet2 Φ k i t (some (some (ol ds))) Γ = (ev Φ i Γ).toS (sSet3 k t) := rfl
@[simp] theorem sSet2_ols {k : Nat} {i : E} {t : T} {ds : List T} {Γ : Env} : sSet2 Φ k i t (some (some (.ol ds))) Γ = (ev Φ i Γ).toS (sSet3 k t) := rfl
def sSet1 (k : Nat) (i : E) (t : T) (Γ : Env) : SOut := sSet2 Φ k i t Γ[k]? Γ
@[simp] theorem sSet1_eq {k : Nat} {i : E} {t : T} {Γ : Env} : sSet1 Φ k i t Γ = sSet2 Φ k i t Γ[k]? Γ := rfl
def sSet0 (k : Nat) (i : E) (o : O) (Γ : Env) : SOut := (esc o Γ).toS (sSet1 Φ k i)
@[simp] theorem sSet0_eq {k : Nat} {i : E} {o : O} {Γ : Env} : sSet0 Φ k i o Γ = (esc o Γ).toS (sSet1 Φ k i) := rfl
@[simp] theorem exS_set {k : Nat} {i e : E} {Γ : Env} : exS Φ (.set k i e) Γ = (ev Φ e Γ).toS (sSet0 Φ k i) := by
  rw [exS]
  rfl
/-! ### stores at a place -/
def putP (Γ : Env) (k : Nat) (p : List Nat) (j : Int) (t t0 : T) (s : Option T) : SOut := match s with
  | some (.ol ts) => match ixJ ts.length j with
    | some j => .nx (Γ.set k (some (putT t0 p (.ol (ts.set j t)))))
    | none => .no
  | _ => .no
def atP (Γ : Env) (k : Nat) (p : List Nat) (j : Int) (t : T) (o : Option (Option T)) : SOut := match o with
  | some (some t0) => putP Γ k p j t t0 (sub t0 p)
  | _ => .no
@[simp] theorem atP_some {Γ : Env} {k : Nat} {p : List Nat} {j : Int} {t t0 : T} : atP Γ k p j t (some (some t0)) = putP Γ k p j t t0 (sub t0 p) := rfl
def kPut (x : O) (t : T) (j : O) (Γ : Env) : SOut := match x, j with
  | .at k p, .t (.sh (.int j)) => atP Γ k p j t Γ[k]?
  | _, _ => .no
@[simp] theorem kPut_at {k : Nat} {p : List Nat} {t : T} {j : Int} {Γ : Env} : kPut (.at k p) t (.t (.sh (.int j))) Γ = atP Γ k p j t Γ[k]? := rfl
def kStP (i : E) (t : T) (x : O) (Γ : Env) : SOut := (ev Φ i Γ).toS (kPut x t)
@[simp] theorem kStP_eq {i : E} {t : T} {x : O} {Γ : Env} : kStP Φ i t x Γ = (ev Φ i Γ).toS (kPut x t) := rfl
theorem storeP_eq {o i : E} {t : T} {Γ : Env} : storeP Φ o i t Γ = (ev Φ o Γ).toS (kStP Φ i t) := by
  unfold storeP
  congr 1
def sSetP2 (o i : E) (t : T) (Γ : Env) : SOut := (ev Φ o Γ).toS (kStP Φ i t)
@[simp] theorem sSetP2_eq {o i : E} {t : T} {Γ : Env} : sSetP2 Φ o i t Γ = (ev Φ o Γ).toS (kStP Φ i t) := rfl
def sSetP1 (o i : E) (x : O) (Γ : Env) : SOut := (esc x Γ).toS (sSetP2 Φ o i)
@[simp] theorem sSetP1_eq {o i : E} {x : O} {Γ : Env} : sSetP1 Φ o i x Γ = (esc x Γ).toS (sSetP2 Φ o i) := rfl
@[simp] theorem exS_setP {o i e : E} {Γ : Env} : exS Φ (.setP o i e) Γ = (ev Φ e Γ).toS (sSetP1 Φ o i) := by
  rw [exS]
  congr 1
def sSet2b (o' i' : E) (t' : T) (Γ : Env) : SOut := (ev Φ o' Γ).toS (kStP Φ i' t')
@[simp] theorem sSet2b_eq {o i : E} {t : T} {Γ : Env} : sSet2b Φ o i t Γ = (ev Φ o Γ).toS (kStP Φ i t) := rfl
def sSet2P (o i o' i' : E) (ts : List T) (Γ : Env) : SOut := match ts with
  | [t, t'] => ((ev Φ o Γ).toS (kStP Φ i t)).andThen (sSet2b Φ o' i' t')
  | _ => .no
@[simp] theorem sSet2P_two {o i o' i' : E} {t t' : T} {Γ : Env} : sSet2P Φ o i o' i' [t, t'] Γ = ((ev Φ o Γ).toS (kStP Φ i t)).andThen (sSet2b Φ o' i' t') := rfl
@[simp] theorem exS_set2P {o i o' i' e e' : E} {Γ : Env} : exS Φ (.set2P o i o' i' e e') Γ = (evTs Φ (.cons e (.cons e' .nil)) Γ).toS (sSet2P Φ o i o' i') := by
  rw [exS]
  congr 1
def sAug2 (k : Nat) (a b : Int) (o : Option (Option T)) (Γ : Env) : SOut := match o with
  | some (some (.sh (.int a'))) => if a = a' then .nx (Γ.set k (some (.sh (.int (a + b))))) else .no
  | _ => .no
@[simp] theorem sAug2_int {k : Nat} {a b a' : Int} {Γ : Env} : sAug2 k a b (some (some (.sh (.int a')))) Γ = if a = a' then .nx (Γ.set k (some (.sh (.int (a + b))))) else .no := rfl
def sAug1 (k : Nat) (a : Int) (x : O) (Γ : Env) : SOut := match x with
  | .t (.sh (.int b)) => sAug2 k a b Γ[k]? Γ
  | _ => .no
@[simp] theorem sAug1_int {k : Nat} {a b : Int} {Γ : Env} : sAug1 k a (.t (.sh (.int b))) Γ = sAug2 k a b Γ[k]? Γ := rfl
def sAug0 (k : Nat) (e : E) (o : Option (Option T)) (Γ : Env) : SOut := match o with
  | some (some (.sh (.int a))) => (ev Φ e Γ).toS (sAug1 k a)
  | _ => .no
@[simp] theorem sAug0_int {k : Nat} {e : E} {a : Int} {Γ : Env} : sAug0 Φ k e (some (some (.sh (.int a)))) Γ = (ev Φ e Γ).toS (sAug1 k a) := rfl
@[simp] theorem exS_aug {k : Nat} {e : E} {Γ : Env} : exS Φ (.aug k e) Γ = sAug0 Φ k e Γ[k]? Γ := by
  rw [exS]
  generalize Γ[k]? = q
  match q with
  | none => rfl
  | some none => rfl
  | some (some (.ol _)) => rfl
  | some (some (.tp _)) => rfl
  | some (some (.ob _ _ _)) => rfl
  | some (some (.sh (.int a))) =>
    show Out.toS _ _ = (ev Φ e Γ).toS (sAug1 k a)
    congr 1
    funext x Γ'
    generalize hq : Γ'[k]? = q'
    unfold sAug1
    rw [hq]
    match x with
    | .t (.sh (.int b)) =>
      match q' with
      | some (some (.sh (.int a'))) => rfl
      | none => rfl
      | some none => rfl
      | some (some (.ol _)) => rfl
      | some (some (.tp _)) => rfl
      | some (some (.ob _ _ _)) => rfl
      | some (some (.sh .none)) => rfl
      | some (some (.sh (.bool _))) => rfl
      | some (some (.sh (.str _))) => rfl
      | some (some (.sh (.list _))) => rfl
      | some (some (.sh (.tuple _))) => rfl
      | some (some (.sh (.dict _))) => rfl
    | .at _ _ => rfl
    | .t (.ol _) => rfl
    | .t (.tp _) => rfl
    | .t (.ob _ _ _) => rfl
    | .t (.sh .none) => rfl
    | .t (.sh (.bool _)) => rfl
    | .t (.sh (.str _)) => rfl
    | .t (.sh (.list _)) => rfl
    | .t (.sh (.tuple _)) => rfl
    | .t (.sh (.dict _)) => rfl
  | some (some (.sh .none)) => rfl
  | some (some (.sh (.bool _))) => rfl
  | some (some (.sh (.str _))) => rfl
  | some (some (.sh (.list _))) => rfl
  | some (some (.sh (.tuple _))) => rfl
  | some (some (.sh (.dict _))) => rfl
@[simp] theorem mvO_t {t : T} {Γ : Env} : mvO (.t t) Γ = .ok t Γ := rfl
def mvAt (k : Nat) (o : Option (Option T)) (Γ : Env) : Out T := match o with
  | some (some t) => .ok t (Γ.set k none)
  | _ => .no
@[simp] theorem mvAt_some {k : Nat} {t : T} {Γ : Env} : mvAt k (some (some t)) Γ = .ok t (Γ.set k none) := rfl
@[simp] theorem mvO_at {k : Nat} {Γ : Env} : mvO (.at k []) Γ = mvAt k Γ[k]? Γ := rfl
def sRet2 (t : T) (Γ : Env) : SOut := .rt t Γ
@[simp] theorem sRet2_eq {t : T} {Γ : Env} : sRet2 t Γ = .rt t Γ := rfl
def sRet1 (o : O) (Γ : Env) : SOut := (mvO o Γ).toS sRet2
@[simp] theorem sRet1_eq {o : O} {Γ : Env} : sRet1 o Γ = (mvO o Γ).toS sRet2 := rfl
@[simp] theorem exS_ret {e : E} {Γ : Env} : exS Φ (.ret e) Γ = (ev Φ e Γ).toS sRet1 := by rw [exS]; rfl
noncomputable def sIf (a b : Ss) (k : Bool) (Γ : Env) : SOut := match k with
  | true => exSs Φ a Γ
  | false => exSs Φ b Γ
@[simp] theorem sIf_t {a b : Ss} {Γ : Env} : sIf Φ a b true Γ = exSs Φ a Γ := rfl
@[simp] theorem sIf_f {a b : Ss} {Γ : Env} : sIf Φ a b false Γ = exSs Φ b Γ := rfl
@[simp] theorem exS_if {c : B} {a b : Ss} {Γ : Env} : exS Φ (.iff c a b) Γ = (evB Φ false c Γ).toS (sIf Φ a b) := by
  rw [exS]
  congr 1
  funext k Γ
  cases k <;> rfl
noncomputable def sFor (one : Bool) (tg : List Nat) (body : Ss) (ds : List D) (Γ : Env) : SOut := forRun (bindTg one tg) (exSs Φ body) ds Γ
@[simp] theorem exS_for {one : Bool} {tg : List Nat} {src : I} {body : Ss} {Γ : Env} : exS Φ (.forS one tg src body) Γ = (evI Φ src Γ).toS (sFor Φ one tg body) := by rw [exS]; rfl
@[simp] theorem exS_raise {c : Nat} {Γ : Env} : exS Φ (.raise c) Γ = .ex c Γ := by rw [exS]
def sTry (hs : List (Nat × Str)) (r : SOut) : SOut := match r with
  | .ex c Γ => raised c Γ hs
  | r => r
@[simp] theorem sTry_nx {hs : List (Nat × Str)} {Γ : Env} : sTry hs (.nx Γ) = .nx Γ := rfl
@[simp] theorem sTry_rt {hs : List (Nat × Str)} {t : T} {Γ : Env} : sTry hs (.rt t Γ) = .rt t Γ := rfl
@[simp] theorem sTry_ex {hs : List (Nat × Str)} {c : Nat} {Γ : Env} : sTry hs (.ex c Γ) = raised c Γ hs := rfl
@[simp] theorem exS_try {body : Ss} {hs : List (Nat × Str)} {Γ : Env} : exS Φ (.tryS body hs) Γ = sTry hs (exSs Φ body Γ) := by
  rw [exS]
  cases exSs Φ body Γ <;> rfl
@[simp] theorem raised_cons {c k : Nat} {x : Str} {Γ : Env} {hs : List (Nat × Str)} : raised c Γ ((k, x) :: hs) = if k == c then .rt (.sh (.str x)) Γ else raised c Γ hs := rfl
/-! loops -/
@[simp] theorem forRun_nil {bind : D → Env → Option Env} {body : Env → SOut} {Γ : Env} : forRun bind body [] Γ = .nx Γ := rfl
def forK (r : Option Env) (body : Env → SOut) : SOut := match r with
  | some Γ => body Γ
  | none => .no
@[simp] theorem forK_some {Γ : Env} {body : Env → SOut} : forK (some Γ) body = body Γ := rfl
theorem forRun_cons {bind : D → Env → Option Env} {body : Env → SOut} {d : D} {ds : List D} {Γ : Env} : forRun bind body (d :: ds) Γ = (forK (bind d Γ) body).andThen (forRun bind body ds) := by
  show (match bind d Γ with
    | none => SOut.no
    | some Γ1 => match body Γ1 with
      | .nx Γ2 => forRun bind body ds Γ2
      | r => r) = _
  cases bind d Γ with
  | none => rfl
  | some Γ1 => simp only [forK]; cases body Γ1 <;> rfl
/-- a for whose body goes on, by an invariant -/
theorem for_inv {bind : D → Env → Option Env} {body : Env → SOut} (Inv : Nat → Env → Prop) : ∀ (ds : List D) (i : Nat) (Γ : Env), Inv i Γ → (∀ j d Γ, ds[j]? = some d → Inv (i + j) Γ → ∃ Γ', forK (bind d Γ) body = .nx Γ' ∧ Inv (i + j + 1) Γ') → ∃ Γ', forRun bind body ds Γ = .nx Γ' ∧ Inv (i + ds.length) Γ'
  | [], i, Γ, h, hs => ⟨Γ, rfl, h⟩
  | d :: ds, i, Γ, h, hs => by
    obtain ⟨Γ1, e1, h1⟩ := hs 0 d Γ rfl h
    obtain ⟨Γ2, e2, h2⟩ := for_inv Inv ds (i + 1) Γ1 h1 (fun j d' Γ' hj hi => by
      have := hs (j + 1) d' Γ' (by simpa using hj) (by rw [show i + (j + 1) = i + 1 + j by omega]; exact hi)
      rw [show i + (j + 1) + 1 = i + 1 + j + 1 by omega] at this
      exact this)
    refine ⟨Γ2, ?_, by rw [List.length_cons, show i + (ds.length + 1) = i + 1 + ds.length by omega]; exact h2⟩
    rw [forRun_cons, e1]
    exact e2
end
/-! comprehensions -/
section
variable (Φ : Nat → List T → FOut)
def lcEnd (Γ : Env) (vs : List Nat) (r : Out (List T)) : Out O := match r with
  | .ok ts Γ' => .ok (.t (.ol ts)) (backΓ Γ Γ' vs)
  | _ => .no
@[simp] theorem lcEnd_ok {Γ Γ' : Env} {vs : List Nat} {ts : List T} : lcEnd Γ vs (.ok ts Γ') = .ok (.t (.ol ts)) (backΓ Γ Γ' vs) := rfl
def lcK (elt : E) (tg : List Nat) (one : Bool) (c : B) (vs : List Nat) (own : Bool) (ds : List D) (Γ : Env) : Out O := if lineOk ds.length then lcEnd Γ vs (lcRun (lcTurn (bindTg one tg) (evB Φ false c) (evElt Φ elt own) vs) ds (wipeΓ Γ vs)) else .no
theorem ev_lc {elt : E} {tg : List Nat} {one : Bool} {src : I} {c : B} {vs : List Nat} {own : Bool} {Γ : Env} : ev Φ (.lc elt tg one src c vs own) Γ = (evI Φ src Γ).bind (lcK Φ elt tg one c vs own) := by
  show (evI Φ src Γ).bind _ = _
  congr 1
  funext ds Γ
  unfold lcK
  show (if lineOk ds.length then noEx ((lcRun (lcTurn (bindTg one tg) (evB Φ false c) (evElt Φ elt own) vs) ds (wipeΓ Γ vs)).bind fun ts Γ' => Out.ok (O.t (T.ol ts)) (backΓ Γ Γ' vs)) else Out.no) = _
  congr 1
  cases lcRun (lcTurn (bindTg one tg) (evB Φ false c) (evElt Φ elt own) vs) ds (wipeΓ Γ vs) <;> rfl
/-- one turn -/
def lcOne (bind : D → Env → Option Env) (test : Env → Out Bool) (elt : Env → Out T) (vs : List Nat) (d : D) (Γ : Env) : Out (List T) := lcTurn bind test elt vs d Γ
/-- each turn gives its trees and leaves the slots as they were -/
theorem lcRun_map {turn : D → Env → Out (List T)} {Γ : Env} (f : D → List T) : ∀ (ds : List D), (∀ d ∈ ds, turn d Γ = .ok (f d) Γ) → lcRun turn ds Γ = .ok (ds.flatMap f) Γ
  | [], _ => rfl
  | d :: ds, h => by
    show (turn d Γ).bind _ = _
    rw [h d List.mem_cons_self]
    simp only [Out.bind_ok]
    rw [lcRun_map f ds (fun d' hd => h d' (List.mem_cons_of_mem _ hd))]
    rfl
/-- .. where the slots change, by an invariant -/
theorem lcRun_inv {turn : D → Env → Out (List T)} (Inv : Env → Prop) (R : D → List T → Prop) : ∀ (ds : List D) (Γ : Env), Inv Γ → (∀ d ∈ ds, ∀ Γ, Inv Γ → ∃ ts Γ', turn d Γ = .ok ts Γ' ∧ R d ts ∧ Inv Γ') → ∃ (tss : List (List T)) (Γ' : Env), lcRun turn ds Γ = .ok tss.flatten Γ' ∧ tss.length = ds.length ∧ (∀ (j : Nat) (d : D) (ts : List T), ds[j]? = some d → tss[j]? = some ts → R d ts) ∧ Inv Γ'
  | [], Γ, hi, _ => ⟨[], Γ, rfl, rfl, fun j d ts h => by simp at h, hi⟩
  | d :: ds, Γ, hi, h => by
    obtain ⟨ts, Γ1, e1, r1, i1⟩ := h d List.mem_cons_self Γ hi
    obtain ⟨tss, Γ2, e2, l2, r2, i2⟩ := lcRun_inv Inv R ds Γ1 i1 (fun d' hd => h d' (List.mem_cons_of_mem _ hd))
    refine ⟨ts :: tss, Γ2, ?_, by simp [l2], fun j d' ts' hj ht => ?_, i2⟩
    · show (turn d Γ).bind _ = _
      rw [e1]
      simp only [Out.bind_ok]
      rw [e2]
      rfl
    · cases j with
      | zero => cases hj; cases ht; exact r1
      | succ j => exact r2 j d' ts' (by simpa using hj) (by simpa using ht)
end
theorem callD_of {tb : Tbl} {n f : Nat} {d : FDef} {ts : List T} (h : tb.fns.lookup f = some d) (hl : ts.length = d.ps.length) : callD tb (n + 1) f ts = finish d (exSs (callD tb n) d.body (startE d ts)) := by
  rw [callD, h]
  simp only [hl, if_true]
  rfl
def finO (r : Option (List T)) (t : T) : FOut := match r with
  | some o => .ok t o
  | none => .no
@[simp] theorem finO_some {o : List T} {t : T} : finO (some o) t = .ok t o := rfl
def finX (r : Option (List T)) (c : Nat) : FOut := match r with
  | some o => .ex c o
  | none => .no
@[simp] theorem finX_some {o : List T} {c : Nat} : finX (some o) c = .ex c o := rfl
@[simp] theorem finish_nx {d : FDef} {Γ : Env} : finish d (.nx Γ) = finO (outsOf Γ d.io) (.sh .none) := rfl
@[simp] theorem finish_rt {d : FDef} {Γ : Env} {t : T} : finish d (.rt t Γ) = finO (outsOf Γ d.io) t := rfl
@[simp] theorem finish_ex {d : FDef} {Γ : Env} {c : Nat} : finish d (.ex c Γ) = finX (outsOf Γ d.io) c := rfl
end Z

set_option Elab.async false
set_option linter.all false
set_option maxRecDepth 100000
namespace Z
open PySem
section
variable (Φ : Nat → List T → FOut)
@[simp] theorem hideE_nil {vs : List Nat} {n : Nat} : hideE vs n [] = [] := rfl
@[simp] theorem hideE_cons {vs : List Nat} {n : Nat} {x : Option T} {Γ : Env} : hideE vs n (x :: Γ) = (if vs.contains n then none else x) :: hideE vs (n + 1) Γ := rfl
@[simp] theorem backE_nil {vs : List Nat} {n : Nat} {Γ : Env} : backE vs n [] Γ = Γ := rfl
@[simp] theorem backE_cons {vs : List Nat} {n : Nat} {x y : Option T} {Γ Γ' : Env} : backE vs n (x :: Γ) (y :: Γ') = (if vs.contains n then x else y) :: backE vs (n + 1) Γ Γ' := rfl
theorem back_hide {vs : List Nat} : ∀ (n : Nat) (Γ : Env), backE vs n Γ (hideE vs n Γ) = Γ
  | _, [] => rfl
  | n, x :: Γ => by
    rw [hideE_cons, backE_cons, back_hide (n + 1) Γ]
    split <;> rfl
def lcT3 (vs : List Nat) (t : T) (Γ : Env) : Out (List T) := .ok [t] (wipeΓ Γ vs)
@[simp] theorem lcT3_eq {vs : List Nat} {t : T} {Γ : Env} : lcT3 vs t Γ = .ok [t] (wipeΓ Γ vs) := rfl
def lcT2 (elt : Env → Out T) (vs : List Nat) (b : Bool) (Γ : Env) : Out (List T) := match b with
  | true => (elt Γ).bind (lcT3 vs)
  | false => .ok [] (wipeΓ Γ vs)
@[simp] theorem lcT2_t {elt : Env → Out T} {vs : List Nat} {Γ : Env} : lcT2 elt vs true Γ = (elt Γ).bind (lcT3 vs) := rfl
@[simp] theorem lcT2_f {elt : Env → Out T} {vs : List Nat} {Γ : Env} : lcT2 elt vs false Γ = .ok [] (wipeΓ Γ vs) := rfl
def lcT1 (test : Env → Out Bool) (elt : Env → Out T) (vs : List Nat) (Γ : Env) (_ : Env) : Out (List T) := (test Γ).bind (lcT2 elt vs)
@[simp] theorem lcT1_eq {test : Env → Out Bool} {elt : Env → Out T} {vs : List Nat} {Γ Γ' : Env} : lcT1 test elt vs Γ Γ' = (test Γ).bind (lcT2 elt vs) := rfl
@[simp] theorem lcTurn_eq {bind : D → Env → Option Env} {test : Env → Out Bool} {elt : Env → Out T} {vs : List Nat} {d : D} {Γ : Env} : lcTurn bind test elt vs d Γ = (lift (bind d Γ) Γ).bind (lcT1 test elt vs) := by
  unfold lcTurn
  congr 1
  funext Γ1 Γ2
  rw [lcT1_eq]
  congr 1
  funext b Γ
  cases b <;> rfl
def eltK2 (d : D) (Γ : Env) : Out T := .ok (.sh d) Γ
@[simp] theorem eltK2_eq {d : D} {Γ : Env} : eltK2 d Γ = .ok (.sh d) Γ := rfl
def eltK1 (t : T) (Γ : Env) : Out T := (fzO t Γ).bind eltK2
@[simp] theorem eltK1_eq {t : T} {Γ : Env} : eltK1 t Γ = (fzO t Γ).bind eltK2 := rfl
def eltK (o : O) (Γ : Env) : Out T := (esc o Γ).bind eltK1
@[simp] theorem eltK_eq {o : O} {Γ : Env} : eltK o Γ = (esc o Γ).bind eltK1 := rfl
@[simp] theorem evElt_f {elt : E} {Γ : Env} : evElt Φ elt false Γ = (ev Φ elt Γ).bind eltK := rfl
def eltT1 (t : T) (Γ : Env) : Out T := .ok t Γ
@[simp] theorem eltT1_eq {t : T} {Γ : Env} : eltT1 t Γ = .ok t Γ := rfl
def eltT (o : O) (Γ : Env) : Out T := (esc o Γ).bind eltT1
@[simp] theorem eltT_eq {o : O} {Γ : Env} : eltT o Γ = (esc o Γ).bind eltT1 := rfl
@[simp] theorem evElt_t {elt : E} {Γ : Env} : evElt Φ elt true Γ = (ev Φ elt Γ).bind eltT := rfl
theorem flat_some (f : D → Option D) : ∀ (ds : List D), (ds.flatMap fun d => (f d).toList.map T.sh) = (ds.filterMap f).map T.sh
  | [] => rfl
  | d :: ds => by
    rw [List.flatMap_cons, flat_some f ds, List.filterMap_cons]
    cases f d <;> rfl
/-- a comprehension whose turns leave the slots as they are -/
theorem lcK_pure {elt : E} {tg : List Nat} {one : Bool} {c : B} {vs : List Nat} {ds : List D} {Γ : Env} (f : D → Option D) (hl : ds.length ≤ 1000000)
    (h : ∀ d ∈ ds, lcTurn (bindTg one tg) (evB Φ false c) (evElt Φ elt false) vs d (wipeΓ Γ vs) = .ok ((f d).toList.map .sh) (wipeΓ Γ vs)) : lcK Φ elt tg one c vs false ds Γ = .ok (.t (ol (ds.filterMap f))) Γ := by
  unfold lcK
  rw [if_pos (lineOk_iff.mpr hl), lcRun_map (fun d => (f d).toList.map T.sh) ds h, lcEnd_ok, flat_some]
  show Out.ok _ (backE vs 0 Γ (hideE vs 0 Γ)) = _
  rw [back_hide]
  rfl
theorem lcK_map {elt : E} {tg : List Nat} {one : Bool} {c : B} {vs : List Nat} {ds : List D} {Γ : Env} (f : D → D) (hl : ds.length ≤ 1000000)
    (h : ∀ d ∈ ds, lcTurn (bindTg one tg) (evB Φ false c) (evElt Φ elt false) vs d (wipeΓ Γ vs) = .ok [.sh (f d)] (wipeΓ Γ vs)) : lcK Φ elt tg one c vs false ds Γ = .ok (.t (ol (ds.map f))) Γ := by
  rw [lcK_pure Φ (fun d => some (f d)) hl h]
  congr 3
  rw [← List.filterMap_eq_map]
  rfl
/-- .. whose turns change the slots, by an invariant -/
theorem lcRun_invN {turn : D → Env → Out (List T)} (Inv : Nat → Env → Prop) (R : D → D → Prop) : ∀ (ds : List D) (i : Nat) (Γ : Env), Inv i Γ → (∀ j d Γ, ds[j]? = some d → Inv (i + j) Γ → ∃ x Γ', turn d Γ = .ok [.sh x] Γ' ∧ R d x ∧ Inv (i + j + 1) Γ') → ∃ (xs : List D) (Γ' : Env), lcRun turn ds Γ = .ok (xs.map .sh) Γ' ∧ xs.length = ds.length ∧ (∀ (j : Nat) (d x : D), ds[j]? = some d → xs[j]? = some x → R d x) ∧ Inv (i + ds.length) Γ'
  | [], i, Γ, hi, _ => ⟨[], Γ, rfl, rfl, fun j d x h => by simp at h, hi⟩
  | d :: ds, i, Γ, hi, h => by
    obtain ⟨x, Γ1, e1, r1, i1⟩ := h 0 d Γ rfl hi
    obtain ⟨xs, Γ2, e2, l2, r2, i2⟩ := lcRun_invN Inv R ds (i + 1) Γ1 i1 (fun j d' Γ' hj hi' => by
      have := h (j + 1) d' Γ' (by simpa using hj) (by rw [show i + (j + 1) = i + 1 + j by omega]; exact hi')
      rw [show i + (j + 1) + 1 = i + 1 + j + 1 by omega] at this
      exact this)
    refine ⟨x :: xs, Γ2, ?_, by simp [l2], fun j d' x' hj hx => ?_, by rw [List.length_cons, show i + (ds.length + 1) = i + 1 + ds.length by omega]; exact i2⟩
    · show (turn d Γ).bind _ = _
      rw [e1]
      simp only [Out.bind_ok]
      rw [e2]
      rfl
    · cases j with
      | zero => cases hj; cases hx; exact r1
      | succ j => exact r2 j d' x' (by simpa using hj) (by simpa using hx)
theorem lcK_inv {elt : E} {tg : List Nat} {one : Bool} {c : B} {vs : List Nat} {ds : List D} {Γ : Env} (Inv : Nat → Env → Prop) (R : D → D → Prop) (hl : ds.length ≤ 1000000) (h0 : Inv 0 (wipeΓ Γ vs))
    (h : ∀ j d Γ, ds[j]? = some d → Inv j Γ → ∃ x Γ', lcTurn (bindTg one tg) (evB Φ false c) (evElt Φ elt false) vs d Γ = .ok [.sh x] Γ' ∧ R d x ∧ Inv (j + 1) Γ') :
    ∃ (xs : List D) (Γ' : Env), lcK Φ elt tg one c vs false ds Γ = .ok (.t (ol xs)) (backΓ Γ Γ' vs) ∧ xs.length = ds.length ∧ (∀ (j : Nat) (d x : D), ds[j]? = some d → xs[j]? = some x → R d x) ∧ Inv ds.length Γ' := by
  obtain ⟨xs, Γ', e, l, r, i⟩ := lcRun_invN Inv R ds 0 (wipeΓ Γ vs) h0 (fun j d Γ hj hi => by
    rw [Nat.zero_add] at hi
    obtain ⟨x, Γ', a, b, c⟩ := h j d Γ hj hi
    exact ⟨x, Γ', a, b, by rw [Nat.zero_add]; exact c⟩)
  refine ⟨xs, Γ', ?_, l, r, by rw [Nat.zero_add] at i; exact i⟩
  unfold lcK
  rw [if_pos (lineOk_iff.mpr hl), e]
  rfl
end
theorem mem_zipD : ∀ {as bs : List D} {x : D}, x ∈ zipD as bs → ∃ a b, x = .tuple [a, b] ∧ a ∈ as ∧ b ∈ bs
  | [], _, x, h => by unfold zipD at h; simp at h
  | _ :: _, [], x, h => by unfold zipD at h; simp at h
  | a :: as, b :: bs, x, h => by
    unfold zipD at h
    rcases List.mem_cons.mp h with h | h
    · exact ⟨a, b, h, List.mem_cons_self, List.mem_cons_self⟩
    · obtain ⟨a', b', h1, h2, h3⟩ := mem_zipD h
      exact ⟨a', b', h1, List.mem_cons_of_mem _ h2, List.mem_cons_of_mem _ h3⟩
theorem mem_rngD : ∀ {lo : Int} {n : Nat} {x : D}, x ∈ rngD lo n → ∃ i : Nat, i < n ∧ x = .int (lo + i)
  | _, 0, x, h => by unfold rngD at h; simp at h
  | lo, n + 1, x, h => by
    unfold rngD at h
    rcases List.mem_cons.mp h with h | h
    · exact ⟨0, by omega, by rw [h]; simp⟩
    · obtain ⟨i, h1, h2⟩ := mem_rngD h
      exact ⟨i + 1, by omega, by rw [h2]; congr 1; push_cast; omega⟩
end Z

set_option Elab.async false
set_option linter.all false
set_option maxRecDepth 100000
set_option maxHeartbeats 0
namespace Z
def b_is_integer : Ss := (.cons (.ret (.bool (.and (.val (.isi .int (.var 0))) (.and (.not (.val (.isi .bool (.var 0)))) (.chn .le .le (.var 1) (.var 0) (.var 2))))))
  .nil)
def d_is_integer : FDef := ⟨"is_integer", ["candidate", "least", "most"], ["candidate", "least", "most"], [false, false, false], b_is_integer⟩
def b_are_sizes : Ss := (.cons (.iff (.or (.not (.val (.isi .tuple (.var 0)))) (.not (.chn .le .le (.num 1) (.bi .len (.var 0)) (.num 3)))) (.cons (.ret (.bl false))
  .nil) .nil)
  (.cons (.ret (.bi .all (.lc (.call 1 (.cons (.var 1) (.cons (.num 1) (.cons (.num 3) .nil)))) [1] true (.seq (.var 0)) .tt [1] false)))
  .nil))
def d_are_sizes : FDef := ⟨"are_sizes", ["candidate"], ["candidate", "size"], [false], b_are_sizes⟩
def b_is_kind : Ss := (.cons (.iff (.or (.not (.val (.isi .tuple (.var 1)))) (.cmp .ne (.bi .len (.var 1)) (.bi .len (.var 0)))) (.cons (.ret (.bl false))
  .nil) .nil)
  (.cons (.ret (.bi .all (.lc (.call 1 (.cons (.var 2) (.cons (.num 0) (.cons (.bin .sub (.var 3) (.num 1)) .nil)))) [2, 3] false (.zip (.var 1) (.var 0)) .tt [2, 3] false)))
  .nil))
def d_is_kind : FDef := ⟨"is_kind", ["sizes", "candidate"], ["sizes", "candidate", "group", "size"], [false, false], b_is_kind⟩
def b_is_survey : Ss := (.cons (.iff (.or (.not (.val (.isi .tuple (.var 0)))) (.or (.cmp .ne (.bi .len (.var 0)) (.num 2)) (.not (.val (.call 2 (.cons (.ix (.var 0) (.num 0)) .nil)))))) (.cons (.ret (.bl false))
  .nil) .nil)
  (.cons (.asg false [1, 2] (.var 0))
  (.cons (.iff (.or (.not (.val (.isi .tuple (.var 2)))) (.not (.chn .le .le (.num 1) (.bi .len (.var 2)) (.num 8)))) (.cons (.ret (.bl false))
  .nil) .nil)
  (.cons (.ret (.bi .all (.lc (.call 3 (.cons (.var 1) (.cons (.var 3) .nil))) [3] true (.seq (.var 2)) .tt [3] false)))
  .nil))))
def d_is_survey : FDef := ⟨"is_survey", ["candidate"], ["candidate", "sizes", "people", "person"], [false], b_is_survey⟩
def b__law_draw : Ss := (.cons (.iff (.not (.val (.var 1))) (.cons (.app 1 (.bi .max (.bin .add (.lc (.bi .abs (.var 3)) [3] true (.seq (.var 0)) .tt [3] false) (.lst (.cons (.num 0) .nil)))))
  .nil) .nil)
  (.cons (.app 1 (.num 0))
  (.cons (.asg true [4] (.bi .len (.var 1)))
  (.cons (.asg true [3] (.ite (.val (.var 0)) (.ix (.var 0) (.bin .mod (.var 4) (.bi .len (.var 0)))) (.num 0)))
  (.cons (.asg true [5] (.bin .mod (.ix (.var 1) (.num 0)) (.num 65536)))
  (.cons (.set 1 (.num 0) (.bin .fdiv (.ix (.var 1) (.num 0)) (.num 65536)))
  (.cons (.asg true [6] (.bin .mod (.bin .add (.bin .add (.var 3) (.bin .mul (.num 40503) (.var 5))) (.bin .mul (.num 104729) (.var 4))) (.num 4294967291)))
  (.cons (.asg true [6] (.bin .mod (.bin .mul (.bin .mod (.bin .mul (.var 6) (.var 6)) (.num 4294967279)) (.num 48271)) (.num 4294967291)))
  (.cons (.asg true [7] (.bin .mod (.bin .mul (.bin .mod (.bin .mul (.var 6) (.var 6)) (.num 4294967279)) (.num 69621)) (.num 4294967291)))
  (.cons (.ret (.bin .mod (.bin .add (.bin .mul (.bin .fdiv (.var 6) (.num 64)) (.num 67108864)) (.bin .fdiv (.var 7) (.num 64))) (.var 2)))
  .nil))))))))))
def d__law_draw : FDef := ⟨"_law_draw", ["script", "state", "many"], ["script", "state", "many", "cell", "k", "digits", "number", "more"], [false, true, false], b__law_draw⟩
def b__law_pick : Ss := (.cons (.ret (.ix (.var 2) (.call 5 (.cons (.var 0) (.cons (.io 1) (.cons (.bi .len (.var 2)) .nil))))))
  .nil)
def d__law_pick : FDef := ⟨"_law_pick", ["script", "state", "some"], ["script", "state", "some"], [false, true, false], b__law_pick⟩
def b__law_bent : Ss := (.cons (.iff (.or (.not (.val (.isi .tuple (.var 2)))) (.or (.not (.val (.var 2))) (.cmp .eq (.call 5 (.cons (.var 0) (.cons (.io 1) (.cons (.num 4) .nil)))) (.num 0)))) (.cons (.asg true [3] (.lst (.cons .non (.cons (.bl true) (.cons (.bl false) (.cons (.num 0) (.cons (.num 1) (.cons (.neg (.num 1)) (.cons (.num 3) (.cons (.num 10) (.cons (.text "a") (.cons (.text "b") (.cons (.text "") (.cons (.text "A") (.cons (.text "abcd") (.cons (.tup .nil) (.cons (.lst .nil) (.cons (.tup (.cons (.num 0) .nil)) .nil))))))))))))))))))
  (.cons (.asg true [3] (.bin .add (.var 3) (.lst (.cons (.tup (.cons (.num 2) (.cons (.num 1) .nil))) (.cons (.tup (.cons (.num 1) (.cons (.num 2) .nil))) (.cons (.tup (.cons (.tup (.cons (.num 0) .nil)) (.cons (.tup (.cons (.num 1) .nil)) .nil))) .nil))))))
  (.cons (.iff (.val (.isi .tuple (.var 2))) (.cons (.asg true [3] (.bin .add (.var 3) (.lst (.cons (.bi .list (.var 2)) (.cons (.sl (.var 2) .non (.neg (.num 1))) (.cons (.bin .add (.var 2) (.sl (.var 2) (.neg (.num 1)) .non)) (.cons (.sl (.var 2) (.num 1) .non) (.cons (.rev (.var 2)) (.cons (.bin .add (.var 2) (.tup (.cons .non .nil))) .nil)))))))))
  .nil) .nil)
  (.cons (.iff (.val (.isi .int (.var 2))) (.cons (.asg true [3] (.bin .add (.var 3) (.bin .mul (.lst (.cons (.bin .add (.var 2) (.num 1)) (.cons (.bin .sub (.var 2) (.num 1)) (.cons (.bool (.not (.val (.var 2)))) (.cons (.tup (.cons (.var 2) .nil)) (.cons (.bi .str (.var 2)) .nil)))))) (.num 2))))
  .nil) .nil)
  (.cons (.ret (.call 6 (.cons (.var 0) (.cons (.io 1) (.cons (.var 3) .nil)))))
  .nil))))) .nil)
  (.cons (.asg true [4] (.call 5 (.cons (.var 0) (.cons (.io 1) (.cons (.bi .len (.var 2)) .nil)))))
  (.cons (.ret (.bin .add (.bin .add (.sl (.var 2) .non (.var 4)) (.tup (.cons (.call 7 (.cons (.var 0) (.cons (.io 1) (.cons (.ix (.var 2) (.var 4)) .nil)))) .nil))) (.sl (.var 2) (.bin .add (.var 4) (.num 1)) .non)))
  .nil)))
def d__law_bent : FDef := ⟨"_law_bent", ["script", "state", "thing"], ["script", "state", "thing", "some", "at"], [false, true, false], b__law_bent⟩
def b__law_survey : Ss := (.cons (.asg true [3] (.bi .tuple (.lc (.bin .add (.num 1) (.call 5 (.cons (.var 0) (.cons (.io 1) (.cons (.num 3) .nil))))) [4] true (.rng (.bin .add (.num 1) (.call 5 (.cons (.var 0) (.cons (.io 1) (.cons (.num 3) .nil)))))) .tt [4] false)))
  (.cons (.asg true [5] (.lst .nil))
  (.cons (.forS true [4] (.rng (.bin .add (.num 1) (.call 5 (.cons (.var 0) (.cons (.io 1) (.cons (.var 2) .nil)))))) (.cons (.app 5 (.bi .tuple (.lc (.call 5 (.cons (.var 0) (.cons (.io 1) (.cons (.var 6) .nil)))) [6] true (.seq (.var 3)) .tt [6] false)))
  .nil))
  (.cons (.ret (.tup (.cons (.var 3) (.cons (.bi .tuple (.var 5)) .nil))))
  .nil))))
def d__law_survey : FDef := ⟨"_law_survey", ["script", "state", "most"], ["script", "state", "most", "sizes", "step", "people", "size"], [false, true, false], b__law_survey⟩
def b__law_is_number : Ss := (.cons (.ret (.bool (.and (.val (.isi .int (.var 0))) (.and (.not (.val (.isi .bool (.var 0)))) (.chn .le .le (.var 1) (.var 0) (.var 2))))))
  .nil)
def d__law_is_number : FDef := ⟨"_law_is_number", ["thing", "low", "high"], ["thing", "low", "high"], [false, false, false], b__law_is_number⟩
def b__law_is_survey : Ss := (.cons (.iff (.or (.not (.val (.isi .tuple (.var 0)))) (.or (.cmp .ne (.bi .len (.var 0)) (.num 2)) (.not (.val (.isi .tuple (.ix (.var 0) (.num 0))))))) (.cons (.ret (.bl false))
  .nil) .nil)
  (.cons (.iff (.not (.chn .le .le (.num 1) (.bi .len (.ix (.var 0) (.num 0))) (.num 3))) (.cons (.ret (.bl false))
  .nil) .nil)
  (.cons (.iff (.val (.lc (.var 1) [1] true (.seq (.ix (.var 0) (.num 0))) (.not (.val (.call 9 (.cons (.var 1) (.cons (.num 1) (.cons (.num 3) .nil)))))) [1] false)) (.cons (.ret (.bl false))
  .nil) .nil)
  (.cons (.iff (.or (.not (.val (.isi .tuple (.ix (.var 0) (.num 1))))) (.not (.chn .le .le (.num 1) (.bi .len (.ix (.var 0) (.num 1))) (.num 8)))) (.cons (.ret (.bl false))
  .nil) .nil)
  (.cons (.forS true [2] (.seq (.ix (.var 0) (.num 1))) (.cons (.iff (.or (.not (.val (.isi .tuple (.var 2)))) (.cmp .ne (.bi .len (.var 2)) (.bi .len (.ix (.var 0) (.num 0))))) (.cons (.ret (.bl false))
  .nil) .nil)
  (.cons (.iff (.val (.lc (.num 1) [3, 4] false (.zip (.var 2) (.ix (.var 0) (.num 0))) (.not (.val (.call 9 (.cons (.var 3) (.cons (.num 0) (.cons (.bin .sub (.var 4) (.num 1)) .nil)))))) [3, 4] false)) (.cons (.ret (.bl false))
  .nil) .nil)
  .nil)))
  (.cons (.ret (.bl true))
  .nil))))))
def d__law_is_survey : FDef := ⟨"_law_is_survey", ["thing"], ["thing", "one", "person", "group", "size"], [false], b__law_is_survey⟩
def b_law : Ss := (.cons (.asg true [1] (.lst .nil))
  (.cons (.asg true [2] (.bin .mul (.tup (.cons (.tup (.cons (.num 0) .nil)) .nil)) (.num 9)))
  (.cons (.asg true [3] (.lst (.cons (.tup (.cons (.tup (.cons (.num 2) .nil)) (.cons (.var 2) .nil))) (.cons (.tup (.cons (.tup (.cons (.num 2) .nil)) (.cons (.sl (.var 2) .non (.num 8)) .nil))) (.cons (.tup (.cons (.tup (.cons (.num 2) .nil)) (.cons (.tup .nil) .nil))) (.cons (.tup (.cons (.tup .nil) (.cons (.tup (.cons (.tup .nil) .nil)) .nil))) .nil))))))
  (.cons (.asg true [3] (.bin .add (.var 3) (.lst (.cons (.tup (.cons (.tup (.cons (.num 1) (.cons (.num 1) (.cons (.num 1) (.cons (.num 1) .nil))))) (.cons (.tup (.cons (.tup (.cons (.num 0) (.cons (.num 0) (.cons (.num 0) (.cons (.num 0) .nil))))) .nil)) .nil))) (.cons (.tup (.cons (.tup (.cons (.num 4) .nil)) (.cons (.tup (.cons (.tup (.cons (.num 0) .nil)) .nil)) .nil))) (.cons (.tup (.cons (.tup (.cons (.num 0) .nil)) (.cons (.tup (.cons (.tup (.cons (.num 0) .nil)) .nil)) .nil))) .nil))))))
  (.cons (.asg true [3] (.bin .add (.var 3) (.lst (.cons (.tup (.cons (.tup (.cons (.num 2) .nil)) (.cons (.tup (.cons (.tup (.cons (.num 2) .nil)) .nil)) .nil))) (.cons (.tup (.cons (.tup (.cons (.num 2) .nil)) (.cons (.tup (.cons (.tup (.cons (.neg (.num 1)) .nil)) .nil)) .nil))) (.cons (.tup (.cons (.tup (.cons (.num 2) .nil)) (.cons (.tup (.cons (.tup (.cons (.bl true) .nil)) .nil)) .nil))) (.cons (.tup (.cons (.tup (.cons (.bl true) .nil)) (.cons (.tup (.cons (.tup (.cons (.num 0) .nil)) .nil)) .nil))) .nil)))))))
  (.cons (.asg true [3] (.bin .add (.var 3) (.lst (.cons (.tup (.cons (.tup (.cons (.num 2) (.cons (.num 2) .nil))) (.cons (.tup (.cons (.tup (.cons (.num 0) .nil)) .nil)) .nil))) (.cons (.tup (.cons (.tup (.cons (.num 2) .nil)) (.cons (.tup (.cons (.tup (.cons (.num 0) (.cons (.num 0) .nil))) .nil)) .nil))) .nil)))))
  (.cons (.asg true [3] (.bin .add (.var 3) (.lst (.cons (.tup (.cons (.tup (.cons (.num 2) .nil)) (.cons (.lst (.cons (.tup (.cons (.num 0) .nil)) .nil)) .nil))) (.cons (.tup (.cons (.lst (.cons (.num 2) .nil)) (.cons (.tup (.cons (.tup (.cons (.num 0) .nil)) .nil)) .nil))) (.cons (.tup (.cons (.tup (.cons (.num 2) .nil)) (.cons (.tup (.cons (.lst (.cons (.num 0) .nil)) .nil)) .nil))) (.cons (.tup (.cons (.tup (.cons (.num 2) .nil)) .nil)) (.cons (.tup (.cons (.tup (.cons (.num 2) .nil)) (.cons (.tup (.cons (.tup (.cons (.num 0) .nil)) .nil)) (.cons (.tup .nil) .nil)))) .nil))))))))
  (.cons (.asg true [3] (.bin .add (.var 3) (.lst (.cons .non (.cons (.num 0) (.cons (.text "2") (.cons (.tup (.cons (.tup (.cons (.num 2) .nil)) (.cons (.tup (.cons (.num 0) .nil)) .nil))) .nil)))))))
  (.cons (.forS true [4] (.rng (.num 10)) (.cons (.asg true [5] (.call 8 (.cons (.var 0) (.cons (.io 1) (.cons (.num 8) .nil)))))
  (.cons (.asg true [3] (.bin .add (.var 3) (.lst (.cons (.var 5) (.cons (.call 7 (.cons (.var 0) (.cons (.io 1) (.cons (.var 5) .nil)))) (.cons (.rev (.var 5)) (.cons (.tup (.cons (.bin .add (.ix (.var 5) (.num 0)) (.tup (.cons (.num 1) .nil))) (.cons (.ix (.var 5) (.num 1)) .nil))) .nil)))))))
  (.cons (.app 3 (.call 7 (.cons (.var 0) (.cons (.io 1) (.cons (.call 7 (.cons (.var 0) (.cons (.io 1) (.cons (.var 5) .nil)))) .nil)))))
  .nil))))
  (.cons (.ret (.bool (.cmp .eq (.lc (.var 5) [5] true (.seq (.var 3)) (.cmp .ne (.call 4 (.cons (.var 5) .nil)) (.call 10 (.cons (.var 5) .nil))) [5] false) (.lst .nil))))
  .nil))))))))))
def d_law : FDef := ⟨"law", ["script"], ["script", "state", "nine", "things", "k", "thing"], [false], b_law⟩
def b_require_survey : Ss := (.cons (.iff (.not (.val (.call 4 (.cons (.var 0) .nil)))) (.cons (.raise 1)
  .nil) .nil)
  .nil)
def d_require_survey : FDef := ⟨"require_survey", ["survey"], ["survey"], [false], b_require_survey⟩
def b_is_valid_goal : Ss := (.cons (.iff (.or (.not (.val (.isi .tuple (.var 1)))) (.cmp .ne (.bi .len (.var 1)) (.bi .len (.var 0)))) (.cons (.ret (.bl false))
  .nil) .nil)
  (.cons (.forS false [2, 3] (.zip (.var 0) (.var 1)) (.cons (.iff (.or (.not (.val (.isi .tuple (.var 3)))) (.cmp .ne (.bi .len (.var 3)) (.var 2))) (.cons (.ret (.bl false))
  .nil) .nil)
  (.cons (.iff (.not (.val (.bi .all (.lc (.call 1 (.cons (.var 4) (.cons (.num 0) (.cons (.num 999) .nil)))) [4] true (.seq (.var 3)) .tt [4] false)))) (.cons (.ret (.bl false))
  .nil) .nil)
  .nil)))
  (.cons (.asg true [5] (.lc (.bi .sum (.var 3)) [3] true (.seq (.var 1)) .tt [3] false))
  (.cons (.ret (.bool (.and (.chn .le .le (.num 1) (.ix (.var 5) (.num 0)) (.num 999)) (.val (.bi .all (.lc (.bool (.cmp .eq (.var 6) (.ix (.var 5) (.num 0)))) [6] true (.seq (.var 5)) .tt [6] false))))))
  .nil))))
def d_is_valid_goal : FDef := ⟨"is_valid_goal", ["sizes", "candidate"], ["sizes", "candidate", "size", "numbers", "number", "sums", "one"], [false, false], b_is_valid_goal⟩
def b_is_goal : Ss := (.cons (.exp (.call 12 (.cons (.var 0) .nil)))
  (.cons (.ret (.call 13 (.cons (.ix (.var 0) (.num 0)) (.cons (.var 1) .nil))))
  .nil))
def d_is_goal : FDef := ⟨"is_goal", ["survey", "candidate"], ["survey", "candidate"], [false, false], b_is_goal⟩
def b__law_goal : Ss := (.cons (.asg false [3, 4] (.var 2))
  (.cons (.asg true [5] (.lc (.bin .mul (.lst (.cons (.num 0) .nil)) (.var 6)) [6] true (.seq (.var 3)) .tt [6] true))
  (.cons (.iff (.val (.call 5 (.cons (.var 0) (.cons (.io 1) (.cons (.num 3) .nil))))) (.cons (.forS true [7] (.seq (.var 4)) (.cons (.asg true [8] (.call 5 (.cons (.var 0) (.cons (.io 1) (.cons (.num 6) .nil)))))
  (.cons (.forS true [9] (.rng (.bi .len (.var 3))) (.cons (.asg true [10] (.ix (.var 7) (.var 9)))
  (.cons (.setP (.ix (.var 5) (.var 9)) (.var 10) (.bin .add (.ix (.ix (.var 5) (.var 9)) (.var 10)) (.var 8)))
  .nil)))
  .nil)))
  .nil) .nil)
  (.cons (.iff (.cmp .eq (.bi .sum (.ix (.var 5) (.num 0))) (.num 0)) (.cons (.asg true [5] (.lc (.bin .mul (.lst (.cons (.num 0) .nil)) (.var 6)) [6] true (.seq (.var 3)) .tt [6] true))
  (.cons (.asg true [11] (.bin .add (.num 1) (.call 5 (.cons (.var 0) (.cons (.io 1) (.cons (.num 9) .nil))))))
  (.cons (.forS true [9] (.rng (.bi .len (.var 3))) (.cons (.forS true [12] (.rng (.var 11)) (.cons (.asg true [10] (.call 5 (.cons (.var 0) (.cons (.io 1) (.cons (.ix (.var 3) (.var 9)) .nil)))))
  (.cons (.setP (.ix (.var 5) (.var 9)) (.var 10) (.bin .add (.ix (.ix (.var 5) (.var 9)) (.var 10)) (.num 1)))
  .nil)))
  .nil))
  .nil))) .nil)
  (.cons (.ret (.bi .tuple (.lc (.bi .tuple (.var 13)) [13] true (.seq (.var 5)) .tt [13] false)))
  .nil)))))
def d__law_goal : FDef := ⟨"_law_goal", ["script", "state", "survey"], ["script", "state", "survey", "sizes", "people", "table", "size", "person", "number", "trait", "group", "count", "step", "row"], [false, true, false], b__law_goal⟩
def b__law_right : Ss := (.cons (.iff (.or (.not (.val (.isi .tuple (.var 1)))) (.cmp .ne (.bi .len (.var 1)) (.bi .len (.var 0)))) (.cons (.ret (.bl false))
  .nil) .nil)
  (.cons (.forS false [2, 3] (.zip (.var 0) (.var 1)) (.cons (.iff (.or (.not (.val (.isi .tuple (.var 3)))) (.cmp .ne (.bi .len (.var 3)) (.var 2))) (.cons (.ret (.bl false))
  .nil) .nil)
  (.cons (.forS true [4] (.seq (.var 3)) (.cons (.iff (.or (.not (.val (.isi .int (.var 4)))) (.or (.val (.isi .bool (.var 4))) (.not (.chn .le .le (.num 0) (.var 4) (.num 999))))) (.cons (.ret (.bl false))
  .nil) .nil)
  .nil))
  .nil)))
  (.cons (.ret (.bool (.and (.chn .le .le (.num 1) (.bi .sum (.ix (.var 1) (.num 0))) (.num 999)) (.cmp .eq (.lc (.var 3) [3] true (.seq (.var 1)) (.cmp .ne (.bi .sum (.var 3)) (.bi .sum (.ix (.var 1) (.num 0)))) [3] false) (.lst .nil)))))
  .nil)))
def d__law_right : FDef := ⟨"_law_right", ["sizes", "thing"], ["sizes", "thing", "size", "row", "one"], [false, false], b__law_right⟩
def b__law_is_goal_or : Ss := (.cons (.tryS (.cons (.ret (.call 14 (.cons (.var 0) (.cons (.var 1) .nil))))
  .nil) [(1, "InvalidSurvey")])
  .nil)
def d__law_is_goal_or : FDef := ⟨"_law_is_goal_or", ["survey", "thing"], ["survey", "thing"], [false, false], b__law_is_goal_or⟩
def b_law_2 : Ss := (.cons (.asg true [1] (.lst .nil))
  (.cons (.forS true [2] (.rng (.num 9)) (.cons (.asg true [3] (.call 8 (.cons (.var 0) (.cons (.io 1) (.cons (.num 8) .nil)))))
  (.cons (.par [4, 5] (.cons (.call 15 (.cons (.var 0) (.cons (.io 1) (.cons (.var 3) .nil)))) (.cons (.ix (.var 3) (.num 0)) .nil)))
  (.cons (.asg true [6] (.bi .tuple (.lc (.bin .add (.tup (.cons (.num 999) .nil)) (.bin .mul (.tup (.cons (.num 0) .nil)) (.bin .sub (.var 7) (.num 1)))) [7] true (.seq (.var 5)) .tt [7] false)))
  (.cons (.asg true [8] (.bi .tuple (.lc (.ite (.cmp .gt (.var 7) (.num 1)) (.bin .add (.bin .add (.tup (.cons (.num 500) .nil)) (.bin .mul (.tup (.cons (.num 0) .nil)) (.bin .sub (.var 7) (.num 2)))) (.tup (.cons (.num 500) .nil))) (.tup (.cons (.num 1000) .nil))) [7] true (.seq (.var 5)) .tt [7] false)))
  (.cons (.asg true [9] (.bi .tuple (.lc (.bin .mul (.tup (.cons (.num 0) .nil)) (.var 7)) [7] true (.seq (.var 5)) .tt [7] false)))
  (.cons (.asg true [10] (.lst (.cons (.var 4) (.cons (.var 6) (.cons (.var 8) (.cons (.var 9) (.cons (.sl (.var 4) (.num 1) .non) (.cons (.bin .add (.var 4) (.sl (.var 4) .non (.num 1))) (.cons (.bi .list (.var 4)) (.cons .non .nil))))))))))
  (.cons (.asg true [10] (.bin .add (.var 10) (.lst (.cons (.bin .add (.tup (.cons (.bi .list (.ix (.var 4) (.num 0))) .nil)) (.sl (.var 4) (.num 1) .non)) (.cons (.rev (.var 4)) .nil)))))
  (.cons (.asg true [10] (.bin .add (.var 10) (.lst (.cons (.bin .add (.tup (.cons (.bin .add (.tup (.cons (.neg (.num 1)) .nil)) (.sl (.ix (.var 4) (.num 0)) (.num 1) .non)) .nil)) (.sl (.var 4) (.num 1) .non)) (.cons (.bin .add (.tup (.cons (.bin .add (.ix (.var 4) (.num 0)) (.tup (.cons (.num 0) .nil))) .nil)) (.sl (.var 4) (.num 1) .non)) .nil)))))
  (.cons (.asg true [10] (.bin .add (.var 10) (.lst (.cons (.bin .add (.tup (.cons (.rev (.ix (.var 4) (.num 0))) .nil)) (.sl (.var 4) (.num 1) .non)) .nil))))
  (.cons (.asg true [10] (.bin .add (.var 10) (.lst (.cons (.bin .add (.tup (.cons (.bin .add (.tup (.cons (.bin .add (.ix (.ix (.var 4) (.num 0)) (.num 0)) (.num 1)) .nil)) (.sl (.ix (.var 4) (.num 0)) (.num 1) .non)) .nil)) (.sl (.var 4) (.num 1) .non)) (.cons (.call 7 (.cons (.var 0) (.cons (.io 1) (.cons (.var 4) .nil)))) .nil)))))
  (.cons (.app 10 (.call 7 (.cons (.var 0) (.cons (.io 1) (.cons (.call 7 (.cons (.var 0) (.cons (.io 1) (.cons (.var 4) .nil)))) .nil)))))
  (.cons (.app 10 (.bin .add (.tup (.cons (.bin .add (.tup (.cons (.bl true) .nil)) (.sl (.ix (.var 4) (.num 0)) (.num 1) .non)) .nil)) (.sl (.var 4) (.num 1) .non)))
  (.cons (.forS true [11] (.seq (.var 10)) (.cons (.iff (.cmp .ne (.call 14 (.cons (.var 3) (.cons (.var 11) .nil))) (.call 16 (.cons (.var 5) (.cons (.var 11) .nil)))) (.cons (.ret (.bl false))
  .nil) .nil)
  .nil))
  (.cons (.iff (.cmp .ne (.call 17 (.cons (.var 5) (.cons (.var 4) .nil))) (.text "InvalidSurvey")) (.cons (.ret (.bl false))
  .nil) .nil)
  (.cons (.iff (.cmp .ne (.call 17 (.cons .non (.cons (.var 4) .nil))) (.text "InvalidSurvey")) (.cons (.ret (.bl false))
  .nil) .nil)
  .nil))))))))))))))))
  (.cons (.ret (.bl true))
  .nil)))
def d_law_2 : FDef := ⟨"law", ["script"], ["script", "state", "k", "survey", "goal", "sizes", "flat", "size", "more", "none", "things", "thing"], [false], b_law_2⟩
def b_common_divisor : Ss := (.cons (.whileS (.val (.var 1)) (.cons (.par [0, 1] (.cons (.var 1) (.cons (.bin .mod (.var 0) (.var 1)) .nil)))
  .nil))
  (.cons (.ret (.var 0))
  .nil))
def d_common_divisor : FDef := ⟨"common_divisor", ["one", "other"], ["one", "other"], [false, false], b_common_divisor⟩
def b_is_fraction : Ss := (.cons (.iff (.or (.not (.val (.isi .tuple (.var 0)))) (.cmp .ne (.bi .len (.var 0)) (.num 2))) (.cons (.ret (.bl false))
  .nil) .nil)
  (.cons (.iff (.or (.not (.val (.bi .all (.lc (.bool (.and (.val (.isi .int (.var 1))) (.not (.val (.isi .bool (.var 1)))))) [1] true (.seq (.var 0)) .tt [1] false)))) (.cmp .lt (.ix (.var 0) (.num 1)) (.num 1))) (.cons (.ret (.bl false))
  .nil) .nil)
  (.cons (.ret (.bool (.cmp .eq (.call 24 (.cons (.bi .abs (.ix (.var 0) (.num 0))) (.cons (.ix (.var 0) (.num 1)) .nil))) (.num 1))))
  .nil)))
def d_is_fraction : FDef := ⟨"is_fraction", ["candidate"], ["candidate", "one"], [false], b_is_fraction⟩
def b_are_numbers : Ss := (.cons (.iff (.or (.not (.val (.isi .tuple (.var 1)))) (.cmp .ne (.bi .len (.var 1)) (.bi .len (.ix (.var 0) (.num 1))))) (.cons (.ret (.bl false))
  .nil) .nil)
  (.cons (.ret (.bi .all (.lc (.call 25 (.cons (.var 2) .nil)) [2] true (.seq (.var 1)) .tt [2] false)))
  .nil))
def d_are_numbers : FDef := ⟨"are_numbers", ["survey", "candidate"], ["survey", "candidate", "one"], [false, false], b_are_numbers⟩
def b_are_positive : Ss := (.cons (.ret (.bool (.and (.val (.call 26 (.cons (.var 0) (.cons (.var 1) .nil)))) (.val (.bi .all (.lc (.bool (.cmp .ge (.ix (.var 2) (.num 0)) (.num 0))) [2] true (.seq (.var 1)) .tt [2] false))))))
  .nil)
def d_are_positive : FDef := ⟨"are_positive", ["survey", "candidate"], ["survey", "candidate", "one"], [false, false], b_are_positive⟩
def b_are_weights : Ss := (.cons (.exp (.call 12 (.cons (.var 0) .nil)))
  (.cons (.ret (.call 27 (.cons (.var 0) (.cons (.var 1) .nil))))
  .nil))
def d_are_weights : FDef := ⟨"are_weights", ["survey", "candidate"], ["survey", "candidate"], [false, false], b_are_weights⟩
def b__law_fraction : Ss := (.cons (.par [2, 3] (.cons (.bi .abs (.var 0)) (.cons (.bi .abs (.var 1)) .nil)))
  (.cons (.whileS (.val (.var 3)) (.cons (.par [2, 3] (.cons (.var 3) (.cons (.bin .mod (.var 2) (.var 3)) .nil)))
  .nil))
  (.cons (.asg true [4] (.ite (.cmp .gt (.var 1) (.num 0)) (.num 1) (.neg (.num 1))))
  (.cons (.ret (.tup (.cons (.bin .fdiv (.bin .mul (.var 4) (.var 0)) (.var 2)) (.cons (.bin .fdiv (.bi .abs (.var 1)) (.var 2)) .nil))))
  .nil))))
def d__law_fraction : FDef := ⟨"_law_fraction", ["top", "bottom"], ["top", "bottom", "one", "other", "sign"], [false, false], b__law_fraction⟩
def b__law_weights : Ss := (.cons (.asg true [3] (.lst .nil))
  (.cons (.forS true [4] (.seq (.ix (.var 2) (.num 1))) (.cons (.app 3 (.call 29 (.cons (.call 5 (.cons (.var 0) (.cons (.io 1) (.cons (.num 7) .nil)))) (.cons (.bin .add (.num 1) (.call 5 (.cons (.var 0) (.cons (.io 1) (.cons (.num 4) .nil))))) .nil))))
  .nil))
  (.cons (.ret (.bi .tuple (.var 3)))
  .nil)))
def d__law_weights : FDef := ⟨"_law_weights", ["script", "state", "survey"], ["script", "state", "survey", "found", "person"], [false, true, false], b__law_weights⟩
def b__law_is_fraction : Ss := (.cons (.iff (.or (.not (.val (.isi .tuple (.var 0)))) (.cmp .ne (.bi .len (.var 0)) (.num 2))) (.cons (.ret (.bl false))
  .nil) .nil)
  (.cons (.iff (.val (.lc (.var 1) [1] true (.seq (.var 0)) (.or (.not (.val (.isi .int (.var 1)))) (.val (.isi .bool (.var 1)))) [1] false)) (.cons (.ret (.bl false))
  .nil) .nil)
  (.cons (.iff (.or (.cmp .lt (.ix (.var 0) (.num 1)) (.num 1)) (.cmp .lt (.ix (.var 0) (.num 0)) (.num 0))) (.cons (.ret (.bl false))
  .nil) .nil)
  (.cons (.asg false [1, 2] (.var 0))
  (.cons (.whileS (.val (.var 2)) (.cons (.par [1, 2] (.cons (.var 2) (.cons (.bin .mod (.var 1) (.var 2)) .nil)))
  .nil))
  (.cons (.ret (.bool (.cmp .eq (.var 1) (.num 1))))
  .nil))))))
def d__law_is_fraction : FDef := ⟨"_law_is_fraction", ["thing"], ["thing", "one", "other"], [false], b__law_is_fraction⟩
def b__law_are_weights_or : Ss := (.cons (.tryS (.cons (.ret (.call 28 (.cons (.var 0) (.cons (.var 1) .nil))))
  .nil) [(1, "InvalidSurvey")])
  .nil)
def d__law_are_weights_or : FDef := ⟨"_law_are_weights_or", ["survey", "thing"], ["survey", "thing"], [false, false], b__law_are_weights_or⟩
def b_law_4 : Ss := (.cons (.asg true [1] (.lst .nil))
  (.cons (.forS true [2] (.rng (.num 9)) (.cons (.asg true [3] (.call 8 (.cons (.var 0) (.cons (.io 1) (.cons (.num 8) .nil)))))
  (.cons (.asg true [4] (.call 30 (.cons (.var 0) (.cons (.io 1) (.cons (.var 3) .nil)))))
  (.cons (.asg true [5] (.lst (.cons (.var 4) (.cons (.sl (.var 4) (.num 1) .non) (.cons (.bin .add (.var 4) (.tup (.cons (.tup (.cons (.num 1) (.cons (.num 2) .nil))) .nil))) (.cons (.bi .list (.var 4)) (.cons .non (.cons (.tup .nil) .nil))))))))
  (.cons (.asg true [5] (.bin .add (.var 5) (.lst (.cons (.call 7 (.cons (.var 0) (.cons (.io 1) (.cons (.var 4) .nil)))) .nil))))
  (.cons (.asg true [6] (.lst (.cons (.tup (.cons (.num 0) (.cons (.num 1) .nil))) (.cons (.tup (.cons (.num 0) (.cons (.num 2) .nil))) (.cons (.tup (.cons (.num 2) (.cons (.num 4) .nil))) (.cons (.tup (.cons (.num 7) (.cons (.num 3) .nil))) (.cons (.tup (.cons (.neg (.num 1)) (.cons (.num 2) .nil))) (.cons (.tup (.cons (.num 1) (.cons (.num 0) .nil))) (.cons (.tup (.cons (.num 1) (.cons (.neg (.num 2)) .nil))) (.cons (.tup (.cons (.bl true) (.cons (.num 2) .nil))) (.cons (.tup (.cons (.num 1) (.cons (.bl true) .nil))) .nil)))))))))))
  (.cons (.forS true [7] (.seq (.bin .add (.var 6) (.lst (.cons (.lst (.cons (.num 1) (.cons (.num 2) .nil))) (.cons .non (.cons (.num 1) (.cons (.tup (.cons (.num 1) .nil)) (.cons (.tup (.cons (.num 1) (.cons (.num 2) (.cons (.num 3) .nil)))) .nil)))))))) (.cons (.app 5 (.bin .add (.tup (.cons (.var 7) .nil)) (.sl (.var 4) (.num 1) .non)))
  .nil))
  (.cons (.app 5 (.call 7 (.cons (.var 0) (.cons (.io 1) (.cons (.call 7 (.cons (.var 0) (.cons (.io 1) (.cons (.var 4) .nil)))) .nil)))))
  (.cons (.forS true [8] (.seq (.var 5)) (.cons (.asg true [9] (.bool (.and (.val (.isi .tuple (.var 8))) (.cmp .eq (.bi .len (.var 8)) (.bi .len (.ix (.var 3) (.num 1)))))))
  (.cons (.iff (.cmp .ne (.call 28 (.cons (.var 3) (.cons (.var 8) .nil))) (.bool (.and (.val (.var 9)) (.cmp .eq (.lc (.var 7) [7] true (.seq (.var 8)) (.not (.val (.call 31 (.cons (.var 7) .nil)))) [7] false) (.lst .nil))))) (.cons (.ret (.bl false))
  .nil) .nil)
  .nil)))
  (.cons (.iff (.cmp .ne (.call 32 (.cons (.ix (.var 3) (.num 1)) (.cons (.var 4) .nil))) (.text "InvalidSurvey")) (.cons (.ret (.bl false))
  .nil) .nil)
  .nil))))))))))
  (.cons (.ret (.bl true))
  .nil)))
def d_law_4 : FDef := ⟨"law", ["script"], ["script", "state", "k", "survey", "weights", "things", "some", "one", "thing", "good"], [false], b_law_4⟩
def b_require_goal : Ss := (.cons (.exp (.call 12 (.cons (.var 0) .nil)))
  (.cons (.iff (.not (.val (.call 13 (.cons (.ix (.var 0) (.num 0)) (.cons (.var 1) .nil))))) (.cons (.raise 3)
  .nil) .nil)
  .nil))
def d_require_goal : FDef := ⟨"require_goal", ["survey", "goal"], ["survey", "goal"], [false, false], b_require_goal⟩
def b_lowest_terms : Ss := (.cons (.iff (.cmp .lt (.var 1) (.num 0)) (.cons (.par [0, 1] (.cons (.neg (.var 0)) (.cons (.neg (.var 1)) .nil)))
  .nil) .nil)
  (.cons (.asg true [2] (.call 24 (.cons (.bi .abs (.var 0)) (.cons (.var 1) .nil))))
  (.cons (.ret (.tup (.cons (.bin .fdiv (.var 0) (.var 2)) (.cons (.bin .fdiv (.var 1) (.var 2)) .nil))))
  .nil)))
def d_lowest_terms : FDef := ⟨"lowest_terms", ["top", "bottom"], ["top", "bottom", "divisor"], [false, false], b_lowest_terms⟩
def b_plus : Ss := (.cons (.ret (.call 37 (.cons (.bin .add (.bin .mul (.ix (.var 0) (.num 0)) (.ix (.var 1) (.num 1))) (.bin .mul (.ix (.var 1) (.num 0)) (.ix (.var 0) (.num 1)))) (.cons (.bin .mul (.ix (.var 0) (.num 1)) (.ix (.var 1) (.num 1))) .nil))))
  .nil)
def d_plus : FDef := ⟨"plus", ["one", "other"], ["one", "other"], [false, false], b_plus⟩
def b_times : Ss := (.cons (.ret (.call 37 (.cons (.bin .mul (.ix (.var 0) (.num 0)) (.ix (.var 1) (.num 0))) (.cons (.bin .mul (.ix (.var 0) (.num 1)) (.ix (.var 1) (.num 1))) .nil))))
  .nil)
def d_times : FDef := ⟨"times", ["one", "other"], ["one", "other"], [false, false], b_times⟩
def b_over : Ss := (.cons (.ret (.call 37 (.cons (.bin .mul (.ix (.var 0) (.num 0)) (.ix (.var 1) (.num 1))) (.cons (.bin .mul (.ix (.var 0) (.num 1)) (.ix (.var 1) (.num 0))) .nil))))
  .nil)
def d_over : FDef := ⟨"over", ["one", "other"], ["one", "other"], [false, false], b_over⟩
def b_total : Ss := (.cons (.asg true [1] (.tup (.cons (.num 0) (.cons (.num 1) .nil))))
  (.cons (.forS true [2] (.seq (.var 0)) (.cons (.asg true [1] (.call 38 (.cons (.var 1) (.cons (.var 2) .nil))))
  .nil))
  (.cons (.ret (.var 1))
  .nil)))
def d_total : FDef := ⟨"total", ["fractions"], ["fractions", "found", "one"], [false], b_total⟩
def b_whole : Ss := (.cons (.ret (.tup (.cons (.var 0) (.cons (.num 1) .nil))))
  .nil)
def d_whole : FDef := ⟨"whole", ["number"], ["number"], [false], b_whole⟩
def b_require_positive : Ss := (.cons (.iff (.not (.val (.call 27 (.cons (.var 0) (.cons (.var 1) .nil))))) (.cons (.raise 4)
  .nil) .nil)
  .nil)
def d_require_positive : FDef := ⟨"require_positive", ["survey", "weights"], ["survey", "weights"], [false, false], b_require_positive⟩
def b_group_sum : Ss := (.cons (.ret (.call 39 (.cons (.lc (.var 4) [4, 5] false (.zip (.var 1) (.ix (.var 0) (.num 1))) (.cmp .eq (.ix (.var 5) (.var 2)) (.var 3)) [4, 5] false) .nil)))
  .nil)
def d_group_sum : FDef := ⟨"group_sum", ["survey", "weights", "trait", "group"], ["survey", "weights", "trait", "group", "weight", "person"], [false, false, false, false], b_group_sum⟩
def b_stepped : Ss := (.cons (.asg true [4] (.lst .nil))
  (.cons (.forS false [5, 6] (.enm (.ix (.var 1) (.var 3))) (.cons (.asg true [7] (.call 42 (.cons (.var 0) (.cons (.var 2) (.cons (.var 3) (.cons (.var 5) .nil))))))
  (.cons (.iff (.and (.cmp .eq (.ix (.var 7) (.num 0)) (.num 0)) (.cmp .gt (.var 6) (.num 0))) (.cons (.raise 12)
  .nil) .nil)
  (.cons (.app 4 (.ite (.cmp .eq (.ix (.var 7) (.num 0)) (.num 0)) (.tup (.cons (.num 1) (.cons (.num 1) .nil))) (.call 153 (.cons (.call 40 (.cons (.var 6) .nil)) (.cons (.var 7) .nil)))))
  .nil))))
  (.cons (.ret (.bi .tuple (.lc (.call 82 (.cons (.var 8) (.cons (.ix (.var 4) (.ix (.var 9) (.var 3))) .nil))) [8, 9] false (.zip (.var 2) (.ix (.var 0) (.num 1))) .tt [8, 9] false)))
  .nil)))
def d_stepped : FDef := ⟨"stepped", ["survey", "goal", "weights", "trait"], ["survey", "goal", "weights", "trait", "factors", "group", "number", "own", "weight", "person"], [false, false, false, false], b_stepped⟩
def b_require_all : Ss := (.cons (.exp (.call 34 (.cons (.var 0) (.cons (.var 1) .nil))))
  (.cons (.exp (.call 170 (.cons (.var 0) (.cons (.var 2) .nil))))
  .nil))
def d_require_all : FDef := ⟨"require_all", ["survey", "goal", "weights"], ["survey", "goal", "weights"], [false, false, false], b_require_all⟩
def b_raked : Ss := (.cons (.exp (.call 172 (.cons (.var 0) (.cons (.var 1) (.cons (.var 2) .nil)))))
  (.cons (.iff (.not (.val (.call 1 (.cons (.var 3) (.cons (.num 0) (.cons (.bin .sub (.bi .len (.ix (.var 0) (.num 0))) (.num 1)) .nil)))))) (.cons (.raise 10)
  .nil) .nil)
  (.cons (.ret (.call 171 (.cons (.var 0) (.cons (.var 1) (.cons (.var 2) (.cons (.var 3) .nil))))))
  .nil)))
def d_raked : FDef := ⟨"raked", ["survey", "goal", "weights", "trait"], ["survey", "goal", "weights", "trait"], [false, false, false, false], b_raked⟩
def b_rounds : Ss := (.cons (.exp (.call 172 (.cons (.var 0) (.cons (.var 1) (.cons (.var 2) .nil)))))
  (.cons (.iff (.not (.val (.call 1 (.cons (.var 3) (.cons (.num 0) (.cons (.num 2) .nil)))))) (.cons (.raise 11)
  .nil) .nil)
  (.cons (.forS true [4] (.rng (.var 3)) (.cons (.forS true [5] (.rng (.bi .len (.ix (.var 0) (.num 0)))) (.cons (.asg true [2] (.call 171 (.cons (.var 0) (.cons (.var 1) (.cons (.var 2) (.cons (.var 5) .nil))))))
  .nil))
  .nil))
  (.cons (.ret (.var 2))
  .nil))))
def d_rounds : FDef := ⟨"rounds", ["survey", "goal", "weights", "number"], ["survey", "goal", "weights", "number", "turn", "trait"], [false, false, false, false], b_rounds⟩
def b__law_same : Ss := (.cons (.iff (.cmp .is (.var 1) .non) (.cons (.ret (.bool (.cmp .is (.var 0) .non)))
  .nil) .nil)
  (.cons (.iff (.val (.isi .bool (.var 1))) (.cons (.ret (.bool (.and (.val (.isi .bool (.var 0))) (.cmp .eq (.var 0) (.var 1)))))
  .nil) .nil)
  (.cons (.iff (.val (.isi .tuple (.var 1))) (.cons (.iff (.or (.not (.val (.isi .tuple (.var 0)))) (.cmp .ne (.bi .len (.var 0)) (.bi .len (.var 1)))) (.cons (.ret (.bl false))
  .nil) .nil)
  (.cons (.ret (.bi .all (.lc (.call 48 (.cons (.var 2) (.cons (.var 3) .nil))) [2, 3] false (.zip (.var 0) (.var 1)) .tt [2, 3] false)))
  .nil)) .nil)
  (.cons (.iff (.val (.isi .str (.var 1))) (.cons (.ret (.bool (.and (.val (.isi .str (.var 0))) (.cmp .eq (.var 0) (.var 1)))))
  .nil) .nil)
  (.cons (.ret (.bool (.and (.val (.isi .int (.var 0))) (.and (.not (.val (.isi .bool (.var 0)))) (.cmp .eq (.var 0) (.var 1))))))
  .nil)))))
def d__law_same : FDef := ⟨"_law_same", ["got", "due"], ["got", "due", "one", "other"], [false, false], b__law_same⟩
def b__law_plus : Ss := (.cons (.ret (.call 29 (.cons (.bin .add (.bin .mul (.ix (.var 0) (.num 0)) (.ix (.var 1) (.num 1))) (.bin .mul (.ix (.var 1) (.num 0)) (.ix (.var 0) (.num 1)))) (.cons (.bin .mul (.ix (.var 0) (.num 1)) (.ix (.var 1) (.num 1))) .nil))))
  .nil)
def d__law_plus : FDef := ⟨"_law_plus", ["one", "other"], ["one", "other"], [false, false], b__law_plus⟩
def b__law_times : Ss := (.cons (.ret (.call 29 (.cons (.bin .mul (.ix (.var 0) (.num 0)) (.ix (.var 1) (.num 0))) (.cons (.bin .mul (.ix (.var 0) (.num 1)) (.ix (.var 1) (.num 1))) .nil))))
  .nil)
def d__law_times : FDef := ⟨"_law_times", ["one", "other"], ["one", "other"], [false, false], b__law_times⟩
def b__law_total : Ss := (.cons (.asg true [1] (.tup (.cons (.num 0) (.cons (.num 1) .nil))))
  (.cons (.forS true [2] (.seq (.var 0)) (.cons (.asg true [1] (.call 50 (.cons (.var 1) (.cons (.var 2) .nil))))
  .nil))
  (.cons (.ret (.var 1))
  .nil)))
def d__law_total : FDef := ⟨"_law_total", ["rows"], ["rows", "found", "one"], [false], b__law_total⟩
def b__law_step : Ss := (.cons (.asg true [4] (.bi .list (.var 2)))
  (.cons (.forS true [5] (.rng (.ix (.ix (.var 0) (.num 0)) (.var 3))) (.cons (.asg true [6] (.lc (.var 7) [7] true (.rng (.bi .len (.var 2))) (.cmp .eq (.ix (.ix (.ix (.var 0) (.num 1)) (.var 7)) (.var 3)) (.var 5)) [7] false))
  (.cons (.par [8, 9] (.cons (.call 51 (.cons (.lc (.ix (.var 2) (.var 7)) [7] true (.seq (.var 6)) .tt [7] false) .nil)) (.cons (.ix (.ix (.var 1) (.var 3)) (.var 5)) .nil)))
  (.cons (.iff (.and (.cmp .eq (.ix (.var 8) (.num 0)) (.num 0)) (.cmp .gt (.var 9) (.num 0))) (.cons (.ret (.text "EmptyGroup"))
  .nil) .nil)
  (.cons (.iff (.cmp .gt (.ix (.var 8) (.num 0)) (.num 0)) (.cons (.forS true [7] (.seq (.var 6)) (.cons (.set 4 (.var 7) (.call 71 (.cons (.ix (.var 2) (.var 7)) (.cons (.call 29 (.cons (.bin .mul (.var 9) (.ix (.var 8) (.num 1))) (.cons (.ix (.var 8) (.num 0)) .nil))) .nil))))
  .nil))
  .nil) .nil)
  .nil)))))
  (.cons (.ret (.bi .tuple (.var 4)))
  .nil)))
def d__law_step : FDef := ⟨"_law_step", ["survey", "goal", "weights", "trait"], ["survey", "goal", "weights", "trait", "found", "group", "spots", "spot", "own", "number"], [false, false, false, false], b__law_step⟩
def b__law_round : Ss := (.cons (.forS true [3] (.rng (.bi .len (.ix (.var 0) (.num 0)))) (.cons (.iff (.cmp .ne (.var 2) (.text "EmptyGroup")) (.cons (.asg true [2] (.call 175 (.cons (.var 0) (.cons (.var 1) (.cons (.var 2) (.cons (.var 3) .nil))))))
  .nil) .nil)
  .nil))
  (.cons (.ret (.var 2))
  .nil))
def d__law_round : FDef := ⟨"_law_round", ["survey", "goal", "weights"], ["survey", "goal", "weights", "trait"], [false, false, false], b__law_round⟩
def b__law_refused_5 : Ss := (.cons (.forS true [3] (.seq (.lst (.cons (.sl (.var 2) (.num 1) .non) (.cons (.bi .list (.var 2)) (.cons (.bin .add (.tup (.cons (.tup (.cons (.neg (.num 1)) (.cons (.num 2) .nil))) .nil)) (.sl (.var 2) (.num 1) .non)) (.cons (.bin .add (.tup (.cons (.tup (.cons (.num 2) (.cons (.num 4) .nil))) .nil)) (.sl (.var 2) (.num 1) .non)) (.cons .non .nil))))))) (.cons (.iff (.cmp .ne (.call 178 (.cons (.var 0) (.cons (.var 1) (.cons (.var 3) (.cons (.num 9) .nil))))) (.text "InvalidWeights")) (.cons (.ret (.bl false))
  .nil) .nil)
  (.cons (.iff (.cmp .ne (.call 179 (.cons (.var 0) (.cons (.var 1) (.cons (.var 3) (.cons (.num 9) .nil))))) (.text "InvalidWeights")) (.cons (.ret (.bl false))
  .nil) .nil)
  .nil)))
  (.cons (.forS true [3] (.seq (.lst (.cons (.neg (.num 1)) (.cons (.bi .len (.ix (.var 0) (.num 0))) (.cons .non (.cons (.bl true) (.cons (.text "0") .nil))))))) (.cons (.iff (.cmp .ne (.call 178 (.cons (.var 0) (.cons (.var 1) (.cons (.var 2) (.cons (.var 3) .nil))))) (.text "InvalidTrait")) (.cons (.ret (.bl false))
  .nil) .nil)
  .nil))
  (.cons (.forS true [3] (.seq (.lst (.cons (.neg (.num 1)) (.cons (.num 3) (.cons .non (.cons (.bl true) (.cons (.text "1") .nil))))))) (.cons (.iff (.cmp .ne (.call 179 (.cons (.var 0) (.cons (.var 1) (.cons (.var 2) (.cons (.var 3) .nil))))) (.text "InvalidNumber")) (.cons (.ret (.bl false))
  .nil) .nil)
  .nil))
  (.cons (.iff (.cmp .ne (.call 178 (.cons (.var 0) (.cons (.num 1) (.cons (.num 1) (.cons (.num 1) .nil))))) (.text "InvalidGoal")) (.cons (.ret (.bl false))
  .nil) .nil)
  (.cons (.iff (.cmp .ne (.call 179 (.cons (.tup .nil) (.cons (.num 1) (.cons (.num 1) (.cons (.num 1) .nil))))) (.text "InvalidSurvey")) (.cons (.ret (.bl false))
  .nil) .nil)
  (.cons (.ret (.bool (.and (.cmp .eq (.call 178 (.cons (.num 1) (.cons (.num 1) (.cons (.num 1) (.cons (.num 1) .nil))))) (.text "InvalidSurvey")) (.cmp .eq (.call 179 (.cons (.var 0) (.cons (.sl (.var 1) (.num 1) .non) (.cons (.num 1) (.cons (.num 1) .nil))))) (.text "InvalidGoal")))))
  .nil))))))
def d__law_refused_5 : FDef := ⟨"_law_refused", ["survey", "goal", "weights"], ["survey", "goal", "weights", "wrong"], [false, false, false], b__law_refused_5⟩
def b__law_raked_or : Ss := (.cons (.tryS (.cons (.ret (.call 173 (.cons (.var 0) (.cons (.var 1) (.cons (.var 2) (.cons (.var 3) .nil))))))
  .nil) [(1, "InvalidSurvey"), (3, "InvalidGoal"), (4, "InvalidWeights"), (10, "InvalidTrait"), (12, "EmptyGroup")])
  .nil)
def d__law_raked_or : FDef := ⟨"_law_raked_or", ["survey", "goal", "weights", "trait"], ["survey", "goal", "weights", "trait"], [false, false, false, false], b__law_raked_or⟩
def b__law_rounds_or : Ss := (.cons (.tryS (.cons (.ret (.call 174 (.cons (.var 0) (.cons (.var 1) (.cons (.var 2) (.cons (.var 3) .nil))))))
  .nil) [(1, "InvalidSurvey"), (3, "InvalidGoal"), (4, "InvalidWeights"), (11, "InvalidNumber"), (12, "EmptyGroup")])
  .nil)
def d__law_rounds_or : FDef := ⟨"_law_rounds_or", ["survey", "goal", "weights", "number"], ["survey", "goal", "weights", "number"], [false, false, false, false], b__law_rounds_or⟩
def b_law_18 : Ss := (.cons (.asg true [1] (.lst .nil))
  (.cons (.forS true [2] (.rng (.num 8)) (.cons (.asg true [3] (.call 8 (.cons (.var 0) (.cons (.io 1) (.cons (.num 7) .nil)))))
  (.cons (.par [4, 5] (.cons (.call 15 (.cons (.var 0) (.cons (.io 1) (.cons (.var 3) .nil)))) (.cons (.call 30 (.cons (.var 0) (.cons (.io 1) (.cons (.var 3) .nil)))) .nil)))
  (.cons (.iff (.val (.bin .mod (.var 2) (.num 2))) (.cons (.asg true [5] (.bi .tuple (.lc (.tup (.cons (.bin .add (.num 1) (.call 5 (.cons (.var 0) (.cons (.io 1) (.cons (.num 5) .nil))))) (.cons (.num 1) .nil))) [6] true (.seq (.ix (.var 3) (.num 1))) .tt [6] false)))
  .nil) .nil)
  (.cons (.forS true [7] (.rng (.bi .len (.ix (.var 3) (.num 0)))) (.cons (.asg true [8] (.call 175 (.cons (.var 3) (.cons (.var 4) (.cons (.var 5) (.cons (.var 7) .nil))))))
  (.cons (.iff (.not (.val (.call 48 (.cons (.call 178 (.cons (.var 3) (.cons (.var 4) (.cons (.var 5) (.cons (.var 7) .nil))))) (.cons (.var 8) .nil))))) (.cons (.ret (.bl false))
  .nil) .nil)
  .nil)))
  (.cons (.asg true [9] (.var 5))
  (.cons (.forS true [10] (.rng (.num 3)) (.cons (.iff (.not (.val (.call 48 (.cons (.call 179 (.cons (.var 3) (.cons (.var 4) (.cons (.var 5) (.cons (.var 10) .nil))))) (.cons (.var 9) .nil))))) (.cons (.ret (.bl false))
  .nil) .nil)
  (.cons (.asg true [9] (.ite (.cmp .ne (.var 9) (.text "EmptyGroup")) (.call 176 (.cons (.var 3) (.cons (.var 4) (.cons (.var 9) .nil)))) (.var 9)))
  .nil)))
  (.cons (.iff (.not (.val (.call 177 (.cons (.var 3) (.cons (.var 4) (.cons (.var 5) .nil)))))) (.cons (.ret (.bl false))
  .nil) .nil)
  .nil))))))))
  (.cons (.ret (.bl true))
  .nil)))
def d_law_18 : FDef := ⟨"law", ["script"], ["script", "state", "k", "survey", "goal", "weights", "person", "trait", "due_e", "due", "number"], [false], b_law_18⟩
def b_require_numbers : Ss := (.cons (.iff (.not (.val (.call 26 (.cons (.var 0) (.cons (.var 1) .nil))))) (.cons (.raise 4)
  .nil) .nil)
  .nil)
def d_require_numbers : FDef := ⟨"require_numbers", ["survey", "weights"], ["survey", "weights"], [false, false], b_require_numbers⟩
def b_effective_size : Ss := (.cons (.exp (.call 12 (.cons (.var 0) .nil)))
  (.cons (.exp (.call 170 (.cons (.var 0) (.cons (.var 1) .nil))))
  (.cons (.par [2, 3] (.cons (.call 39 (.cons (.var 1) .nil)) (.cons (.call 39 (.cons (.lc (.call 82 (.cons (.var 4) (.cons (.var 4) .nil))) [4] true (.seq (.var 1)) .tt [4] false) .nil)) .nil)))
  (.cons (.ret (.ite (.cmp .eq (.ix (.var 3) (.num 0)) (.num 0)) (.tup (.cons (.num 0) (.cons (.num 1) .nil))) (.call 153 (.cons (.call 82 (.cons (.var 2) (.cons (.var 2) .nil))) (.cons (.var 3) .nil)))))
  .nil))))
def d_effective_size : FDef := ⟨"effective_size", ["survey", "weights"], ["survey", "weights", "own", "squares", "one"], [false, false], b_effective_size⟩
def b_survey_text : Ss := (.cons (.asg true [1] (.bin .add (.lst (.cons (.ix (.var 0) (.num 0)) .nil)) (.bi .list (.ix (.var 0) (.num 1)))))
  (.cons (.ret (.bi (.join "") (.lc (.bin .add (.bi (.join " ") (.lc (.bi .str (.var 2)) [2] true (.seq (.var 3)) .tt [2] false)) (.text "\n")) [3] true (.seq (.var 1)) .tt [3] false)))
  .nil))
def d_survey_text : FDef := ⟨"survey_text", ["survey"], ["survey", "rows", "number", "row"], [false], b_survey_text⟩
def b_format_survey : Ss := (.cons (.exp (.call 12 (.cons (.var 0) .nil)))
  (.cons (.ret (.call 248 (.cons (.var 0) .nil)))
  .nil))
def d_format_survey : FDef := ⟨"format_survey", ["survey"], ["survey"], [false], b_format_survey⟩
def b_weight_text : Ss := (.cons (.ret (.ite (.cmp .eq (.ix (.var 0) (.num 1)) (.num 1)) (.bi .str (.ix (.var 0) (.num 0))) (.bin .add (.bin .add (.bi .str (.ix (.var 0) (.num 0))) (.text "/")) (.bi .str (.ix (.var 0) (.num 1))))))
  .nil)
def d_weight_text : FDef := ⟨"weight_text", ["weight"], ["weight"], [false], b_weight_text⟩
def b_is_long : Ss := (.cons (.ret (.bool (.cmp .ge (.bi .abs (.var 0)) (.bi .int (.bin .add (.text "1") (.bin .mul (.text "0") (.num 50)))))))
  .nil)
def d_is_long : FDef := ⟨"is_long", ["number"], ["number"], [false], b_is_long⟩
def b_weights_text : Ss := (.cons (.ret (.bi (.join " ") (.lc (.call 250 (.cons (.var 1) .nil)) [1] true (.seq (.var 0)) .tt [1] false)))
  .nil)
def d_weights_text : FDef := ⟨"weights_text", ["weights"], ["weights", "weight"], [false], b_weights_text⟩
def b_format_weights : Ss := (.cons (.exp (.call 12 (.cons (.var 0) .nil)))
  (.cons (.exp (.call 41 (.cons (.var 0) (.cons (.var 1) .nil))))
  (.cons (.iff (.val (.bi .any (.lc (.bool (.or (.val (.call 251 (.cons (.var 2) .nil))) (.val (.call 251 (.cons (.var 3) .nil))))) [2, 3] false (.seq (.var 1)) .tt [2, 3] false))) (.cons (.raise 15)
  .nil) .nil)
  (.cons (.ret (.call 252 (.cons (.var 1) .nil)))
  .nil))))
def d_format_weights : FDef := ⟨"format_weights", ["survey", "weights"], ["survey", "weights", "top", "bottom"], [false, false], b_format_weights⟩
def b__law_format_weights_or : Ss := (.cons (.tryS (.cons (.ret (.call 253 (.cons (.var 0) (.cons (.var 1) .nil))))
  .nil) [(1, "InvalidSurvey"), (4, "InvalidWeights"), (15, "TooLarge")])
  .nil)
def d__law_format_weights_or : FDef := ⟨"_law_format_weights_or", ["survey", "weights"], ["survey", "weights"], [false, false], b__law_format_weights_or⟩
def b__law_effective_size_or : Ss := (.cons (.tryS (.cons (.ret (.call 247 (.cons (.var 0) (.cons (.var 1) .nil))))
  .nil) [(1, "InvalidSurvey"), (4, "InvalidWeights")])
  .nil)
def d__law_effective_size_or : FDef := ⟨"_law_effective_size_or", ["survey", "weights"], ["survey", "weights"], [false, false], b__law_effective_size_or⟩
def b__law_format_survey_or : Ss := (.cons (.tryS (.cons (.ret (.call 249 (.cons (.var 0) .nil)))
  .nil) [(1, "InvalidSurvey")])
  .nil)
def d__law_format_survey_or : FDef := ⟨"_law_format_survey_or", ["survey"], ["survey"], [false], b__law_format_survey_or⟩
def b__law_refused_8 : Ss := (.cons (.asg true [2] (.bi .int (.bin .add (.text "1") (.bin .mul (.text "0") (.num 50)))))
  (.cons (.forS true [3] (.seq (.lst (.cons (.tup (.cons (.var 2) (.cons (.num 1) .nil))) (.cons (.tup (.cons (.neg (.var 2)) (.cons (.num 1) .nil))) (.cons (.tup (.cons (.num 1) (.cons (.var 2) .nil))) .nil))))) (.cons (.iff (.cmp .ne (.call 254 (.cons (.var 0) (.cons (.bin .add (.tup (.cons (.var 3) .nil)) (.sl (.var 1) (.num 1) .non)) .nil))) (.text "TooLarge")) (.cons (.ret (.bl false))
  .nil) .nil)
  .nil))
  (.cons (.iff (.cmp .eq (.call 254 (.cons (.var 0) (.cons (.bin .add (.tup (.cons (.tup (.cons (.bin .sub (.var 2) (.num 1)) (.cons (.num 1) .nil))) .nil)) (.sl (.var 1) (.num 1) .non)) .nil))) (.text "TooLarge")) (.cons (.ret (.bl false))
  .nil) .nil)
  (.cons (.iff (.cmp .ne (.call 255 (.cons (.var 0) (.cons (.bin .add (.tup (.cons (.tup (.cons (.neg (.num 1)) (.cons (.num 2) .nil))) .nil)) (.sl (.var 1) (.num 1) .non)) .nil))) (.text "InvalidWeights")) (.cons (.ret (.bl false))
  .nil) .nil)
  (.cons (.iff (.cmp .ne (.call 254 (.cons (.var 0) (.cons (.sl (.var 1) (.num 1) .non) .nil))) (.text "InvalidWeights")) (.cons (.ret (.bl false))
  .nil) .nil)
  (.cons (.iff (.cmp .ne (.call 256 (.cons (.ix (.var 0) (.num 1)) .nil)) (.text "InvalidSurvey")) (.cons (.ret (.bl false))
  .nil) .nil)
  (.cons (.iff (.cmp .ne (.call 255 (.cons (.tup .nil) (.cons (.num 1) .nil))) (.text "InvalidSurvey")) (.cons (.ret (.bl false))
  .nil) .nil)
  (.cons (.ret (.bool (.cmp .eq (.call 254 (.cons (.num 1) (.cons (.num 1) .nil))) (.text "InvalidSurvey"))))
  .nil))))))))
def d__law_refused_8 : FDef := ⟨"_law_refused", ["survey", "weights"], ["survey", "weights", "long", "one"], [false, false], b__law_refused_8⟩
def b_law_29 : Ss := (.cons (.asg true [1] (.lst .nil))
  (.cons (.forS true [2] (.rng (.num 9)) (.cons (.asg true [3] (.call 8 (.cons (.var 0) (.cons (.io 1) (.cons (.num 8) .nil)))))
  (.cons (.asg true [4] (.call 30 (.cons (.var 0) (.cons (.io 1) (.cons (.var 3) .nil)))))
  (.cons (.par [5, 6] (.cons (.call 51 (.cons (.var 4) .nil)) (.cons (.call 51 (.cons (.lc (.call 71 (.cons (.var 7) (.cons (.var 7) .nil))) [7] true (.seq (.var 4)) .tt [7] false) .nil)) .nil)))
  (.cons (.asg true [8] (.tup (.cons (.num 0) (.cons (.num 1) .nil))))
  (.cons (.iff (.cmp .gt (.ix (.var 6) (.num 0)) (.num 0)) (.cons (.asg true [8] (.call 29 (.cons (.bin .mul (.bin .mul (.ix (.var 5) (.num 0)) (.ix (.var 5) (.num 0))) (.ix (.var 6) (.num 1))) (.cons (.bin .mul (.bin .mul (.ix (.var 5) (.num 1)) (.ix (.var 5) (.num 1))) (.ix (.var 6) (.num 0))) .nil))))
  .nil) .nil)
  (.cons (.iff (.not (.val (.call 48 (.cons (.call 247 (.cons (.var 3) (.cons (.var 4) .nil))) (.cons (.var 8) .nil))))) (.cons (.ret (.bl false))
  .nil) .nil)
  (.cons (.asg true [9] (.bi .tuple (.lc (.ite (.cmp .eq (.call 5 (.cons (.var 0) (.cons (.io 1) (.cons (.num 3) .nil)))) (.num 0)) (.tup (.cons (.neg (.ix (.var 7) (.num 0))) (.cons (.ix (.var 7) (.num 1)) .nil))) (.var 7)) [7] true (.seq (.var 4)) .tt [7] false)))
  (.cons (.asg true [10] (.text ""))
  (.cons (.forS true [7] (.seq (.var 9)) (.cons (.asg true [10] (.bin .add (.bin .add (.var 10) (.bin .mul (.text " ") (.bi .int (.bool (.cmp .ne (.var 10) (.text "")))))) (.bi .str (.ix (.var 7) (.num 0)))))
  (.cons (.iff (.cmp .gt (.ix (.var 7) (.num 1)) (.num 1)) (.cons (.asg true [10] (.bin .add (.bin .add (.var 10) (.text "/")) (.bi .str (.ix (.var 7) (.num 1)))))
  .nil) .nil)
  .nil)))
  (.cons (.iff (.cmp .ne (.call 253 (.cons (.var 3) (.cons (.var 9) .nil))) (.var 10)) (.cons (.ret (.bl false))
  .nil) .nil)
  (.cons (.asg true [10] (.text ""))
  (.cons (.forS true [11] (.seq (.bin .add (.tup (.cons (.ix (.var 3) (.num 0)) .nil)) (.ix (.var 3) (.num 1)))) (.cons (.asg true [12] (.text ""))
  (.cons (.forS true [13] (.seq (.var 11)) (.cons (.asg true [12] (.bin .add (.bin .add (.var 12) (.bin .mul (.text " ") (.bi .int (.bool (.cmp .ne (.var 12) (.text "")))))) (.bi .str (.var 13))))
  .nil))
  (.cons (.asg true [10] (.bin .add (.bin .add (.var 10) (.var 12)) (.text "\n")))
  .nil))))
  (.cons (.iff (.cmp .ne (.call 249 (.cons (.var 3) .nil)) (.var 10)) (.cons (.ret (.bl false))
  .nil) .nil)
  (.cons (.iff (.not (.val (.call 257 (.cons (.var 3) (.cons (.var 4) .nil))))) (.cons (.ret (.bl false))
  .nil) .nil)
  .nil)))))))))))))))
  (.cons (.ret (.bl true))
  .nil)))
def d_law_29 : FDef := ⟨"law", ["script"], ["script", "state", "k", "survey", "weights", "own", "squares", "one", "due", "signed", "text", "row", "line", "number"], [false], b_law_29⟩
end Z

set_option maxRecDepth 100000
set_option linter.all false
namespace Z
open PySem
def inR (d : D) (l m : Int) : Bool := match d with
  | .int i => decide (l ≤ i) && decide (i ≤ m)
  | _ => false
section
variable {tb : Tbl} {n : Nat}
theorem is_integer_ok {c : D} {l m : Int} (h : tb.fns.lookup 1 = some d_is_integer) (hn : 1 ≤ n) : callD tb n 1 [.sh c, .sh (.int l), .sh (.int m)] = .ok (.sh (.bool (inR c l m))) [] := by
  obtain ⟨n, rfl⟩ : ∃ m, n = m + 1 := ⟨n - 1, by omega⟩
  rw [callD_of h rfl]
  cases c with
  | int i =>
    by_cases h1 : l ≤ i <;> simp [d_is_integer, b_is_integer, startE, outsOf, ioIx, isiD, inR, spure, h1]
  | _ => simp [d_is_integer, b_is_integer, startE, outsOf, ioIx, isiD, inR, spure]
def areSizes (d : D) : Bool := match d with
  | .tuple ds => decide (1 ≤ ds.length) && decide (ds.length ≤ 3) && ds.all fun d => inR d 1 3
  | _ => false
theorem map_all {ds : List D} {f : D → Bool} : biT .all (ol (ds.map fun d => PyData.bool (f d))) = some (.sh (.bool (ds.all f))) := by
  rw [show (ds.map fun d => PyData.bool (f d)) = (ds.map f).map PyData.bool by simp]
  rw [bi_all]
  simp [List.all_map]
theorem are_sizes_ok {c : D} (h1 : tb.fns.lookup 1 = some d_is_integer) (h2 : tb.fns.lookup 2 = some d_are_sizes) (hn : 2 ≤ n) : callD tb n 2 [.sh c] = .ok (.sh (.bool (areSizes c))) [] := by
  obtain ⟨n, rfl⟩ : ∃ m, n = m + 1 := ⟨n - 1, by omega⟩
  rw [callD_of h2 rfl]
  cases c with
  | tuple ds =>
    by_cases a1 : 1 ≤ ds.length
    · by_cases a2 : ds.length ≤ 3
      · have hk : lcK (callD tb n) (.call 1 (.cons (.var 1) (.cons (.num 1) (.cons (.num 3) .nil)))) [1] true .tt [1] false ds [some (.sh (.tuple ds)), none] = .ok (.t (ol (ds.map fun d => .bool (inR d 1 3)))) [some (.sh (.tuple ds)), none] := by
          refine lcK_map _ _ (by omega) fun d _ => ?_
          simp [is_integer_ok h1 (show 1 ≤ n by omega)]
        simp [d_are_sizes, b_are_sizes, startE, outsOf, ioIx, isiD, spure, ev_lc, hk, map_all, areSizes, show (1 : Int) ≤ ds.length by omega, show (ds.length : Int) ≤ 3 by omega, a1, a2]
      · simp [d_are_sizes, b_are_sizes, startE, outsOf, ioIx, isiD, spure, areSizes, show (1 : Int) ≤ ds.length by omega, show ¬ (ds.length : Int) ≤ 3 by omega, a1, a2]
    · simp [d_are_sizes, b_are_sizes, startE, outsOf, ioIx, isiD, spure, areSizes, show ¬ (1 : Int) ≤ ds.length by omega, a1]
  | _ => simp [d_are_sizes, b_are_sizes, startE, outsOf, ioIx, isiD, spure, areSizes]
/-- ints -/
abbrev ints' (is : List Int) : List D := is.map PyData.int
theorem inR_int {d : D} {l m : Int} (h : inR d l m = true) : ∃ i, d = .int i ∧ l ≤ i ∧ i ≤ m := by
  cases d <;> simp [inR] at h
  rename_i i
  exact ⟨i, rfl, h⟩
theorem all_inR {l m : Int} : ∀ {ds : List D}, (ds.all fun d => inR d l m) = true → ∃ is : List Int, ds = is.map PyData.int ∧ ∀ i ∈ is, l ≤ i ∧ i ≤ m
  | [], _ => ⟨[], rfl, fun i h => by cases h⟩
  | d :: ds, h => by
    rw [List.all_cons, Bool.and_eq_true] at h
    obtain ⟨i, rfl, h1⟩ := inR_int h.1
    obtain ⟨is, rfl, h2⟩ := all_inR h.2
    exact ⟨i :: is, rfl, fun j hj => by
      rcases List.mem_cons.mp hj with rfl | hj
      · exact h1
      · exact h2 j hj⟩
theorem areSizes_of {d : D} (h : areSizes d = true) : ∃ ss : List Int, d = .tuple (ss.map PyData.int) ∧ 1 ≤ ss.length ∧ ss.length ≤ 3 ∧ ∀ s ∈ ss, 1 ≤ s ∧ s ≤ 3 := by
  cases d <;> simp [areSizes] at h
  rename_i ds
  obtain ⟨is, rfl, hi⟩ := all_inR (ds := ds) (l := 1) (m := 3) (by simpa using h.2)
  simp at h
  exact ⟨is, rfl, by omega, by omega, hi⟩
def isKind (ss : List Int) (d : D) : Bool := match d with
  | .tuple ds => decide (ds.length = ss.length) && (ds.zip ss).all fun p => inR p.1 0 (p.2 - 1)
  | _ => false
def grp (p : D) : Bool := match p with
  | .tuple [g, .int s] => inR g 0 (s - 1)
  | _ => false
theorem zip_grp : ∀ (ds : List D) (ss : List Int), (zipD ds (ss.map PyData.int)).all grp = (ds.zip ss).all fun p => inR p.1 0 (p.2 - 1)
  | [], _ => by unfold zipD; simp
  | _ :: _, [] => by unfold zipD; simp
  | d :: ds, s :: ss => by
    rw [List.map_cons, zipD, List.all_cons, zip_grp ds ss]
    rfl
theorem is_kind_ok {ss : List Int} {c : D} (hs : ss.length ≤ 3) (h1 : tb.fns.lookup 1 = some d_is_integer) (h3 : tb.fns.lookup 3 = some d_is_kind) (hn : 2 ≤ n) : callD tb n 3 [.sh (.tuple (ss.map PyData.int)), .sh c] = .ok (.sh (.bool (isKind ss c))) [] := by
  obtain ⟨n, rfl⟩ : ∃ m, n = m + 1 := ⟨n - 1, by omega⟩
  rw [callD_of h3 rfl]
  cases c with
  | tuple ds =>
    by_cases a1 : ds.length = ss.length
    · have hk : lcK (callD tb n) (.call 1 (.cons (.var 2) (.cons (.num 0) (.cons (.bin .sub (.var 3) (.num 1)) .nil)))) [2, 3] false .tt [2, 3] false (zipD ds (ss.map PyData.int)) [some (.sh (.tuple (ss.map PyData.int))), some (.sh (.tuple ds)), none, none] = .ok (.t (ol ((zipD ds (ss.map PyData.int)).map fun p => .bool (grp p)))) [some (.sh (.tuple (ss.map PyData.int))), some (.sh (.tuple ds)), none, none] := by
        refine lcK_map _ _ (by rw [zipD_len]; simp; omega) fun p hp => ?_
        obtain ⟨a, b, rfl, _, hb⟩ := mem_zipD hp
        obtain ⟨s, _, rfl⟩ := List.mem_map.mp hb
        simp [is_integer_ok h1 (show 1 ≤ n by omega), spure, grp]
      simp [d_is_kind, b_is_kind, startE, outsOf, ioIx, isiD, spure, ev_lc, hk, map_all, isKind, a1, zip_grp]
    · simp [d_is_kind, b_is_kind, startE, outsOf, ioIx, isiD, spure, isKind, a1, show ¬ (ds.length : Int) = ss.length by omega]
  | _ => simp [d_is_kind, b_is_kind, startE, outsOf, ioIx, isiD, spure, isKind]
def szs (d : D) : List Int := match d with
  | .tuple ds => ds.filterMap fun d => match d with
    | .int i => some i
    | _ => none
  | _ => []
theorem szs_map {is : List Int} : szs (.tuple (is.map PyData.int)) = is := by
  unfold szs
  simp [List.filterMap_map]
  exact List.filterMap_some
def arePeople (ss : List Int) (d : D) : Bool := match d with
  | .tuple ps => decide (1 ≤ ps.length) && decide (ps.length ≤ 8) && ps.all (isKind ss)
  | _ => false
def isSurvey (d : D) : Bool := match d with
  | .tuple [a, b] => areSizes a && arePeople (szs a) b
  | _ => false
theorem isSurvey_len {ds : List D} (h : ds.length ≠ 2) : isSurvey (.tuple ds) = false := by
  match ds, h with
  | [], _ => rfl
  | [_], _ => rfl
  | [_, _], h => exact absurd rfl h
  | _ :: _ :: _ :: _, _ => rfl
theorem is_survey_ok {c : D} (h1 : tb.fns.lookup 1 = some d_is_integer) (h2 : tb.fns.lookup 2 = some d_are_sizes) (h3 : tb.fns.lookup 3 = some d_is_kind) (h4 : tb.fns.lookup 4 = some d_is_survey) (hn : 3 ≤ n) : callD tb n 4 [.sh c] = .ok (.sh (.bool (isSurvey c))) [] := by
  obtain ⟨n, rfl⟩ : ∃ m, n = m + 1 := ⟨n - 1, by omega⟩
  rw [callD_of h4 rfl]
  cases c with
  | tuple ds =>
    by_cases hl : ds.length = 2
    case neg => simp [d_is_survey, b_is_survey, startE, outsOf, ioIx, isiD, spure, isSurvey_len hl, show ¬ (ds.length : Int) = 2 by omega]
    match ds, hl with
    | [a, b], _ =>
      have i0 : ixD (.list [a, b]) 0 = some a := rfl
      cases ha : areSizes a with
      | false => simp [d_is_survey, b_is_survey, startE, outsOf, ioIx, isiD, spure, isSurvey, i0, are_sizes_ok h1 h2 (show 2 ≤ n by omega), ha]
      | true =>
        obtain ⟨ss, rfl, s1, s2, s3⟩ := areSizes_of ha
        cases b with
        | tuple ps =>
          by_cases a1 : 1 ≤ ps.length
          · by_cases a2 : ps.length ≤ 8
            · have hk : lcK (callD tb n) (.call 3 (.cons (.var 1) (.cons (.var 3) .nil))) [3] true .tt [3] false ps [some (.sh (.tuple [.tuple (ss.map PyData.int), .tuple ps])), some (.sh (.tuple (ss.map PyData.int))), some (.sh (.tuple ps)), none] = .ok (.t (ol (ps.map fun d => .bool (isKind ss d)))) [some (.sh (.tuple [.tuple (ss.map PyData.int), .tuple ps])), some (.sh (.tuple (ss.map PyData.int))), some (.sh (.tuple ps)), none] := by
                refine lcK_map _ _ (by omega) fun d _ => ?_
                simp [is_kind_ok s2 h1 h3 (show 2 ≤ n by omega)]
              simp [d_is_survey, b_is_survey, startE, outsOf, ioIx, isiD, spure, isSurvey, i0, are_sizes_ok h1 h2 (show 2 ≤ n by omega), ha, ev_lc, hk, map_all, arePeople, szs_map, show (1 : Int) ≤ ps.length by omega, show (ps.length : Int) ≤ 8 by omega, a1, a2]
            · simp [d_is_survey, b_is_survey, startE, outsOf, ioIx, isiD, spure, isSurvey, i0, are_sizes_ok h1 h2 (show 2 ≤ n by omega), ha, arePeople, show (1 : Int) ≤ ps.length by omega, show ¬ (ps.length : Int) ≤ 8 by omega, a1, a2]
          · simp [d_is_survey, b_is_survey, startE, outsOf, ioIx, isiD, spure, isSurvey, i0, are_sizes_ok h1 h2 (show 2 ≤ n by omega), ha, arePeople, show ¬ (1 : Int) ≤ ps.length by omega, a1]
        | _ => simp [d_is_survey, b_is_survey, startE, outsOf, ioIx, isiD, spure, isSurvey, i0, are_sizes_ok h1 h2 (show 2 ≤ n by omega), ha, arePeople]
  | _ => simp [d_is_survey, b_is_survey, startE, outsOf, ioIx, isiD, spure, isSurvey]
end
end Z

set_option maxRecDepth 100000
set_option linter.all false
namespace Z
open PySem
theorem log2_small {n : Nat} (h : n < 2 ^ 70) : n.log2 < 70 := by
  by_cases h0 : n = 0
  · subst h0; decide
  · exact (Nat.log2_lt h0).mpr h
theorem mulOk_of {i j : Int} (hi : i.natAbs < 2 ^ 70) (hj : j.natAbs < 2 ^ 70) : mulOk i j = true := by
  unfold mulOk
  have := log2_small hi
  have := log2_small hj
  exact decide_eq_true (by omega)
theorem fmod_range {i m : Int} (h : 0 < m) : 0 ≤ i.fmod m ∧ i.fmod m < m := ⟨Int.fmod_nonneg_of_pos i h, Int.fmod_lt_of_pos i h⟩
/-- the draws' state: at most so long -/
def StOk (L : Nat) (t : T) : Prop := ∃ st : List D, t = ol st ∧ st.length ≤ L ∧ (st = [] ∨ ∃ (a : Int) (r : List D), st = .int a :: r ∧ 0 ≤ a)
theorem StOk.mono {L M : Nat} {t : T} (h : StOk L t) (hl : L ≤ M) : StOk M t := by
  obtain ⟨st, e, l, r⟩ := h
  exact ⟨st, e, by omega, r⟩
theorem stOk_nil : StOk 0 (ol []) := ⟨[], rfl, Nat.le_refl _, .inl rfl⟩
@[simp] theorem ixD_zero {x : D} {xs : List D} : ixD (.list (x :: xs)) 0 = some x := by
  show ((L2.ixN (x :: xs).length 0).bind fun j => (x :: xs)[j]?) = _
  have : L2.ixN (x :: xs).length 0 = some 0 := by unfold L2.ixN; simp
  rw [this]
  rfl
theorem ixD_int {ds : List D} {j : Int} (h0 : 0 ≤ j) (h : j < ds.length) : ixD (.list ds) j = ds[j.toNat]? := by
  have := ixD_nat (ds := ds) (j := j.toNat) (by omega)
  rwa [Int.toNat_of_nonneg h0] at this
theorem maxI_some : ∀ (is : List Int), is ≠ [] → ∃ m, maxI is = some m ∧ m ∈ is ∧ ∀ i ∈ is, i ≤ m
  | [], h => absurd rfl h
  | [i], _ => ⟨i, rfl, List.mem_cons_self, fun j hj => by simp at hj; omega⟩
  | i :: j :: is, _ => by
    obtain ⟨m, e, hm, hle⟩ := maxI_some (j :: is) (by simp)
    refine ⟨if m > i then m else i, ?_, ?_, ?_⟩
    · show (match maxI (j :: is) with | some m => some (if m > i then m else i) | none => none) = _
      rw [e]
    · split
      · exact List.mem_cons_of_mem _ hm
      · exact List.mem_cons_self
    · intro k hk
      rcases List.mem_cons.mp hk with rfl | hk
      · split <;> omega
      · have := hle k hk
        split <;> omega
section
variable {tb : Tbl} {n : Nat}
def absD (d : D) : D := match d with
  | .int i => .int (if i < 0 then -i else i)
  | d => d
def drawTail : Ss := match b__law_draw with
  | .cons _ ss => ss
  | .nil => .nil
theorem draw_tail {ns : List Int} {a : Int} {r : List D} {many : Int} {x3 x4 x5 x6 x7 : Option T} (hL : r.length + 2 ≤ 1000000) (ha : 0 ≤ a) (hm : 0 < many) (hns : ns.length ≤ 63) :
    ∃ v Γ', exSs (callD tb n) drawTail [some (script ns), some (ol (.int a :: r)), some (.sh (.int many)), x3, x4, x5, x6, x7] = .rt (.sh (.int v)) Γ' ∧ 0 ≤ v ∧ v < many ∧ ∃ a' r', 0 ≤ a' ∧ r'.length = r.length + 1 ∧ Γ'[1]? = some (some (ol (.int a' :: r'))) := by
  have hcell : ∃ c : Int, ∀ Γ : Env, Γ[0]? = some (some (script ns)) → Γ[4]? = some (some (.sh (.int (r.length + 2 : Nat)))) → ev (callD tb n) (.ite (.val (.var 0)) (.ix (.var 0) (.bin .mod (.var 4) (.bi .len (.var 0)))) (.num 0)) Γ = .ok (.t (.sh (.int c))) Γ := by
    cases ns with
    | nil => exact ⟨0, fun Γ h0 h4 => by simp [h0]⟩
    | cons z zs =>
      have hpos : (0 : Int) < ((z :: zs).length : Nat) := by simp <;> omega
      obtain ⟨q1, q2⟩ := fmod_range (i := ((r.length + 2 : Nat) : Int)) hpos
      have hix : ixD (.list ((z :: zs).map PyData.int)) (((r.length + 2 : Nat) : Int).fmod ((z :: zs).length : Nat)) = ((z :: zs).map PyData.int)[(((r.length + 2 : Nat) : Int).fmod ((z :: zs).length : Nat)).toNat]? := ixD_int q1 (by rw [List.length_map]; exact q2)
      have hlt : (((r.length + 2 : Nat) : Int).fmod ((z :: zs).length : Nat)).toNat < (z :: zs).length := by omega
      rw [List.getElem?_map, List.getElem?_eq_getElem hlt] at hix
      refine ⟨(z :: zs)[(((r.length + 2 : Nat) : Int).fmod ((z :: zs).length : Nat)).toNat], fun Γ h0 h4 => ?_⟩
      have hbm : binI .mod ((r.length + 2 : Nat) : Int) ((z :: zs).map PyData.int).length = some (.int (((r.length + 2 : Nat) : Int).fmod ((z :: zs).length : Nat))) := by
        rw [List.length_map]
        exact binI_mod (by omega)
      have e1 : evB (callD tb n) false (.val (.var 0)) Γ = .ok true Γ := by simp [h0]
      have e2 : ev (callD tb n) (.bin .mod (.var 4) (.bi .len (.var 0))) Γ = .ok (.t (.sh (.int (((r.length + 2 : Nat) : Int).fmod ((z :: zs).length : Nat))))) Γ := by
        simp only [ev_bin, ev_var, h4, h0, evVar_sh, Out.bind_ok, kBin1_eq, keepIf_t, kBin2_eq, ev_bi, kOne_eq, tree_t, Option.bind_some, bi_len_list, kFin_some, kBin3_eq, binT_int, hbm, Option.map_some]
      rw [ev_ite, e1]
      simp only [Out.bind_ok, kIte_t, ev_ix, ev_var, h0, evVar_sh, kIx1_eq, keepIf_t, kIx2_eq, e2, kIx3_eq, ixO_sh, hix, Option.map_some, lift_some, kEsc_eq, esc_t, kT_eq]
  obtain ⟨c, hcell⟩ := hcell
  obtain ⟨g1, g2⟩ := fmod_range (i := a) (m := 65536) (by omega)
  generalize hdg : a.fmod 65536 = dg at g1 g2
  have m1 : binI .mul 40503 dg = some (.int (40503 * dg)) := binI_mul (mulOk_of (by decide) (by omega))
  have m2 : binI .mul 104729 ((r.length + 2 : Nat) : Int) = some (.int (104729 * ((r.length + 2 : Nat) : Int))) := binI_mul (mulOk_of (by decide) (by omega))
  obtain ⟨u1, u2⟩ := fmod_range (i := c + 40503 * dg + 104729 * ((r.length + 2 : Nat) : Int)) (m := 4294967291) (by omega)
  generalize hu : (c + 40503 * dg + 104729 * ((r.length + 2 : Nat) : Int)).fmod 4294967291 = u at u1 u2
  have m3 : binI .mul u u = some (.int (u * u)) := binI_mul (mulOk_of (by omega) (by omega))
  obtain ⟨p1, p2⟩ := fmod_range (i := u * u) (m := 4294967279) (by omega)
  generalize hp : (u * u).fmod 4294967279 = p at p1 p2
  have m4 : binI .mul p 48271 = some (.int (p * 48271)) := binI_mul (mulOk_of (by omega) (by decide))
  obtain ⟨w1, w2⟩ := fmod_range (i := p * 48271) (m := 4294967291) (by omega)
  generalize hw : (p * 48271).fmod 4294967291 = w at w1 w2
  have m5 : binI .mul w w = some (.int (w * w)) := binI_mul (mulOk_of (by omega) (by omega))
  obtain ⟨s1, s2⟩ := fmod_range (i := w * w) (m := 4294967279) (by omega)
  generalize hs : (w * w).fmod 4294967279 = s at s1 s2
  have m6 : binI .mul s 69621 = some (.int (s * 69621)) := binI_mul (mulOk_of (by omega) (by decide))
  obtain ⟨t1, t2⟩ := fmod_range (i := s * 69621) (m := 4294967291) (by omega)
  generalize ht : (s * 69621).fmod 4294967291 = t at t1 t2
  have f1 : ∀ x : Int, binI .fdiv x 64 = some (.int (x.fdiv 64)) := fun x => binI_fdiv (by omega)
  have f2 : ∀ x : Int, binI .fdiv x 65536 = some (.int (x.fdiv 65536)) := fun x => binI_fdiv (by omega)
  have hd : 0 ≤ w.fdiv 64 ∧ w.fdiv 64 ≤ w := by
    rw [Int.fdiv_eq_ediv_of_nonneg _ (by omega)]
    omega
  have m7 : binI .mul (w.fdiv 64) 67108864 = some (.int (w.fdiv 64 * 67108864)) := binI_mul (mulOk_of (by omega) (by decide))
  have mo1 : ∀ x : Int, binI .mod x 65536 = some (.int (x.fmod 65536)) := fun x => binI_mod (by omega)
  have mo2 : ∀ x : Int, binI .mod x 4294967291 = some (.int (x.fmod 4294967291)) := fun x => binI_mod (by omega)
  have mo3 : ∀ x : Int, binI .mod x 4294967279 = some (.int (x.fmod 4294967279)) := fun x => binI_mod (by omega)
  have mo4 : ∀ x : Int, binI .mod x many = some (.int (x.fmod many)) := fun x => binI_mod (by omega)
  obtain ⟨v1, v2⟩ := fmod_range (i := w.fdiv 64 * 67108864 + t.fdiv 64) (m := many) hm
  have hset : ∀ (k : Nat) (d : D) (xs : List D) (x : D) (Γ : Env), sSet4 k (.sh d) 0 (some (some (ol (x :: xs)))) Γ = .nx (Γ.set k (some (ol (d :: xs)))) := fun k d xs x Γ => by
    have := sSet4_ol (k := k) (d := d) (j := 0) (ds := x :: xs) (Γ := Γ) (by simp)
    simpa using this
  have hfd : 0 ≤ a.fdiv 65536 := by
    rw [Int.fdiv_eq_ediv_of_nonneg _ (by omega)]
    omega
  have hl1 : lineOk (PyData.int a :: r).length = true := lineOk_iff.mpr (by simp <;> omega)
  have hlen : ((PyData.int a :: r) ++ [PyData.int 0]).length = r.length + 2 := by simp
  have hrun : ∃ Γ', exSs (callD tb n) drawTail [some (script ns), some (ol (.int a :: r)), some (.sh (.int many)), x3, x4, x5, x6, x7] = .rt (.sh (.int ((w.fdiv 64 * 67108864 + t.fdiv 64).fmod many))) Γ' ∧ Γ'[1]? = some (some (ol (.int (a.fdiv 65536) :: (r ++ [.int 0])))) := by
    refine ⟨[some (script ns), some (ol (.int (a.fdiv 65536) :: (r ++ [.int 0]))), some (.sh (.int many)), some (.sh (.int c)), some (.sh (.int (r.length + 2 : Nat))), some (.sh (.int dg)), some (.sh (.int w)), some (.sh (.int t))], ?_, rfl⟩
    simp only [drawTail, b__law_draw]
    simp only [exSs_cons, exS_app, List.getElem?_cons_succ, List.getElem?_cons_zero, sApp0_ol, ev_num, Out.toS_ok, sApp1_eq, esc_t, sApp2_eq, sApp3_ol, hl1, if_true, List.set_cons_succ, List.set_cons_zero, andThen_nx, exS_asg, ev_bi, ev_var, evVar_ol, Out.bind_ok, kOne_eq, tree_at, look_eq, lookO_some, sub_nil, Option.bind_some, bi_len_ol, hlen, kFin_some, sAsg1_eq, sAsg2_eq]
    rw [hcell _ rfl rfl]
    simp only [Out.toS_ok, sAsg1_eq, esc_t, sAsg2_eq, List.set_cons_succ, List.set_cons_zero, andThen_nx, exSs_cons, exS_asg, exS_set, exS_ret, ev_bin, ev_ix, ev_var, List.getElem?_cons_succ, List.getElem?_cons_zero, evVar_ol, evVar_sh, Out.bind_ok, kIx1_eq, spure, keepIf_true, keepIf_t, kIx2_eq, ev_num, kIx3_eq, ixO_at, lookO_some, sub_nil, Option.bind_some, ixAt_ol, List.cons_append, ixD_zero, Option.map_some, lift_some, kBin1_eq, kBin2_eq, kBin3_eq, tree_t, binT_int, mo1, mo2, mo3, mo4, m1, m2, m3, m4, m5, m6, m7, f1, f2, hdg, hu, hp, hw, hs, ht, binI_add, kFin_some, sSet0_eq, sSet1_eq, sSet2_ol, sSet3_int, hset, sRet1_eq, mvO_t, sRet2_eq, andThen_rt]
  obtain ⟨Γ', e1, e2⟩ := hrun
  exact ⟨_, Γ', e1, v1, v2, a.fdiv 65536, r ++ [.int 0], hfd, by simp, e2⟩
def drawHead : S := match b__law_draw with
  | .cons x _ => x
  | .nil => .pass
theorem outs1 {Γ : Env} {t : T} (h : Γ[1]? = some (some t)) : outsOf Γ [false, true, false] = some [t] := by
  simp [outsOf, ioIx, h]
theorem draw_ok {ns : List Int} {t : T} {many : Int} {L : Nat} (h5 : tb.fns.lookup 5 = some d__law_draw) (hn : 1 ≤ n) (hns : ns.length ≤ 63) (hs : StOk L t) (hL : L + 2 ≤ 1000000) (hm : 0 < many) :
    ∃ v t', callD tb n 5 [script ns, t, .sh (.int many)] = .ok (.sh (.int v)) [t'] ∧ 0 ≤ v ∧ v < many ∧ StOk (L + 2) t' := by
  obtain ⟨n, rfl⟩ : ∃ m, n = m + 1 := ⟨n - 1, by omega⟩
  rw [callD_of h5 rfl]
  obtain ⟨st, rfl, hl, hst⟩ := hs
  have hstart : startE d__law_draw [script ns, ol st, .sh (.int many)] = [some (script ns), some (ol st), some (.sh (.int many)), none, none, none, none, none] := rfl
  have hbody : d__law_draw.body = .cons drawHead drawTail := rfl
  rw [hstart, hbody, exSs_cons]
  have hhead : ∃ a r, 0 ≤ a ∧ r.length ≤ L ∧ exS (callD tb n) drawHead [some (script ns), some (ol st), some (.sh (.int many)), none, none, none, none, none] = .nx [some (script ns), some (ol (.int a :: r)), some (.sh (.int many)), none, none, none, none, none] := by
    rcases hst with rfl | ⟨a, r, rfl, ha⟩
    · obtain ⟨is, his⟩ : ∃ is, is = ns.map fun i => if i < 0 then -i else i := ⟨_, rfl⟩
      obtain ⟨js, hjs⟩ : ∃ js, js = is ++ [0] := ⟨_, rfl⟩
      obtain ⟨m, em, hm1, hm2⟩ := maxI_some js (by rw [hjs]; simp)
      refine ⟨m, [], hm2 0 (by rw [hjs]; simp), by simp, ?_⟩
      have hk : lcK (callD tb n) (.bi .abs (.var 3)) [3] true .tt [3] false (ns.map PyData.int) [some (script ns), some (ol []), some (.sh (.int many)), none, none, none, none, none] = .ok (.t (ol (is.map PyData.int))) [some (script ns), some (ol []), some (.sh (.int many)), none, none, none, none, none] := by
        have e : is.map PyData.int = (ns.map PyData.int).map absD := by rw [his]; simp [absD]
        rw [e]
        refine lcK_map _ _ (by simp; omega) fun d hd => ?_
        obtain ⟨i, _, rfl⟩ := List.mem_map.mp hd
        simp [absD]
      have hcat : binT .add (ol (is.map PyData.int)) (ol [PyData.int 0]) = some (ol (js.map PyData.int)) := by
        rw [binT_cat' (by rw [his]; simp; omega), hjs]
        simp
      simp [drawHead, b__law_draw, ev_lc, hk, hcat, bi_max em]
    · refine ⟨a, r, ha, by simp at hl; omega, ?_⟩
      simp [drawHead, b__law_draw]
  obtain ⟨a, r, ha, hr, e1⟩ := hhead
  rw [e1, andThen_nx]
  obtain ⟨v, Γ', e2, v1, v2, a', r', ha', hr', e3⟩ := draw_tail (tb := tb) (n := n) (ns := ns) (a := a) (r := r) (many := many) (x3 := none) (x4 := none) (x5 := none) (x6 := none) (x7 := none) (by omega) ha hm hns
  refine ⟨v, ol (.int a' :: r'), ?_, v1, v2, _, rfl, by simp; omega, .inr ⟨a', r', rfl, ha'⟩⟩
  rw [e2, finish_rt]
  show finO (outsOf Γ' [false, true, false]) _ = _
  rw [outs1 e3]
  rfl
end
end Z

set_option maxRecDepth 100000
set_option linter.all false
namespace Z
open PySem
section
variable {tb : Tbl} {n : Nat} {ns : List Int}
theorem evAs1_of {Φ : Nat → List T → FOut} {e : E} {es : Es} {Γ : Env} (h : isIoE e = false) : evAs1 Φ e es Γ = (ev Φ e Γ).bind (kAs1 Φ es) := by
  cases e <;> first | rfl | cases h
/-- a draw, in an expression -/
theorem ev_draw {Γ : Env} {e : E} {k0 k1 : Nat} {t : T} {many : Int} {L : Nat} (h5 : tb.fns.lookup 5 = some d__law_draw) (hn : 1 ≤ n) (hns : ns.length ≤ 63) (h0 : Γ[k0]? = some (some (script ns))) (h1 : Γ[k1]? = some (some t)) (he : ev (callD tb n) e Γ = .ok (.t (.sh (.int many))) Γ) (hio : isIoE e = false)
    (hs : StOk L t) (hL : L + 2 ≤ 1000000) (hm : 0 < many) :
    ∃ v t', ev (callD tb n) (.call 5 (.cons (.var k0) (.cons (.io k1) (.cons e .nil)))) Γ = .ok (.t (.sh (.int v))) (Γ.set k1 (some t')) ∧ 0 ≤ v ∧ v < many ∧ StOk (L + 2) t' := by
  obtain ⟨v, t', e1, v1, v2, s'⟩ := draw_ok h5 hn hns hs hL hm
  refine ⟨v, t', ?_, v1, v2, s'⟩
  simp [h0, h1, evAs1_of hio, he, e1]
/-- surveys as data -/
abbrev intT (is : List Int) : D := .tuple (is.map PyData.int)
abbrev svD (ss : List Int) (ps : List (List Int)) : D := .tuple [intT ss, .tuple (ps.map intT)]
def KindOk (ss p : List Int) : Prop := p.length = ss.length ∧ ∀ x ∈ p.zip ss, 0 ≤ x.1 ∧ x.1 < x.2
structure SvOk (ss : List Int) (ps : List (List Int)) (most : Nat) : Prop where
  s1 : 1 ≤ ss.length
  s3 : ss.length ≤ 3
  sz : ∀ s ∈ ss, 1 ≤ s ∧ s ≤ 3
  p1 : 1 ≤ ps.length
  pm : ps.length ≤ most
  kd : ∀ p ∈ ps, KindOk ss p
theorem ints_of {P : Int → Prop} : ∀ {xs : List D}, (∀ x ∈ xs, ∃ i, x = .int i ∧ P i) → ∃ is : List Int, xs = is.map PyData.int ∧ ∀ i ∈ is, P i
  | [], _ => ⟨[], rfl, fun i h => by cases h⟩
  | x :: xs, h => by
    obtain ⟨i, rfl, hi⟩ := h x List.mem_cons_self
    obtain ⟨is, rfl, his⟩ := ints_of (P := P) (xs := xs) (fun y hy => h y (List.mem_cons_of_mem _ hy))
    exact ⟨i :: is, rfl, fun j hj => by
      rcases List.mem_cons.mp hj with rfl | hj
      · exact hi
      · exact his j hj⟩
theorem rel_all {R : D → D → Prop} {ds xs : List D} (hl : xs.length = ds.length) (h : ∀ (j : Nat) (d x : D), ds[j]? = some d → xs[j]? = some x → R d x) : ∀ x ∈ xs, ∃ d ∈ ds, R d x := fun x hx => by
  obtain ⟨j, hj, rfl⟩ := List.mem_iff_getElem.mp hx
  exact ⟨ds[j], List.getElem_mem _, h j _ _ (List.getElem?_eq_getElem (by omega)) (List.getElem?_eq_getElem hj)⟩
theorem kind_of {ss : List Int} {xs : List D} (hl : xs.length = ss.length) (h : ∀ (j : Nat) (d x : D), (ss.map PyData.int)[j]? = some d → xs[j]? = some x → ∃ s i, d = .int s ∧ x = .int i ∧ 0 ≤ i ∧ i < s) : ∃ p : List Int, xs = p.map PyData.int ∧ KindOk ss p := by
  induction ss generalizing xs with
  | nil =>
    cases xs with
    | nil => exact ⟨[], rfl, rfl, fun x hx => by cases hx⟩
    | cons x xs => cases hl
  | cons s ss ih =>
    cases xs with
    | nil => cases hl
    | cons x xs =>
      obtain ⟨s', i, e1, e2, i1, i2⟩ := h 0 (.int s) x rfl rfl
      cases e1
      subst e2
      obtain ⟨p, e3, k1, k2⟩ := ih (xs := xs) (by simpa using hl) (fun j d y hd hy => h (j + 1) d y (by simpa using hd) (by simpa using hy))
      refine ⟨i :: p, by rw [e3]; rfl, by simp [k1], fun y hy => ?_⟩
      rw [List.zip_cons_cons] at hy
      rcases List.mem_cons.mp hy with rfl | hy
      · exact ⟨i1, i2⟩
      · exact k2 y hy
theorem survey_ok {t : T} {most L : Nat} (h5 : tb.fns.lookup 5 = some d__law_draw) (h8 : tb.fns.lookup 8 = some d__law_survey) (hn : 2 ≤ n) (hns : ns.length ≤ 63) (hs : StOk L t) (hm : 1 ≤ most) (hmm : most ≤ 100) (hL : L + 700 ≤ 1000000) :
    ∃ ss ps t', callD tb n 8 [script ns, t, .sh (.int most)] = .ok (.sh (svD ss ps)) [t'] ∧ SvOk ss ps most ∧ StOk (L + 10 + 6 * most) t' := by
  obtain ⟨n, rfl⟩ : ∃ m, n = m + 1 := ⟨n - 1, by omega⟩
  rw [callD_of h8 rfl]
  have hn1 : 1 ≤ n := by omega
  have dr : ∀ {Γ : Env} {e : E} {t : T} {many : Int} {L : Nat}, Γ[0]? = some (some (script ns)) → Γ[1]? = some (some t) → ev (callD tb n) e Γ = .ok (.t (.sh (.int many))) Γ → isIoE e = false → StOk L t → L + 2 ≤ 1000000 → 0 < many → ∃ v t', ev (callD tb n) (.call 5 (.cons (.var 0) (.cons (.io 1) (.cons e .nil)))) Γ = .ok (.t (.sh (.int v))) (Γ.set 1 (some t')) ∧ 0 ≤ v ∧ v < many ∧ StOk (L + 2) t' := fun a b c d e f g => ev_draw h5 hn1 hns a b c d e f g
  -- how many traits
  obtain ⟨v1, t1, e1, a1, b1, s1⟩ := dr (Γ := [some (script ns), some t, some (.sh (.int most)), none, none, none, none]) (e := .num 3) (many := 3) (L := L) rfl rfl (by simp) rfl hs (by omega) (by omega)
  -- their sizes
  obtain ⟨xs, Γ2, e2, l2, r2, t2, rfl, s2⟩ := lcK_inv (callD tb n) (elt := .bin .add (.num 1) (.call 5 (.cons (.var 0) (.cons (.io 1) (.cons (.num 3) .nil))))) (tg := [4]) (one := true) (c := .tt) (vs := [4]) (ds := rngD 0 (1 + v1).toNat) (Γ := [some (script ns), some t1, some (.sh (.int most)), none, none, none, none])
    (fun j Γ => ∃ t', Γ = [some (script ns), some t', some (.sh (.int most)), none, none, none, none] ∧ StOk (L + 2 + 2 * j) t') (fun _ x => ∃ i, x = .int i ∧ 1 ≤ i ∧ i ≤ 3) (by rw [rngD_len]; omega) ⟨t1, by simp, s1⟩ (fun j d Γ hj hi => by
      obtain ⟨t', rfl, st⟩ := hi
      have hj2 : j < (1 + v1).toNat := by
        have := (List.getElem?_eq_some_iff.mp hj).1
        rwa [rngD_len] at this
      obtain ⟨v, t'', e, a, b, s'⟩ := dr (Γ := [some (script ns), some t', some (.sh (.int most)), none, some (.sh d), none, none]) (e := .num 3) (many := 3) (L := L + 2 + 2 * j) rfl rfl (by simp) rfl st (by omega) (by omega)
      refine ⟨.int (1 + v), [some (script ns), some t'', some (.sh (.int most)), none, none, none, none], ?_, ⟨1 + v, rfl, by omega, by omega⟩, t'', rfl, s'⟩
      simp at e
      simp [e])
  obtain ⟨ss, rfl, hss⟩ := ints_of (P := fun i => 1 ≤ i ∧ i ≤ 3) (fun x hx => by
    obtain ⟨d, _, r⟩ := rel_all l2 r2 x hx
    exact r)
  rw [rngD_len, List.length_map] at l2
  rw [rngD_len] at s2
  -- how many people
  obtain ⟨v3, t3, e3, a3, b3, s3⟩ := dr (Γ := [some (script ns), some t2, some (.sh (.int most)), some (.sh (intT ss)), none, some (ol []), none]) (e := .var 2) (many := most) (L := L + 2 + 2 * (1 + v1).toNat) rfl rfl (by simp) rfl s2 (by omega) (by omega)
  have hlss : ss.length ≤ 3 := by omega
  -- the people
  obtain ⟨Γ4, e4, i4⟩ := for_inv (bind := bindTg true [4]) (body := exSs (callD tb n) (.cons (.app 5 (.bi .tuple (.lc (.call 5 (.cons (.var 0) (.cons (.io 1) (.cons (.var 6) .nil)))) [6] true (.seq (.var 3)) .tt [6] false))) .nil))
    (fun j Γ => ∃ t' x4 ps, Γ = [some (script ns), some t', some (.sh (.int most)), some (.sh (intT ss)), x4, some (ol (ps.map intT)), none] ∧ ps.length = j ∧ (∀ p ∈ ps, KindOk ss p) ∧ StOk (L + 10 + 6 * j) t' ∧ j ≤ most) (rngD 0 (1 + v3).toNat) 0 [some (script ns), some t3, some (.sh (.int most)), some (.sh (intT ss)), none, some (ol []), none]
    ⟨t3, none, [], rfl, rfl, (fun p hp => by cases hp), s3.mono (by omega), by omega⟩ (fun j d Γ hj hi => by
      obtain ⟨t', x4, ps, rfl, hps, hk, st, hjm⟩ := hi
      have hj2 : j < (1 + v3).toNat := by
        have := (List.getElem?_eq_some_iff.mp hj).1
        rwa [rngD_len] at this
      rw [Nat.zero_add] at hps st hjm ⊢
      obtain ⟨ys, Γ5, e5, l5, r5, t5, rfl, s5⟩ := lcK_inv (callD tb n) (elt := .call 5 (.cons (.var 0) (.cons (.io 1) (.cons (.var 6) .nil)))) (tg := [6]) (one := true) (c := .tt) (vs := [6]) (ds := ss.map PyData.int) (Γ := [some (script ns), some t', some (.sh (.int most)), some (.sh (intT ss)), some (.sh d), some (ol (ps.map intT)), none])
        (fun i Γ => ∃ t'', Γ = [some (script ns), some t'', some (.sh (.int most)), some (.sh (intT ss)), some (.sh d), some (ol (ps.map intT)), none] ∧ StOk (L + 10 + 6 * j + 2 * i) t'') (fun d x => ∃ s i, d = .int s ∧ x = .int i ∧ 0 ≤ i ∧ i < s) (by simp; omega) ⟨t', by simp, st⟩ (fun i d' Γ hi' hI => by
          obtain ⟨t'', rfl, st2⟩ := hI
          have hi2 : i < ss.length := by
            have := (List.getElem?_eq_some_iff.mp hi').1
            simpa using this
          rw [List.getElem?_map, List.getElem?_eq_getElem hi2] at hi'
          cases hi'
          have hsz := hss _ (List.getElem_mem hi2)
          obtain ⟨v, t6, e, a, b, s'⟩ := dr (Γ := [some (script ns), some t'', some (.sh (.int most)), some (.sh (intT ss)), some (.sh d), some (ol (ps.map intT)), some (.sh (.int ss[i]))]) (e := .var 6) (many := ss[i]) (L := L + 10 + 6 * j + 2 * i) rfl rfl (by simp) rfl st2 (by omega) (by omega)
          refine ⟨.int v, [some (script ns), some t6, some (.sh (.int most)), some (.sh (intT ss)), some (.sh d), some (ol (ps.map intT)), none], ?_, ⟨ss[i], v, rfl, rfl, a, b⟩, t6, rfl, s'⟩
          simp at e
          simp [e])
      obtain ⟨p, rfl, kp⟩ := kind_of (by simpa using l5) r5
      rw [List.length_map] at s5
      have e5' : lcK (callD tb n) (.call 5 (.cons (.var 0) (.cons (.io 1) (.cons (.var 6) .nil)))) [6] true .tt [6] false (ss.map PyData.int) [some (script ns), some t', some (.sh (.int most)), some (.sh (intT ss)), some (.sh d), some (ol (ps.map intT)), none] = .ok (.t (ol (p.map PyData.int))) [some (script ns), some t5, some (.sh (.int most)), some (.sh (intT ss)), some (.sh d), some (ol (ps.map intT)), none] := by
        rw [e5]
        simp
      refine ⟨[some (script ns), some t5, some (.sh (.int most)), some (.sh (intT ss)), some (.sh d), some (ol ((ps ++ [p]).map intT)), none], ?_, t5, some (.sh d), ps ++ [p], rfl, by simp [hps], fun q hq => ?_, s5.mono (by omega), by omega⟩
      · have hl : ps.length ≤ 1000000 := by omega
        simp [ev_lc, e5', hl]
      · rcases List.mem_append.mp hq with hq | hq
        · exact hk q hq
        · simp at hq; subst hq; exact kp)
  obtain ⟨t', x4, ps, rfl, hps, hk, st, hjm⟩ := i4
  rw [rngD_len, Nat.zero_add] at hps st hjm
  refine ⟨ss, ps, t', ?_, ⟨by omega, by omega, hss, by omega, by omega, hk⟩, st.mono (by omega)⟩
  simp at e1 e3
  have hr1 : -1000000 ≤ 1 + v1 ∧ 1 + v1 ≤ 1000000 := by omega
  have hr3 : -1000000 ≤ 1 + v3 ∧ 1 + v3 ≤ 1000000 := by omega
  have e2' : lcK (callD tb n) (.bin .add (.num 1) (.call 5 (.cons (.var 0) (.cons (.io 1) (.cons (.num 3) .nil))))) [4] true .tt [4] false (rngD 0 (1 + v1).toNat) [some (script ns), some t1, some (.sh (.int most)), none, none, none, none] = .ok (.t (ol (ss.map PyData.int))) [some (script ns), some t2, some (.sh (.int most)), none, none, none, none] := by
    rw [e2]
    simp
  simp [d__law_survey, b__law_survey, startE, outsOf, ioIx, e1, hr1, ev_lc, e2', e3, hr3, sFor, e4, spure]
end
end Z

set_option maxRecDepth 100000
set_option linter.all false
namespace Z
open PySem
theorem strOk_of (s : String) : PyData.strOk (Str.ofString s) = true := by
  rw [Str.ofString_eq_toList]
  unfold PyData.strOk
  simp
  intro c _
  have h : c.val.toNat < 1114112 := by
    rcases c.valid with h | h
    · omega
    · exact h.2
  exact h
/-- small data: ints and lengths at most B, depth at most k -/
inductive Sm (B : Nat) : Nat → D → Prop
  | non {k : Nat} : Sm B k .none
  | bool {k : Nat} (b : Bool) : Sm B k (.bool b)
  | int {k : Nat} {i : Int} : i.natAbs ≤ B → Sm B k (.int i)
  | str {k : Nat} {x : Str} : PyData.strOk x = true → Sm B k (.str x)
  | list {k : Nat} {ds : List D} : ds.length ≤ B → (∀ d ∈ ds, Sm B k d) → Sm B (k + 1) (.list ds)
  | tuple {k : Nat} {ds : List D} : ds.length ≤ B → (∀ d ∈ ds, Sm B k d) → Sm B (k + 1) (.tuple ds)
theorem Sm.mono {B : Nat} : ∀ {k : Nat} {d : D}, Sm B k d → ∀ {B' k' : Nat}, B ≤ B' → k ≤ k' → Sm B' k' d := by
  intro k d h
  induction h with
  | non => intros; exact .non
  | bool b => intros; exact .bool b
  | int h => intro B' k' hB _; exact .int (by omega)
  | str h => intros; exact .str h
  | list hl hd ih =>
    intro B' k' hB hk
    obtain ⟨m, rfl⟩ : ∃ m, k' = m + 1 := ⟨k' - 1, by omega⟩
    exact .list (by omega) fun d hm => ih d hm hB (by omega)
  | tuple hl hd ih =>
    intro B' k' hB hk
    obtain ⟨m, rfl⟩ : ∃ m, k' = m + 1 := ⟨k' - 1, by omega⟩
    exact .tuple (by omega) fun d hm => ih d hm hB (by omega)
theorem cut_mem {α : Type} {xs : List α} {l h : Option Int} {x : α} (hx : x ∈ cut xs l h) : x ∈ xs := by
  unfold cut at hx
  exact List.mem_of_mem_drop (List.mem_of_mem_take hx)
theorem cut_len {α : Type} {xs : List α} {l h : Option Int} : (cut xs l h).length ≤ xs.length := by
  unfold cut
  rw [List.length_take, List.length_drop]
  omega
theorem cut_to {α : Type} {xs : List α} {v : Nat} : cut xs none (some (v : Int)) = xs.take v := by
  unfold cut
  rw [HT.sIx_none, HT.sIx_nat, List.drop_zero, Nat.sub_zero]
  rcases Nat.le_total v xs.length with h | h
  · rw [Nat.min_eq_left h]
  · rw [Nat.min_eq_right h, List.take_length, List.take_of_length_le h]
theorem cut_from {α : Type} {xs : List α} {v : Nat} : cut xs (some (v : Int)) none = xs.drop v := by
  unfold cut
  rw [HT.sIx_none, HT.sIx_nat]
  rcases Nat.le_total v xs.length with h | h
  · rw [Nat.min_eq_left h, List.take_of_length_le (by rw [List.length_drop]; omega)]
  · rw [Nat.min_eq_right h, List.drop_length, List.drop_of_length_le h, List.take_nil]
theorem cut_last {α : Type} {xs : List α} : (cut xs (some (-1)) none).length ≤ 1 := by
  unfold cut
  rw [List.length_take, List.length_drop]
  have : xs.length - HT.sIx xs.length 0 (some (-1)) ≤ 1 := by
    simp [HT.sIx]
    omega
  omega
theorem canLay_all : ∀ (ds : List D), (∀ d ∈ ds, PyData.canLay0 d = true) → PyData.canLayAll0 ds = true
  | [], _ => rfl
  | d :: ds, h => by
    unfold PyData.canLayAll0
    rw [h d List.mem_cons_self, canLay_all ds (fun x hx => h x (List.mem_cons_of_mem _ hx))]
    rfl
theorem depth_all : ∀ (ds : List D) (k : Nat), (∀ d ∈ ds, PyData.depth d ≤ k) → PyData.depthAll ds ≤ k
  | [], k, _ => by unfold PyData.depthAll; omega
  | d :: ds, k, h => by
    unfold PyData.depthAll
    have h1 := h d List.mem_cons_self
    have h2 := depth_all ds k (fun x hx => h x (List.mem_cons_of_mem _ hx))
    omega
theorem Sm.lay {B : Nat} : ∀ {k : Nat} {d : D}, Sm B k d → PyData.canLay0 d = true ∧ PyData.depth d ≤ k := by
  intro k d h
  induction h with
  | non => exact ⟨by simp [PyData.canLay0], by simp [PyData.depth]⟩
  | bool b => exact ⟨by simp [PyData.canLay0], by simp [PyData.depth]⟩
  | int h => exact ⟨by simp [PyData.canLay0], by simp [PyData.depth]⟩
  | str h => exact ⟨by simp [PyData.canLay0, h], by simp [PyData.depth]⟩
  | list hl hd ih =>
    refine ⟨by unfold PyData.canLay0; exact canLay_all _ fun d hm => (ih d hm).1, ?_⟩
    unfold PyData.depth
    have := depth_all _ _ fun d hm => (ih d hm).2
    omega
  | tuple hl hd ih =>
    refine ⟨by unfold PyData.canLay0; exact canLay_all _ fun d hm => (ih d hm).1, ?_⟩
    unfold PyData.depth
    have := depth_all _ _ fun d hm => (ih d hm).2
    omega
theorem fine_of {d : D} (h1 : PyData.canLay0 d = true) (h2 : PyData.depth d ≤ 64) : fineD d = true := by
  unfold fineD SeqAt.shaped
  simp [h1, h2]
theorem Sm.fine {B k : Nat} {d : D} (h : Sm B k d) (hk : k ≤ 64) : fineD d = true := fine_of h.lay.1 (by have := h.lay.2; omega)
theorem fine_list {k : Nat} {ds : List D} (h : ∀ d ∈ ds, PyData.canLay0 d = true ∧ PyData.depth d ≤ k) (hk : k < 64) : fineD (.list ds) = true := by
  refine fine_of ?_ ?_
  · unfold PyData.canLay0
    exact canLay_all _ fun d hm => (h d hm).1
  · unfold PyData.depth
    have := depth_all _ _ fun d hm => (h d hm).2
    omega
theorem fine_tuple {k : Nat} {ds : List D} (h : ∀ d ∈ ds, PyData.canLay0 d = true ∧ PyData.depth d ≤ k) (hk : k < 64) : fineD (.tuple ds) = true := by
  refine fine_of ?_ ?_
  · unfold PyData.canLay0
    exact canLay_all _ fun d hm => (h d hm).1
  · unfold PyData.depth
    have := depth_all _ _ fun d hm => (h d hm).2
    omega
section
variable {tb : Tbl} {n : Nat} {ns : List Int}
theorem pick_ok {t : T} {ds : List D} {L : Nat} (h5 : tb.fns.lookup 5 = some d__law_draw) (h6 : tb.fns.lookup 6 = some d__law_pick) (hn : 2 ≤ n) (hns : ns.length ≤ 63) (hs : StOk L t) (hL : L + 2 ≤ 1000000) (hd : ds ≠ []) :
    ∃ d t', callD tb n 6 [script ns, t, .sh (.list ds)] = .ok (.sh d) [t'] ∧ d ∈ ds ∧ StOk (L + 2) t' := by
  obtain ⟨n, rfl⟩ : ∃ m, n = m + 1 := ⟨n - 1, by omega⟩
  rw [callD_of h6 rfl]
  have hp : 0 < ds.length := List.length_pos_iff.mpr hd
  obtain ⟨v, t', e, a, b, s'⟩ := ev_draw (tb := tb) (n := n) (ns := ns) (Γ := [some (script ns), some t, some (.sh (.list ds))]) (e := .bi .len (.var 2)) (k0 := 0) (k1 := 1) (many := (ds.length : Int)) h5 (by omega) hns rfl rfl (by simp) rfl hs hL (by omega)
  have hlt : v.toNat < ds.length := by omega
  refine ⟨ds[v.toNat], t', ?_, List.getElem_mem _, s'⟩
  have hix : ixD (.list ds) v = some ds[v.toNat] := by rw [ixD_int a b, List.getElem?_eq_getElem hlt]
  simp at e
  simp [d__law_pick, b__law_pick, startE, outsOf, ioIx, e, hix, spure]
def bentPick : Ss := match b__law_bent with
  | .cons (.iff _ a _) _ => a
  | _ => .nil
theorem bent_pick {t : T} {d : D} {B k L : Nat} {x3 x4 : Option T} (h5 : tb.fns.lookup 5 = some d__law_draw) (h6 : tb.fns.lookup 6 = some d__law_pick) (hn : 2 ≤ n) (hns : ns.length ≤ 63) (hs : StOk L t) (hL : L + 2 ≤ 1000000) (hd : Sm B k d) (hB : 10 ≤ B) (hB2 : B ≤ 1000) :
    ∃ d' Γ' t', exSs (callD tb n) bentPick [some (script ns), some t, some (.sh d), x3, x4] = .rt (.sh d') Γ' ∧ Γ'[1]? = some (some t') ∧ Sm (B + 1) (k + 2) d' ∧ StOk (L + 2) t' := by
  -- what is picked from
  obtain ⟨ds, e1, hne, hsm⟩ : ∃ ds, exSs (callD tb n) (.cons (.asg true [3] (.lst (.cons .non (.cons (.bl true) (.cons (.bl false) (.cons (.num 0) (.cons (.num 1) (.cons (.neg (.num 1)) (.cons (.num 3) (.cons (.num 10) (.cons (.text "a") (.cons (.text "b") (.cons (.text "") (.cons (.text "A") (.cons (.text "abcd") (.cons (.tup .nil) (.cons (.lst .nil) (.cons (.tup (.cons (.num 0) .nil)) .nil))))))))))))))))))
  (.cons (.asg true [3] (.bin .add (.var 3) (.lst (.cons (.tup (.cons (.num 2) (.cons (.num 1) .nil))) (.cons (.tup (.cons (.num 1) (.cons (.num 2) .nil))) (.cons (.tup (.cons (.tup (.cons (.num 0) .nil)) (.cons (.tup (.cons (.num 1) .nil)) .nil))) .nil))))))
  (.cons (.iff (.val (.isi .tuple (.var 2))) (.cons (.asg true [3] (.bin .add (.var 3) (.lst (.cons (.bi .list (.var 2)) (.cons (.sl (.var 2) .non (.neg (.num 1))) (.cons (.bin .add (.var 2) (.sl (.var 2) (.neg (.num 1)) .non)) (.cons (.sl (.var 2) (.num 1) .non) (.cons (.rev (.var 2)) (.cons (.bin .add (.var 2) (.tup (.cons .non .nil))) .nil)))))))))
  .nil) .nil)
  (.cons (.iff (.val (.isi .int (.var 2))) (.cons (.asg true [3] (.bin .add (.var 3) (.bin .mul (.lst (.cons (.bin .add (.var 2) (.num 1)) (.cons (.bin .sub (.var 2) (.num 1)) (.cons (.bool (.not (.val (.var 2)))) (.cons (.tup (.cons (.var 2) .nil)) (.cons (.bi .str (.var 2)) .nil)))))) (.num 2))))
  .nil) .nil)
  .nil)))) [some (script ns), some t, some (.sh d), x3, x4] = .nx [some (script ns), some t, some (.sh d), some (ol ds), x4] ∧ ds ≠ [] ∧ ∀ x ∈ ds, Sm (B + 1) (k + 2) x := by
    have base : ∀ x ∈ ([.none, .bool true, .bool false, .int 0, .int 1, .int (-1), .int 3, .int 10, .str "a", .str "b", .str "", .str "A", .str "abcd", .tuple [], .list [], .tuple [.int 0], .tuple [.int 2, .int 1], .tuple [.int 1, .int 2], .tuple [.tuple [.int 0], .tuple [.int 1]]] : List D), Sm (B + 1) (k + 2) x := by
      intro x hx
      simp only [List.mem_cons, List.mem_nil_iff, or_false] at hx
      rcases hx with rfl | rfl | rfl | rfl | rfl | rfl | rfl | rfl | rfl | rfl | rfl | rfl | rfl | rfl | rfl | rfl | rfl | rfl | rfl
      · exact .non
      · exact .bool _
      · exact .bool _
      · exact .int (by omega)
      · exact .int (by omega)
      · exact .int (by omega)
      · exact .int (by omega)
      · exact .int (by omega)
      · exact .str (strOk_of _)
      · exact .str (strOk_of _)
      · exact .str (strOk_of _)
      · exact .str (strOk_of _)
      · exact .str (strOk_of _)
      · exact .tuple (by simp) (by simp)
      · exact .list (by simp) (by simp)
      · exact .tuple (by simp) (by intro y hy; simp at hy; subst hy; exact .int (by omega))
      · exact .tuple (by simp; omega) (by intro y hy; simp at hy; rcases hy with rfl | rfl <;> exact .int (by omega))
      · exact .tuple (by simp; omega) (by intro y hy; simp at hy; rcases hy with rfl | rfl <;> exact .int (by omega))
      · refine .tuple (by simp; omega) (by intro y hy; simp at hy; rcases hy with rfl | rfl <;> exact .tuple (by simp) (by intro y hy; simp at hy; subst hy; exact .int (by omega)))
    cases hd with
    | non => exact ⟨_, by simp [isiD, spure, binT_cat1], by simp, base⟩
    | str x => exact ⟨_, by simp [isiD, spure, binT_cat1], by simp, base⟩
    | list hl hd => exact ⟨_, by simp [isiD, spure, binT_cat1], by simp, base⟩
    | bool b =>
      refine ⟨([.none, .bool true, .bool false, .int 0, .int 1, .int (-1), .int 3, .int 10, .str "a", .str "b", .str "", .str "A", .str "abcd", .tuple [], .list [], .tuple [.int 0], .tuple [.int 2, .int 1], .tuple [.int 1, .int 2], .tuple [.tuple [.int 0], .tuple [.int 1]]] : List D) ++ [.int ((if b then 1 else 0) + 1), .int ((if b then 1 else 0) - 1), .bool (!b), .tuple [.bool b], .str (if b then "True" else "False"), .int ((if b then 1 else 0) + 1), .int ((if b then 1 else 0) - 1), .bool (!b), .tuple [.bool b], .str (if b then "True" else "False")], ?_, by simp, fun x hx => ?_⟩
      · have hs2 : biT .str (.sh (.bool b)) = some (.sh (.str (if b then "True" else "False"))) := rfl
        simp [isiD, spure, binT_cat1, binT_repL, hs2, List.replicate]
      · rcases List.mem_append.mp hx with hx | hx
        · exact base x hx
        · have i1 : Sm (B + 1) (k + 2) (.int ((if b then 1 else 0) + 1)) := .int (by cases b <;> simp <;> omega)
          have i2 : Sm (B + 1) (k + 2) (.int ((if b then 1 else 0) - 1)) := .int (by cases b <;> simp <;> omega)
          have i3 : Sm (B + 1) (k + 2) (.tuple [.bool b]) := .tuple (by simp) (by intro y hy; simp at hy; subst hy; exact .bool b)
          simp only [List.mem_cons, List.mem_nil_iff, or_false] at hx
          rcases hx with rfl | rfl | rfl | rfl | rfl | rfl | rfl | rfl | rfl | rfl
          · exact i1
          · exact i2
          · exact .bool _
          · exact i3
          · exact .str (by first | exact strOk_of _ | (cases b <;> exact strOk_of _))
          · exact i1
          · exact i2
          · exact .bool _
          · exact i3
          · exact .str (by first | exact strOk_of _ | (cases b <;> exact strOk_of _))
    | @int _ i hi =>
      refine ⟨([.none, .bool true, .bool false, .int 0, .int 1, .int (-1), .int 3, .int 10, .str "a", .str "b", .str "", .str "A", .str "abcd", .tuple [], .list [], .tuple [.int 0], .tuple [.int 2, .int 1], .tuple [.int 1, .int 2], .tuple [.tuple [.int 0], .tuple [.int 1]]] : List D) ++ [.int (i + 1), .int (i - 1), .bool (!(i != 0)), .tuple [.int i], .str (Str.ofString (toString i)), .int (i + 1), .int (i - 1), .bool (!(i != 0)), .tuple [.int i], .str (Str.ofString (toString i))], ?_, by simp, fun x hx => ?_⟩
      · have hlog : i.natAbs.log2 < 1920 := Nat.lt_trans (log2_small (Nat.lt_of_le_of_lt (Nat.le_trans hi hB2) (by decide))) (by decide)
        have hs2 : biT .str (.sh (.int i)) = some (.sh (.str (Str.ofString (toString i)))) := by
          show (if i.natAbs.log2 < 1920 then some (T.sh (.str (Str.ofString (toString i)))) else none) = _
          rw [if_pos hlog]
        simp [isiD, spure, binT_cat1, binT_repL, hs2, List.replicate]
      · rcases List.mem_append.mp hx with hx | hx
        · exact base x hx
        · have i1 : Sm (B + 1) (k + 2) (.int (i + 1)) := .int (by omega)
          have i2 : Sm (B + 1) (k + 2) (.int (i - 1)) := .int (by omega)
          have i3 : Sm (B + 1) (k + 2) (.tuple [.int i]) := .tuple (by simp) (by intro y hy; simp at hy; subst hy; exact .int (by omega))
          simp only [List.mem_cons, List.mem_nil_iff, or_false] at hx
          rcases hx with rfl | rfl | rfl | rfl | rfl | rfl | rfl | rfl | rfl | rfl
          · exact i1
          · exact i2
          · exact .bool _
          · exact i3
          · exact .str (by first | exact strOk_of _ | (cases b <;> exact strOk_of _))
          · exact i1
          · exact i2
          · exact .bool _
          · exact i3
          · exact .str (by first | exact strOk_of _ | (cases b <;> exact strOk_of _))
    | @tuple k ds hl hd =>
      refine ⟨([.none, .bool true, .bool false, .int 0, .int 1, .int (-1), .int 3, .int 10, .str "a", .str "b", .str "", .str "A", .str "abcd", .tuple [], .list [], .tuple [.int 0], .tuple [.int 2, .int 1], .tuple [.int 1, .int 2], .tuple [.tuple [.int 0], .tuple [.int 1]]] : List D) ++ [.list ds, .tuple (cut ds none (some (-1))), .tuple (ds ++ cut ds (some (-1)) none), .tuple (cut ds (some 1) none), .tuple ds.reverse, .tuple (ds ++ [.none])], ?_, by simp, fun x hx => ?_⟩
      · have c1 := cut_last (xs := ds)
        have b1 : binT .add (.sh (.tuple ds)) (.sh (.tuple (cut ds (some (-1)) none))) = some (.sh (.tuple (ds ++ cut ds (some (-1)) none))) := binT_tup (by omega)
        have b2 : binT .add (.sh (.tuple ds)) (.sh (.tuple [.none])) = some (.sh (.tuple (ds ++ [.none]))) := binT_tup (by simp; omega)
        simp [isiD, spure, binT_cat1, b1, b2]
      · rcases List.mem_append.mp hx with hx | hx
        · exact base x hx
        · have c1 := cut_last (xs := ds)
          have hm : ∀ y ∈ ds, Sm (B + 1) (k + 2) y := fun y hy => (hd y hy).mono (by omega) (by omega)
          simp only [List.mem_cons, List.mem_nil_iff, or_false] at hx
          rcases hx with rfl | rfl | rfl | rfl | rfl | rfl
          · exact .list (by omega) hm
          · exact .tuple (Nat.le_trans cut_len (by omega)) fun y hy => hm y (cut_mem hy)
          · refine .tuple (by rw [List.length_append]; omega) fun y hy => ?_
            rcases List.mem_append.mp hy with hy | hy
            · exact hm y hy
            · exact hm y (cut_mem hy)
          · exact .tuple (Nat.le_trans cut_len (by omega)) fun y hy => hm y (cut_mem hy)
          · exact .tuple (by rw [List.length_reverse]; omega) fun y hy => hm y (by simpa using hy)
          · refine .tuple (by rw [List.length_append]; simp; omega) fun y hy => ?_
            rcases List.mem_append.mp hy with hy | hy
            · exact hm y hy
            · simp at hy; subst hy; exact .non
  obtain ⟨d', t', e2, hd', s'⟩ := pick_ok (n := n) (ds := ds) h5 h6 hn hns hs hL hne
  have hsplit : ∀ (a b c e : S) (Γ Γ' : Env), exSs (callD tb n) (.cons a (.cons b (.cons c (.cons e .nil)))) Γ = .nx Γ' → ∀ ss, exSs (callD tb n) (.cons a (.cons b (.cons c (.cons e ss)))) Γ = exSs (callD tb n) ss Γ' := by
    intro a b c e Γ Γ' h ss
    simp only [exSs_cons] at h ⊢
    cases ha : exS (callD tb n) a Γ with
    | nx Γ1 =>
      simp only [ha, andThen_nx, exSs_cons] at h ⊢
      cases hb : exS (callD tb n) b Γ1 with
      | nx Γ2 =>
        simp only [hb, andThen_nx, exSs_cons] at h ⊢
        cases hc : exS (callD tb n) c Γ2 with
        | nx Γ3 =>
          simp only [hc, andThen_nx, exSs_cons] at h ⊢
          cases he : exS (callD tb n) e Γ3 with
          | nx Γ4 => simp only [he, andThen_nx, exSs_nil] at h ⊢; cases h; rfl
          | _ => simp [he] at h
        | _ => simp [hc] at h
      | _ => simp [hb] at h
    | _ => simp [ha] at h
  refine ⟨d', [some (script ns), some t', some (.sh d), some (.sh (.list ds)), x4], t', ?_, rfl, hsm d' hd', s'⟩
  simp only [bentPick, b__law_bent]
  rw [hsplit _ _ _ _ _ _ e1]
  simp [e2]
def bentRest : Ss := match b__law_bent with
  | .cons _ ss => ss
  | .nil => .nil
theorem bent_ok (h5 : tb.fns.lookup 5 = some d__law_draw) (h6 : tb.fns.lookup 6 = some d__law_pick) (h7 : tb.fns.lookup 7 = some d__law_bent) (hns : ns.length ≤ 63) {B : Nat} (hB : 10 ≤ B) (hB2 : B ≤ 1000) :
    ∀ (k n L : Nat) (d : D) (t : T), k + 3 ≤ n → Sm B k d → StOk L t → L + 4 * (k + 1) ≤ 1000000 → ∃ d' t', callD tb n 7 [script ns, t, .sh d] = .ok (.sh d') [t'] ∧ Sm (B + 1) (k + 2) d' ∧ StOk (L + 4 * (k + 1)) t' := by
  intro k
  induction k with
  | zero =>
    intro n L d t hn hd hs hL
    obtain ⟨n, rfl⟩ : ∃ m, n = m + 1 := ⟨n - 1, by omega⟩
    rw [callD_of h7 rfl]
    obtain ⟨d', Γ', t', e1, e2, q1, q2⟩ := bent_pick (tb := tb) (n := n) (ns := ns) (x3 := none) (x4 := none) h5 h6 (by omega) hns hs (by omega) hd hB hB2
    refine ⟨d', t', ?_, q1, q2.mono (by omega)⟩
    have hb : d__law_bent.body = .cons (.iff (.or (.not (.val (.isi .tuple (.var 2)))) (.or (.not (.val (.var 2))) (.cmp .eq (.call 5 (.cons (.var 0) (.cons (.io 1) (.cons (.num 4) .nil)))) (.num 0)))) bentPick .nil) bentRest := rfl
    have hst : startE d__law_bent [script ns, t, .sh d] = [some (script ns), some t, some (.sh d), none, none] := rfl
    have hio : d__law_bent.io = [false, true, false] := rfl
    rw [hb, hst]
    cases hd <;> simp [isiD, e1, hio, outs1 e2]
  | succ k ih =>
    intro n L d t hn hd hs hL
    obtain ⟨n, rfl⟩ : ∃ m, n = m + 1 := ⟨n - 1, by omega⟩
    rw [callD_of h7 rfl]
    have hb : d__law_bent.body = .cons (.iff (.or (.not (.val (.isi .tuple (.var 2)))) (.or (.not (.val (.var 2))) (.cmp .eq (.call 5 (.cons (.var 0) (.cons (.io 1) (.cons (.num 4) .nil)))) (.num 0)))) bentPick .nil) bentRest := rfl
    have hst : startE d__law_bent [script ns, t, .sh d] = [some (script ns), some t, some (.sh d), none, none] := rfl
    have hio : d__law_bent.io = [false, true, false] := rfl
    rw [hb, hst]
    have plain : (∀ ds, d ≠ .tuple ds) ∨ d = .tuple [] → ∃ d' t', finish d__law_bent (exSs (callD tb n) (.cons (.iff (.or (.not (.val (.isi .tuple (.var 2)))) (.or (.not (.val (.var 2))) (.cmp .eq (.call 5 (.cons (.var 0) (.cons (.io 1) (.cons (.num 4) .nil)))) (.num 0)))) bentPick .nil) bentRest) [some (script ns), some t, some (.sh d), none, none]) = .ok (.sh d') [t'] ∧ Sm (B + 1) (k + 1 + 2) d' ∧ StOk (L + 4 * (k + 1 + 1)) t' := by
      intro hp
      obtain ⟨d', Γ', t', e1, e2, q1, q2⟩ := bent_pick (tb := tb) (n := n) (ns := ns) (x3 := none) (x4 := none) h5 h6 (by omega) hns hs (by omega) hd hB hB2
      refine ⟨d', t', ?_, q1, q2.mono (by omega)⟩
      cases d with
      | tuple ds =>
        have : ds = [] := by
          rcases hp with hp | hp
          · exact absurd rfl (hp ds)
          · cases hp; rfl
        subst this
        simp [isiD, e1, hio, outs1 e2]
      | _ => simp [isiD, e1, hio, outs1 e2]
    cases d with
    | tuple ds =>
      cases ds with
      | nil => exact plain (.inr rfl)
      | cons z zs =>
        cases hd with
        | tuple hl hd =>
          obtain ⟨v1, t1, e1, a1, b1, s1⟩ := ev_draw (tb := tb) (n := n) (ns := ns) (Γ := [some (script ns), some t, some (.sh (.tuple (z :: zs))), none, none]) (e := .num 4) (k0 := 0) (k1 := 1) (many := 4) h5 (by omega) hns rfl rfl (by simp) rfl hs (by omega) (by omega)
          simp at e1
          by_cases hv : v1 = 0
          · obtain ⟨d', Γ', t', e3, e4, q1, q2⟩ := bent_pick (tb := tb) (n := n) (ns := ns) (x3 := none) (x4 := none) h5 h6 (by omega) hns s1 (by omega) (Sm.tuple hl hd) hB hB2
            refine ⟨d', t', ?_, q1, q2.mono (by omega)⟩
            simp [isiD, e1, hv, e3, hio, outs1 e4, spure]
          · obtain ⟨v2, t2, e2, a2, b2, s2⟩ := ev_draw (tb := tb) (n := n) (ns := ns) (Γ := [some (script ns), some t1, some (.sh (.tuple (z :: zs))), none, none]) (e := .bi .len (.var 2)) (k0 := 0) (k1 := 1) (many := ((z :: zs).length : Int)) h5 (by omega) hns rfl rfl (by simp) rfl s1 (by omega) (by simp <;> omega)
            have hlt : v2.toNat < (z :: zs).length := by omega
            have hix : ixD (.list (z :: zs)) v2 = some (z :: zs)[v2.toNat] := by rw [ixD_int a2 b2, List.getElem?_eq_getElem hlt]
            obtain ⟨d', t', e3, q1, q2⟩ := ih n (L + 2 + 2) _ t2 (by omega) (hd _ (List.getElem_mem hlt)) s2 (by omega)
            have c1 := cut_len (xs := z :: zs) (l := none) (h := some v2)
            have c2 := cut_len (xs := z :: zs) (l := some (v2 + 1)) (h := none)
            have b1 : binT .add (.sh (.tuple (cut (z :: zs) none (some v2)))) (.sh (.tuple [d'])) = some (.sh (.tuple (cut (z :: zs) none (some v2) ++ [d']))) := binT_tup (by simp at c1 hl ⊢; omega)
            have b2 : binT .add (.sh (.tuple (cut (z :: zs) none (some v2) ++ [d']))) (.sh (.tuple (cut (z :: zs) (some (v2 + 1)) none))) = some (.sh (.tuple (cut (z :: zs) none (some v2) ++ [d'] ++ cut (z :: zs) (some (v2 + 1)) none))) := binT_tup (by simp at c1 c2 hl ⊢; omega)
            refine ⟨.tuple (cut (z :: zs) none (some v2) ++ [d'] ++ cut (z :: zs) (some (v2 + 1)) none), t', ?_, ?_, q2.mono (by omega)⟩
            · simp at e2 e3 hix
              simp [isiD, e1, hv, bentRest, b__law_bent, e2, hix, e3, b1, b2, hio, outsOf, ioIx, spure]
            · have g1 : cut (z :: zs) none (some v2) = (z :: zs).take v2.toNat := by
                rw [← cut_to, Int.toNat_of_nonneg a2]
              have g2 : cut (z :: zs) (some (v2 + 1)) none = (z :: zs).drop (v2.toNat + 1) := by
                rw [← cut_from]
                congr 2
                omega
              have hm : ∀ y ∈ z :: zs, Sm (B + 1) (k + 2) y := fun y hy => (hd y hy).mono (by omega) (by omega)
              refine .tuple ?_ fun y hy => ?_
              · rw [g1, g2, List.length_append, List.length_append, List.length_take, List.length_drop]
                simp at hl hlt ⊢
                omega
              · rcases List.mem_append.mp hy with hy | hy
                · rcases List.mem_append.mp hy with hy | hy
                  · exact hm y (cut_mem hy)
                  · simp at hy; subst hy; exact q1
                · exact hm y (cut_mem hy)
    | _ => exact plain (.inl fun ds => by simp)
end
end Z

set_option maxRecDepth 100000
set_option linter.all false
namespace Z
open PySem
/-- a for that stops at the first item that is not right -/
theorem for_search {bind : D → Env → Option Env} {body : Env → SOut} {t : T} (Inv : Env → Prop) (q : D → Bool) : ∀ (ds : List D) (Γ : Env), Inv Γ → (∀ d ∈ ds, ∀ Γ, Inv Γ → (q d = true → ∃ Γ', forK (bind d Γ) body = .nx Γ' ∧ Inv Γ') ∧ (q d = false → ∃ Γ', forK (bind d Γ) body = .rt t Γ')) →
    (ds.all q = true → ∃ Γ', forRun bind body ds Γ = .nx Γ' ∧ Inv Γ') ∧ (ds.all q = false → ∃ Γ', forRun bind body ds Γ = .rt t Γ')
  | [], Γ, hi, _ => ⟨fun _ => ⟨Γ, rfl, hi⟩, fun h => by cases h⟩
  | d :: ds, Γ, hi, h => by
    obtain ⟨h1, h2⟩ := h d List.mem_cons_self Γ hi
    rw [List.all_cons]
    cases hq : q d with
    | false =>
      obtain ⟨Γ', e⟩ := h2 hq
      exact ⟨fun h => by simp at h, fun _ => ⟨Γ', by rw [forRun_cons, e]; rfl⟩⟩
    | true =>
      obtain ⟨Γ', e, hi'⟩ := h1 hq
      obtain ⟨k1, k2⟩ := for_search (t := t) Inv q ds Γ' hi' (fun d' hd => h d' (List.mem_cons_of_mem _ hd))
      rw [forRun_cons, e, andThen_nx, Bool.true_and]
      exact ⟨k1, k2⟩
section
variable {tb : Tbl} {n : Nat} {ns : List Int}
theorem law_is_number_ok {c : D} {l m : Int} (h : tb.fns.lookup 9 = some d__law_is_number) (hn : 1 ≤ n) : callD tb n 9 [.sh c, .sh (.int l), .sh (.int m)] = .ok (.sh (.bool (inR c l m))) [] := by
  obtain ⟨n, rfl⟩ : ∃ m, n = m + 1 := ⟨n - 1, by omega⟩
  rw [callD_of h rfl]
  cases c with
  | int i =>
    by_cases h1 : l ≤ i <;> simp [d__law_is_number, b__law_is_number, startE, outsOf, ioIx, isiD, inR, spure, h1]
  | _ => simp [d__law_is_number, b__law_is_number, startE, outsOf, ioIx, isiD, inR, spure]
theorem filter_empty {ds : List D} {q : D → Bool} {f : D → D} : (ds.filterMap fun d => if q d then none else some (f d)).isEmpty = ds.all q := by
  induction ds with
  | nil => rfl
  | cons d ds ih =>
    rw [List.filterMap_cons, List.all_cons]
    cases hq : q d
    · simp
    · simpa using ih
@[simp] theorem ixD_one {x y : D} {xs : List D} : ixD (.list (x :: y :: xs)) 1 = some y := by
  have := ixD_nat (ds := x :: y :: xs) (j := 1) (by simp)
  simpa using this
def lsFor : Ss := .cons (.iff (.or (.not (.val (.isi .tuple (.var 2)))) (.cmp .ne (.bi .len (.var 2)) (.bi .len (.ix (.var 0) (.num 0))))) (.cons (.ret (.bl false)) .nil) .nil) (.cons (.iff (.val (.lc (.num 1) [3, 4] false (.zip (.var 2) (.ix (.var 0) (.num 0))) (.not (.val (.call 9 (.cons (.var 3) (.cons (.num 0) (.cons (.bin .sub (.var 4) (.num 1)) .nil)))))) [3, 4] false)) (.cons (.ret (.bl false)) .nil) .nil) .nil)
theorem law_is_survey_ok {c : D} (h9 : tb.fns.lookup 9 = some d__law_is_number) (h10 : tb.fns.lookup 10 = some d__law_is_survey) (hn : 2 ≤ n) : callD tb n 10 [.sh c] = .ok (.sh (.bool (isSurvey c))) [] := by
  obtain ⟨n, rfl⟩ : ∃ m, n = m + 1 := ⟨n - 1, by omega⟩
  rw [callD_of h10 rfl]
  cases c with
  | tuple ds =>
    by_cases hl : ds.length = 2
    case neg => simp [d__law_is_survey, b__law_is_survey, startE, outsOf, ioIx, isiD, spure, isSurvey_len hl, show ¬ (ds.length : Int) = 2 by omega]
    match ds, hl with
    | [a, b], _ =>
      cases a with
      | tuple as =>
        by_cases a1 : 1 ≤ as.length
        · by_cases a2 : as.length ≤ 3
          · have hk : lcK (callD tb n) (.var 1) [1] true (.not (.val (.call 9 (.cons (.var 1) (.cons (.num 1) (.cons (.num 3) .nil)))))) [1] false as [some (.sh (.tuple [.tuple as, b])), none, none, none, none] = .ok (.t (ol (as.filterMap fun d => if inR d 1 3 then none else some d))) [some (.sh (.tuple [.tuple as, b])), none, none, none, none] := by
              refine lcK_pure _ (fun d => if inR d 1 3 then none else some d) (by omega) fun d _ => ?_
              cases hq : inR d 1 3 <;> simp [law_is_number_ok h9 (show 1 ≤ n by omega), hq]
            have he : (as.filterMap fun d => if inR d 1 3 then none else some d).isEmpty = as.all fun d => inR d 1 3 := filter_empty (f := id)
            generalize (as.filterMap fun d => if inR d 1 3 then none else some d) = fl at hk he
            cases ha : (as.all fun d => inR d 1 3) with
            | false =>
              have hfalse : isSurvey (.tuple [.tuple as, b]) = false := by simp only [isSurvey, areSizes, ha]; simp
              rw [ha] at he
              simp [d__law_is_survey, b__law_is_survey, startE, outsOf, ioIx, isiD, spure, show (1 : Int) ≤ as.length by omega, show (as.length : Int) ≤ 3 by omega, ev_lc, hk, he, hfalse]
            | true =>
              rw [ha] at he
              obtain ⟨ss, rfl, s3⟩ := all_inR ha
              rw [List.length_map] at a1 a2
              have hsz : areSizes (.tuple (ss.map PyData.int)) = true := by simp only [areSizes, ha, List.length_map]; simp [a1, a2]
              cases b with
              | tuple ps =>
                by_cases p1 : 1 ≤ ps.length
                · by_cases p2 : ps.length ≤ 8
                  · -- the people
                    have hfor := for_search (bind := bindTg true [2]) (body := exSs (callD tb n) lsFor) (t := .sh (.bool false)) (fun Γ => ∃ x, Γ = [some (.sh (.tuple [.tuple (ss.map PyData.int), .tuple ps])), none, x, none, none]) (isKind ss) ps [some (.sh (.tuple [.tuple (ss.map PyData.int), .tuple ps])), none, none, none, none] ⟨none, rfl⟩ (fun d hd Γ hi => by
                      obtain ⟨x, rfl⟩ := hi
                      by_cases htup : isiD .tuple d = true
                      case neg =>
                        have ht : isiD .tuple d = false := by simpa using htup
                        have hkd : isKind ss d = false := by cases d <;> first | rfl | cases ht
                        refine ⟨(fun q => by rw [hkd] at q; cases q), fun _ => ⟨[some (.sh (.tuple [.tuple (ss.map PyData.int), .tuple ps])), none, some (.sh d), none, none], ?_⟩⟩
                        simp [lsFor, ht, spure]
                      cases d with
                      | tuple gs =>
                        by_cases g1 : gs.length = ss.length
                        · have hk2 : lcK (callD tb n) (.num 1) [3, 4] false (.not (.val (.call 9 (.cons (.var 3) (.cons (.num 0) (.cons (.bin .sub (.var 4) (.num 1)) .nil)))))) [3, 4] false (zipD gs (ss.map PyData.int)) [some (.sh (.tuple [.tuple (ss.map PyData.int), .tuple ps])), none, some (.sh (.tuple gs)), none, none] = .ok (.t (ol ((zipD gs (ss.map PyData.int)).filterMap fun d => if grp d then none else some (.int 1)))) [some (.sh (.tuple [.tuple (ss.map PyData.int), .tuple ps])), none, some (.sh (.tuple gs)), none, none] := by
                            refine lcK_pure _ (fun d => if grp d then none else some (.int 1)) (by rw [zipD_len]; simp; omega) fun p hp => ?_
                            obtain ⟨u, v, rfl, _, hb⟩ := mem_zipD hp
                            obtain ⟨s, _, rfl⟩ := List.mem_map.mp hb
                            cases hq : grp (.tuple [u, .int s]) <;> simp [law_is_number_ok h9 (show 1 ≤ n by omega), spure, show inR u 0 (s - 1) = grp (.tuple [u, .int s]) from rfl, hq]
                          have he2 : ((zipD gs (ss.map PyData.int)).filterMap fun d => if grp d then none else some (PyData.int 1)).isEmpty = (zipD gs (ss.map PyData.int)).all grp := filter_empty (f := fun _ => .int 1)
                          rw [zip_grp] at he2
                          generalize ((zipD gs (ss.map PyData.int)).filterMap fun d => if grp d then none else some (PyData.int 1)) = fl2 at hk2 he2
                          cases hz : ((gs.zip ss).all fun p => inR p.1 0 (p.2 - 1)) with
                          | true =>
                            rw [hz] at he2
                            refine ⟨fun _ => ⟨[some (.sh (.tuple [.tuple (ss.map PyData.int), .tuple ps])), none, some (.sh (.tuple gs)), none, none], ?_, _, rfl⟩, fun q => ?_⟩
                            · simp [lsFor, isiD, spure, g1, ev_lc, hk2, he2]
                            · simp only [isKind, hz, g1] at q
                              simp at q
                          | false =>
                            rw [hz] at he2
                            refine ⟨fun q => ?_, fun _ => ⟨[some (.sh (.tuple [.tuple (ss.map PyData.int), .tuple ps])), none, some (.sh (.tuple gs)), none, none], ?_⟩⟩
                            · simp only [isKind, hz] at q
                              simp at q
                            · simp [lsFor, isiD, spure, g1, ev_lc, hk2, he2]
                        · refine ⟨fun q => ?_, fun _ => ⟨[some (.sh (.tuple [.tuple (ss.map PyData.int), .tuple ps])), none, some (.sh (.tuple gs)), none, none], ?_⟩⟩
                          · simp only [isKind, g1] at q
                            simp at q
                          · simp [lsFor, isiD, spure, show ¬ (gs.length : Int) = ss.length by omega]
                      | _ => cases htup)
                    cases hp : ps.all (isKind ss) with
                    | true =>
                      obtain ⟨Γ', e, x, rfl⟩ := hfor.1 hp
                      have htrue : isSurvey (.tuple [.tuple (ss.map PyData.int), .tuple ps]) = true := by
                        simp only [isSurvey, hsz, szs_map, arePeople, hp]
                        simp [p1, p2]
                      simp only [lsFor] at e
                      simp [d__law_is_survey, b__law_is_survey, startE, outsOf, ioIx, isiD, spure, show (1 : Int) ≤ ss.length by omega, show (ss.length : Int) ≤ 3 by omega, ev_lc, hk, he, show (1 : Int) ≤ ps.length by omega, show (ps.length : Int) ≤ 8 by omega, sFor, e, htrue]
                    | false =>
                      obtain ⟨Γ', e⟩ := hfor.2 hp
                      have hfalse : isSurvey (.tuple [.tuple (ss.map PyData.int), .tuple ps]) = false := by
                        simp only [isSurvey, hsz, szs_map, arePeople, hp]
                        simp
                      simp only [lsFor] at e
                      simp [d__law_is_survey, b__law_is_survey, startE, outsOf, ioIx, isiD, spure, show (1 : Int) ≤ ss.length by omega, show (ss.length : Int) ≤ 3 by omega, ev_lc, hk, he, show (1 : Int) ≤ ps.length by omega, show (ps.length : Int) ≤ 8 by omega, sFor, e, hfalse]
                  · simp [d__law_is_survey, b__law_is_survey, startE, outsOf, ioIx, isiD, spure, show (1 : Int) ≤ ss.length by omega, show (ss.length : Int) ≤ 3 by omega, ev_lc, hk, he, show (1 : Int) ≤ ps.length by omega, show ¬ (ps.length : Int) ≤ 8 by omega, isSurvey, arePeople, p2]
                · simp [d__law_is_survey, b__law_is_survey, startE, outsOf, ioIx, isiD, spure, show (1 : Int) ≤ ss.length by omega, show (ss.length : Int) ≤ 3 by omega, ev_lc, hk, he, show ¬ (1 : Int) ≤ ps.length by omega, isSurvey, arePeople, p1]
              | _ => simp [d__law_is_survey, b__law_is_survey, startE, outsOf, ioIx, isiD, spure, show (1 : Int) ≤ ss.length by omega, show (ss.length : Int) ≤ 3 by omega, ev_lc, hk, he, isSurvey, arePeople]
          · simp [d__law_is_survey, b__law_is_survey, startE, outsOf, ioIx, isiD, spure, show (1 : Int) ≤ as.length by omega, show ¬ (as.length : Int) ≤ 3 by omega, isSurvey, areSizes, a2]
        · simp [d__law_is_survey, b__law_is_survey, startE, outsOf, ioIx, isiD, spure, show ¬ (1 : Int) ≤ as.length by omega, isSurvey, areSizes, a1]
      | _ => simp [d__law_is_survey, b__law_is_survey, startE, outsOf, ioIx, isiD, spure, isSurvey, areSizes]
  | _ => simp [d__law_is_survey, b__law_is_survey, startE, outsOf, ioIx, isiD, spure, isSurvey]
end
end Z

set_option maxRecDepth 100000
set_option linter.all false
namespace Z
open PySem
/-- the loop of Euclid -/
theorem while_gcd {test : Env → Out Bool} {body : Env → SOut} (G : Int → Int → Env) (h1 : ∀ a b : Int, 0 ≤ a → 0 ≤ b → test (G a b) = .ok (b != 0) (G a b)) (h2 : ∀ a b : Int, 0 ≤ a → 0 < b → body (G a b) = .nx (G b (a.fmod b))) (a b : Nat) : whileRun test body (G a b) = .nx (G (Nat.gcd a b) 0) := by
  have key : ∀ (b a : Nat), ∃ m, whileN test body m (G a b) = some (.nx (G (Nat.gcd a b) 0)) := by
    intro b
    induction b using Nat.strongRecOn with
    | ind b ih =>
      intro a
      by_cases hb : b = 0
      · subst hb
        refine ⟨1, ?_⟩
        unfold whileN
        have e := h1 a 0 (by omega) (by omega)
        simp only [Int.natCast_zero, e]
        simp
      · have hlt : a % b < b := Nat.mod_lt _ (by omega)
        obtain ⟨m, hm⟩ := ih (a % b) hlt b
        refine ⟨m + 1, ?_⟩
        unfold whileN
        have e := h1 a b (by omega) (by omega)
        have hb' : ((b : Int) != 0) = true := by simp; omega
        rw [e, hb']
        simp only
        rw [h2 a b (by omega) (by omega)]
        simp only
        have hmod : (a : Int).fmod b = ((a % b : Nat) : Int) := by
          rw [Int.fmod_eq_emod_of_nonneg _ (by omega)]
          rfl
        rw [hmod, hm, Nat.gcd_comm b (a % b), ← Nat.gcd_rec, Nat.gcd_comm]
  obtain ⟨m, hm⟩ := key b a
  exact whileRun_of hm
@[simp] theorem exS_while {Φ : Nat → List T → FOut} {c : B} {body : Ss} {Γ : Env} : exS Φ (.whileS c body) Γ = whileRun (evB Φ false c) (exSs Φ body) Γ := by rw [exS]
theorem Nat.cast_natAbs' (i : Int) : (if i < 0 then -i else i) = (i.natAbs : Int) := by
  split <;> omega
section
variable {tb : Tbl} {n : Nat} {ns : List Int}
theorem common_divisor_ok {a b : Nat} (h : tb.fns.lookup 24 = some d_common_divisor) (hn : 1 ≤ n) : callD tb n 24 [.sh (.int a), .sh (.int b)] = .ok (.sh (.int (Nat.gcd a b))) [] := by
  obtain ⟨n, rfl⟩ : ∃ m, n = m + 1 := ⟨n - 1, by omega⟩
  rw [callD_of h rfl]
  have hw := while_gcd (test := evB (callD tb n) false (.val (.var 1))) (body := exSs (callD tb n) (.cons (.par [0, 1] (.cons (.var 1) (.cons (.bin .mod (.var 0) (.var 1)) .nil))) .nil)) (fun a b => [some (.sh (.int a)), some (.sh (.int b))]) (fun a b _ _ => by simp) (fun a b _ hb => by simp [spure, binI_mod (show b ≠ 0 by omega)]) a b
  simp [d_common_divisor, b_common_divisor, startE, outsOf, ioIx, hw]
def isIntD (d : D) : Bool := match d with
  | .int _ => true
  | _ => false
def isFrac (d : D) : Bool := match d with
  | .tuple [.int a, .int b] => decide (1 ≤ b) && decide (Nat.gcd a.natAbs b.natAbs = 1)
  | _ => false
theorem isFrac_len {ds : List D} (h : ds.length ≠ 2) : isFrac (.tuple ds) = false := by
  match ds, h with
  | [], _ => rfl
  | [_], _ => unfold isFrac; split <;> simp_all
  | [_, _], h => exact absurd rfl h
  | _ :: _ :: _ :: _, _ => unfold isFrac; split <;> simp_all
theorem is_fraction_ok {c : D} (h24 : tb.fns.lookup 24 = some d_common_divisor) (h25 : tb.fns.lookup 25 = some d_is_fraction) (hn : 2 ≤ n) : callD tb n 25 [.sh c] = .ok (.sh (.bool (isFrac c))) [] := by
  obtain ⟨n, rfl⟩ : ∃ m, n = m + 1 := ⟨n - 1, by omega⟩
  rw [callD_of h25 rfl]
  cases c with
  | tuple ds =>
    by_cases hl : ds.length = 2
    case neg => simp [d_is_fraction, b_is_fraction, startE, outsOf, ioIx, isiD, spure, isFrac_len hl, show ¬ (ds.length : Int) = 2 by omega]
    match ds, hl with
    | [x, y], _ =>
      have hk : lcK (callD tb n) (.bool (.and (.val (.isi .int (.var 1))) (.not (.val (.isi .bool (.var 1)))))) [1] true .tt [1] false [x, y] [some (.sh (.tuple [x, y])), none] = .ok (.t (ol ([x, y].map fun d => .bool (isIntD d)))) [some (.sh (.tuple [x, y])), none] := by
        refine lcK_map _ _ (by simp) fun d _ => ?_
        cases d <;> simp [isiD, isIntD]
      have hall : biT .all (ol ([x, y].map fun d => PyData.bool (isIntD d))) = some (.sh (.bool ([x, y].all isIntD))) := map_all
      by_cases hxy : [x, y].all isIntD = true
      · obtain ⟨a, rfl⟩ : ∃ a, x = .int a := by cases x <;> simp [isIntD] at hxy ⊢
        obtain ⟨b, rfl⟩ : ∃ b, y = .int b := by cases y <;> simp [isIntD] at hxy ⊢
        simp [isIntD] at hk hall
        by_cases hb : b < 1
        · simp [d_is_fraction, b_is_fraction, startE, outsOf, ioIx, isiD, spure, ev_lc, hk, hall, hb, isFrac, show ¬ 1 ≤ b by omega]
        · have hcd := common_divisor_ok (tb := tb) (n := n) (a := a.natAbs) (b := b.natAbs) h24 (by omega)
          have hbb : (b.natAbs : Int) = b := by omega
          rw [hbb] at hcd
          simp [d_is_fraction, b_is_fraction, startE, outsOf, ioIx, isiD, spure, ev_lc, hk, hall, hb, isFrac, show 1 ≤ b by omega, Nat.cast_natAbs', hcd]
          omega
      · have hf : isFrac (.tuple [x, y]) = false := by
          cases x <;> cases y <;> simp [isIntD] at hxy <;> rfl
        have hxy' : [x, y].all isIntD = false := by simpa using hxy
        rw [hxy'] at hall
        simp at hk hall
        simp [d_is_fraction, b_is_fraction, startE, outsOf, ioIx, isiD, spure, ev_lc, hk, hall, hf]
  | _ => simp [d_is_fraction, b_is_fraction, startE, outsOf, ioIx, isiD, spure, isFrac]
theorem require_survey_ok {c : D} (h1 : tb.fns.lookup 1 = some d_is_integer) (h2 : tb.fns.lookup 2 = some d_are_sizes) (h3 : tb.fns.lookup 3 = some d_is_kind) (h4 : tb.fns.lookup 4 = some d_is_survey) (h12 : tb.fns.lookup 12 = some d_require_survey) (hn : 4 ≤ n) (hc : isSurvey c = true) : callD tb n 12 [.sh c] = .ok (.sh .none) [] := by
  obtain ⟨n, rfl⟩ : ∃ m, n = m + 1 := ⟨n - 1, by omega⟩
  rw [callD_of h12 rfl]
  simp [d_require_survey, b_require_survey, startE, outsOf, ioIx, is_survey_ok h1 h2 h3 h4 (show 3 ≤ n by omega), hc]
theorem require_survey_no {c : D} (h1 : tb.fns.lookup 1 = some d_is_integer) (h2 : tb.fns.lookup 2 = some d_are_sizes) (h3 : tb.fns.lookup 3 = some d_is_kind) (h4 : tb.fns.lookup 4 = some d_is_survey) (h12 : tb.fns.lookup 12 = some d_require_survey) (hn : 4 ≤ n) (hc : isSurvey c = false) : callD tb n 12 [.sh c] = .ex 1 [] := by
  obtain ⟨n, rfl⟩ : ∃ m, n = m + 1 := ⟨n - 1, by omega⟩
  rw [callD_of h12 rfl]
  simp [d_require_survey, b_require_survey, startE, outsOf, ioIx, is_survey_ok h1 h2 h3 h4 (show 3 ≤ n by omega), hc]
theorem isKind_of {ss p : List Int} (h : KindOk ss p) : isKind ss (intT p) = true := by
  obtain ⟨hl, hz⟩ := h
  unfold isKind
  simp only [List.length_map, hl]
  have : ∀ (p ss : List Int), (∀ x ∈ p.zip ss, 0 ≤ x.1 ∧ x.1 < x.2) → (((p.map PyData.int).zip ss).all fun q => inR q.1 0 (q.2 - 1)) = true := by
    intro p
    induction p with
    | nil => intro ss _; simp
    | cons i p ih =>
      intro ss h
      cases ss with
      | nil => simp
      | cons s ss =>
        rw [List.map_cons, List.zip_cons_cons, List.all_cons, ih ss (fun x hx => h x (by rw [List.zip_cons_cons]; exact List.mem_cons_of_mem _ hx))]
        have := h (i, s) (by rw [List.zip_cons_cons]; exact List.mem_cons_self)
        simp at this
        simp [inR]
        omega
  simp [this p ss hz]
theorem inR_of {i l m : Int} (h1 : l ≤ i) (h2 : i ≤ m) : inR (.int i) l m = true := by simp [inR, h1, h2]
theorem areSizes_sv {ss : List Int} (h1 : 1 ≤ ss.length) (h2 : ss.length ≤ 3) (h : ∀ s ∈ ss, 1 ≤ s ∧ s ≤ 3) : areSizes (intT ss) = true := by
  have hall : ((ss.map PyData.int).all fun d => inR d 1 3) = true := by
    rw [List.all_eq_true]
    intro d hd
    obtain ⟨s, hs, rfl⟩ := List.mem_map.mp hd
    exact inR_of (h s hs).1 (h s hs).2
  simp only [areSizes, hall, List.length_map]
  simp [h1, h2]
theorem isSurvey_sv {ss : List Int} {ps : List (List Int)} {most : Nat} (h : SvOk ss ps most) (hm : most ≤ 8) : isSurvey (svD ss ps) = true := by
  have hall : (ps.map intT).all (isKind ss) = true := by
    rw [List.all_eq_true]
    intro d hd
    obtain ⟨p, hp, rfl⟩ := List.mem_map.mp hd
    exact isKind_of (h.kd p hp)
  have := h.p1
  have := h.pm
  simp only [isSurvey, areSizes_sv h.s1 h.s3 h.sz, szs_map, arePeople, hall, List.length_map]
  simp
  omega
/-- the people of a survey are no survey -/
theorem isSurvey_people {ps : List (List Int)} : isSurvey (.tuple (ps.map intT)) = false := by
  match ps with
  | [] => rfl
  | [_] => rfl
  | [p, q] =>
    show (areSizes (intT p) && arePeople (szs (intT p)) (intT q)) = false
    cases q with
    | nil => simp [arePeople]
    | cons i q => simp [arePeople, isKind]
  | _ :: _ :: _ :: _ => rfl
def areNums (k : Nat) (d : D) : Bool := match d with
  | .tuple ds => decide (ds.length = k) && ds.all isFrac
  | _ => false
theorem are_numbers_ok {a b : D} {ps : List D} {c : D} (hb : b = .tuple ps) (hps : ps.length ≤ 8) (h24 : tb.fns.lookup 24 = some d_common_divisor) (h25 : tb.fns.lookup 25 = some d_is_fraction) (h26 : tb.fns.lookup 26 = some d_are_numbers) (hn : 3 ≤ n) : callD tb n 26 [.sh (.tuple [a, b]), .sh c] = .ok (.sh (.bool (areNums ps.length c))) [] := by
  subst hb
  obtain ⟨n, rfl⟩ : ∃ m, n = m + 1 := ⟨n - 1, by omega⟩
  rw [callD_of h26 rfl]
  cases c with
  | tuple ds =>
    by_cases hl : ds.length = ps.length
    · have hk : lcK (callD tb n) (.call 25 (.cons (.var 2) .nil)) [2] true .tt [2] false ds [some (.sh (.tuple [a, .tuple ps])), some (.sh (.tuple ds)), none] = .ok (.t (ol (ds.map fun d => .bool (isFrac d)))) [some (.sh (.tuple [a, .tuple ps])), some (.sh (.tuple ds)), none] := by
        refine lcK_map _ _ (by omega) fun d _ => ?_
        simp [is_fraction_ok h24 h25 (show 2 ≤ n by omega)]
      simp [d_are_numbers, b_are_numbers, startE, outsOf, ioIx, isiD, spure, hl, ev_lc, hk, map_all, areNums]
    · simp [d_are_numbers, b_are_numbers, startE, outsOf, ioIx, isiD, spure, hl, show ¬ (ds.length : Int) = ps.length by omega, areNums]
  | _ => simp [d_are_numbers, b_are_numbers, startE, outsOf, ioIx, isiD, spure, areNums]
def topNN (d : D) : Bool := match d with
  | .tuple (.int a :: _) => decide (0 ≤ a)
  | _ => false
def arePos (k : Nat) (d : D) : Bool := areNums k d && match d with
  | .tuple ds => ds.all topNN
  | _ => false
theorem isFrac_is {d : D} (h : isFrac d = true) : ∃ a b : Int, d = .tuple [.int a, .int b] ∧ 1 ≤ b ∧ Nat.gcd a.natAbs b.natAbs = 1 := by
  unfold isFrac at h
  split at h
  · simp at h
    exact ⟨_, _, rfl, h.1, h.2⟩
  · cases h
theorem are_positive_ok {a b : D} {ps : List D} {c : D} (hb : b = .tuple ps) (hps : ps.length ≤ 8) (h24 : tb.fns.lookup 24 = some d_common_divisor) (h25 : tb.fns.lookup 25 = some d_is_fraction) (h26 : tb.fns.lookup 26 = some d_are_numbers) (h27 : tb.fns.lookup 27 = some d_are_positive) (hn : 4 ≤ n) : callD tb n 27 [.sh (.tuple [a, b]), .sh c] = .ok (.sh (.bool (arePos ps.length c))) [] := by
  obtain ⟨n, rfl⟩ : ∃ m, n = m + 1 := ⟨n - 1, by omega⟩
  rw [callD_of h27 rfl]
  have e1 := are_numbers_ok (tb := tb) (n := n) (a := a) (c := c) hb hps h24 h25 h26 (by omega)
  cases hc : areNums ps.length c with
  | false =>
    rw [hc] at e1
    simp [d_are_positive, b_are_positive, startE, outsOf, ioIx, e1, arePos, hc]
  | true =>
    rw [hc] at e1
    cases c with
    | tuple ds =>
      simp [areNums] at hc
      have hk : lcK (callD tb n) (.bool (.cmp .ge (.ix (.var 2) (.num 0)) (.num 0))) [2] true .tt [2] false ds [some (.sh (.tuple [a, b])), some (.sh (.tuple ds)), none] = .ok (.t (ol (ds.map fun d => .bool (topNN d)))) [some (.sh (.tuple [a, b])), some (.sh (.tuple ds)), none] := by
        refine lcK_map _ _ (by omega) fun d hd => ?_
        obtain ⟨x, y, rfl, _, _⟩ := isFrac_is (hc.2 d hd)
        simp [spure, topNN]
      have hn2 : areNums ps.length (.tuple ds) = true := by simp [areNums]; exact hc
      simp [d_are_positive, b_are_positive, startE, outsOf, ioIx, e1, arePos, hn2, ev_lc, hk, map_all]
    | _ => cases hc
theorem are_weights_ok {ss : List Int} {ps : List (List Int)} {most : Nat} {c : D} (hv : SvOk ss ps most) (hm : most ≤ 8) (h1 : tb.fns.lookup 1 = some d_is_integer) (h2 : tb.fns.lookup 2 = some d_are_sizes) (h3 : tb.fns.lookup 3 = some d_is_kind) (h4 : tb.fns.lookup 4 = some d_is_survey) (h12 : tb.fns.lookup 12 = some d_require_survey) (h24 : tb.fns.lookup 24 = some d_common_divisor) (h25 : tb.fns.lookup 25 = some d_is_fraction) (h26 : tb.fns.lookup 26 = some d_are_numbers) (h27 : tb.fns.lookup 27 = some d_are_positive) (h28 : tb.fns.lookup 28 = some d_are_weights) (hn : 5 ≤ n) :
    callD tb n 28 [.sh (svD ss ps), .sh c] = .ok (.sh (.bool (arePos ps.length c))) [] := by
  obtain ⟨n, rfl⟩ : ∃ m, n = m + 1 := ⟨n - 1, by omega⟩
  rw [callD_of h28 rfl]
  have e1 := require_survey_ok (tb := tb) (n := n) h1 h2 h3 h4 h12 (by omega) (isSurvey_sv hv hm)
  have e2 := are_positive_ok (tb := tb) (n := n) (a := intT ss) (b := .tuple (ps.map intT)) (ps := ps.map intT) (c := c) rfl (by simp; have := hv.pm; omega) h24 h25 h26 h27 (by omega)
  rw [List.length_map] at e2
  simp [d_are_weights, b_are_weights, startE, outsOf, ioIx, e1, e2]
end
end Z

set_option maxRecDepth 100000
set_option linter.all false
namespace Z
open PySem
section
variable {tb : Tbl} {n : Nat} {ns : List Int}
/-- the lowest terms that the laws make -/
def lowT (a b : Int) : Int := ((if b > 0 then 1 else -1) * a).fdiv (Nat.gcd a.natAbs b.natAbs)
def lowB (a b : Int) : Int := (b.natAbs : Int).fdiv (Nat.gcd a.natAbs b.natAbs)
theorem gcd_small {a b : Int} (hb : b ≠ 0) (h : b.natAbs < 1073741824) : 0 < Nat.gcd a.natAbs b.natAbs ∧ Nat.gcd a.natAbs b.natAbs < 1073741824 := by
  have h1 : 0 < b.natAbs := by omega
  exact ⟨Nat.gcd_pos_of_pos_right _ h1, Nat.lt_of_le_of_lt (Nat.gcd_le_right _ h1) h⟩
theorem mulOk_lt {i j : Int} {k l : Nat} (hi : i.natAbs < 2 ^ k) (hj : j.natAbs < 2 ^ l) (h : k + l ≤ 90000000) : mulOk i j = true := by
  have key : ∀ {n m : Nat}, n < 2 ^ m → n.log2 ≤ m := fun {n m} hn => by
    by_cases h0 : n = 0
    · subst h0; exact Nat.zero_le _
    · exact Nat.le_of_lt ((Nat.log2_lt h0).mpr hn)
  have h1 := key hi
  have h2 := key hj
  unfold mulOk
  exact decide_eq_true (by omega)
theorem law_fraction_ok {a b : Int} {k : Nat} (hb : b ≠ 0) (ha : a.natAbs < 2 ^ k) (hk : k ≤ 80000000) (h29 : tb.fns.lookup 29 = some d__law_fraction) (hn : 1 ≤ n) : callD tb n 29 [.sh (.int a), .sh (.int b)] = .ok (.sh (.tuple [.int (lowT a b), .int (lowB a b)])) [] := by
  obtain ⟨n, rfl⟩ : ∃ m, n = m + 1 := ⟨n - 1, by omega⟩
  rw [callD_of h29 rfl]
  have hw := while_gcd (test := evB (callD tb n) false (.val (.var 3))) (body := exSs (callD tb n) (.cons (.par [2, 3] (.cons (.var 3) (.cons (.bin .mod (.var 2) (.var 3)) .nil))) .nil)) (fun x y => [some (.sh (.int a)), some (.sh (.int b)), some (.sh (.int x)), some (.sh (.int y)), none]) (fun a b _ _ => by simp) (fun a b _ hb => by simp [spure, binI_mod (show b ≠ 0 by omega)]) a.natAbs b.natAbs
  have g1 : 0 < Nat.gcd a.natAbs b.natAbs := Nat.gcd_pos_of_pos_right _ (by omega)
  have f : ∀ x : Int, binI .fdiv x (Nat.gcd a.natAbs b.natAbs) = some (.int (x.fdiv (Nat.gcd a.natAbs b.natAbs))) := fun x => binI_fdiv (by omega)
  by_cases hp : 0 < b
  · have m1 : binI .mul 1 a = some (.int (1 * a)) := binI_mul (mulOk_lt (k := 1) (by decide) ha (by omega))
    simp [d__law_fraction, b__law_fraction, startE, outsOf, ioIx, Nat.cast_natAbs', hw, hp, spure, m1, f, lowT, lowB]
  · have m1 : binI .mul (-1) a = some (.int (-1 * a)) := binI_mul (mulOk_lt (k := 1) (by decide) ha (by omega))
    simp [d__law_fraction, b__law_fraction, startE, outsOf, ioIx, Nat.cast_natAbs', hw, hp, spure, m1, f, lowT, lowB]
def isFracN (d : D) : Bool := isFrac d && topNN d
theorem law_is_fraction_ok {c : D} (h31 : tb.fns.lookup 31 = some d__law_is_fraction) (hn : 1 ≤ n) : callD tb n 31 [.sh c] = .ok (.sh (.bool (isFracN c))) [] := by
  obtain ⟨n, rfl⟩ : ∃ m, n = m + 1 := ⟨n - 1, by omega⟩
  rw [callD_of h31 rfl]
  cases c with
  | tuple ds =>
    by_cases hl : ds.length = 2
    case neg => simp [d__law_is_fraction, b__law_is_fraction, startE, outsOf, ioIx, isiD, spure, isFracN, isFrac_len hl, show ¬ (ds.length : Int) = 2 by omega]
    match ds, hl with
    | [x, y], _ =>
      have hk : lcK (callD tb n) (.var 1) [1] true (.or (.not (.val (.isi .int (.var 1)))) (.val (.isi .bool (.var 1)))) [1] false [x, y] [some (.sh (.tuple [x, y])), none, none] = .ok (.t (ol ([x, y].filterMap fun d => if isIntD d then none else some d))) [some (.sh (.tuple [x, y])), none, none] := by
        refine lcK_pure _ (fun d => if isIntD d then none else some d) (by simp) fun d _ => ?_
        cases d <;> simp [isiD, isIntD]
      have he : ([x, y].filterMap fun d => if isIntD d then none else some d).isEmpty = [x, y].all isIntD := filter_empty (f := id)
      generalize ([x, y].filterMap fun d => if isIntD d then none else some d) = fl at hk he
      by_cases hxy : [x, y].all isIntD = true
      · rw [hxy] at he
        obtain ⟨a, rfl⟩ : ∃ a, x = .int a := by cases x <;> simp [isIntD] at hxy ⊢
        obtain ⟨b, rfl⟩ : ∃ b, y = .int b := by cases y <;> simp [isIntD] at hxy ⊢
        by_cases hb : b < 1
        · simp [d__law_is_fraction, b__law_is_fraction, startE, outsOf, ioIx, isiD, spure, ev_lc, hk, he, hb, isFracN, isFrac, show ¬ 1 ≤ b by omega]
        · by_cases ha : a < 0
          · simp [d__law_is_fraction, b__law_is_fraction, startE, outsOf, ioIx, isiD, spure, ev_lc, hk, he, hb, ha, isFracN, topNN, show ¬ 0 ≤ a by omega]
          · have hw := while_gcd (test := evB (callD tb n) false (.val (.var 2))) (body := exSs (callD tb n) (.cons (.par [1, 2] (.cons (.var 2) (.cons (.bin .mod (.var 1) (.var 2)) .nil))) .nil)) (fun x y => [some (.sh (.tuple [.int a, .int b])), some (.sh (.int x)), some (.sh (.int y))]) (fun a b _ _ => by simp) (fun a b _ hb => by simp [spure, binI_mod (show b ≠ 0 by omega)]) a.natAbs b.natAbs
            rw [show (a.natAbs : Int) = a by omega, show (b.natAbs : Int) = b by omega] at hw
            simp [d__law_is_fraction, b__law_is_fraction, startE, outsOf, ioIx, isiD, spure, ev_lc, hk, he, hb, ha, hw, isFracN, isFrac, topNN, show 1 ≤ b by omega, show 0 ≤ a by omega]
            omega
      · have hf : isFrac (.tuple [x, y]) = false := by
          cases x <;> cases y <;> simp [isIntD] at hxy <;> rfl
        have hxy' : [x, y].all isIntD = false := by simpa using hxy
        rw [hxy'] at he
        simp [d__law_is_fraction, b__law_is_fraction, startE, outsOf, ioIx, isiD, spure, ev_lc, hk, he, isFracN, hf]
  | _ => simp [d__law_is_fraction, b__law_is_fraction, startE, outsOf, ioIx, isiD, spure, isFracN, isFrac]
/-- weights as data -/
abbrev frD (p : Int × Int) : D := .tuple [.int p.1, .int p.2]
abbrev frsD (ws : List (Int × Int)) : D := .tuple (ws.map frD)
theorem law_weights_ok {t : T} {a : D} {ps : List D} {L : Nat} (h5 : tb.fns.lookup 5 = some d__law_draw) (h29 : tb.fns.lookup 29 = some d__law_fraction) (h30 : tb.fns.lookup 30 = some d__law_weights) (hn : 2 ≤ n) (hns : ns.length ≤ 63) (hs : StOk L t) (hps : ps.length ≤ 100) (hL : L + 4 * ps.length ≤ 1000000) :
    ∃ (vs : List (Int × Int)) (t' : T), callD tb n 30 [script ns, t, .sh (.tuple [a, .tuple ps])] = .ok (.sh (frsD (vs.map fun v => (lowT v.1 v.2, lowB v.1 v.2)))) [t'] ∧ vs.length = ps.length ∧ (∀ v ∈ vs, 0 ≤ v.1 ∧ v.1 < 7 ∧ 1 ≤ v.2 ∧ v.2 ≤ 4) ∧ StOk (L + 4 * ps.length) t' := by
  obtain ⟨n, rfl⟩ : ∃ m, n = m + 1 := ⟨n - 1, by omega⟩
  rw [callD_of h30 rfl]
  obtain ⟨Γ', e, t', x4, vs, rfl, hl, hv, st⟩ := for_inv (bind := bindTg true [4]) (body := exSs (callD tb n) (.cons (.app 3 (.call 29 (.cons (.call 5 (.cons (.var 0) (.cons (.io 1) (.cons (.num 7) .nil)))) (.cons (.bin .add (.num 1) (.call 5 (.cons (.var 0) (.cons (.io 1) (.cons (.num 4) .nil))))) .nil)))) .nil))
    (fun j Γ => ∃ (t' : T) (x4 : Option T) (vs : List (Int × Int)), Γ = [some (script ns), some t', some (.sh (.tuple [a, .tuple ps])), some (ol (vs.map fun v => frD (lowT v.1 v.2, lowB v.1 v.2))), x4] ∧ vs.length = j ∧ (∀ v ∈ vs, 0 ≤ v.1 ∧ v.1 < 7 ∧ 1 ≤ v.2 ∧ v.2 ≤ 4) ∧ StOk (L + 4 * j) t') ps 0 [some (script ns), some t, some (.sh (.tuple [a, .tuple ps])), some (ol []), none]
    ⟨t, none, [], rfl, rfl, (fun v hv => by cases hv), hs⟩ (fun j d Γ hj hi => by
      obtain ⟨t', x4, vs, rfl, hl, hv, st⟩ := hi
      have hj2 : j < ps.length := (List.getElem?_eq_some_iff.mp hj).1
      rw [Nat.zero_add] at hl st ⊢
      obtain ⟨v1, t1, e1, a1, b1, s1⟩ := ev_draw (tb := tb) (n := n) (ns := ns) (Γ := [some (script ns), some t', some (.sh (.tuple [a, .tuple ps])), some (ol (vs.map fun v => frD (lowT v.1 v.2, lowB v.1 v.2))), some (.sh d)]) (e := .num 7) (k0 := 0) (k1 := 1) (many := 7) h5 (by omega) hns rfl rfl (by simp) rfl st (by omega) (by omega)
      obtain ⟨v2, t2, e2, a2, b2, s2⟩ := ev_draw (tb := tb) (n := n) (ns := ns) (Γ := [some (script ns), some t1, some (.sh (.tuple [a, .tuple ps])), some (ol (vs.map fun v => frD (lowT v.1 v.2, lowB v.1 v.2))), some (.sh d)]) (e := .num 4) (k0 := 0) (k1 := 1) (many := 4) h5 (by omega) hns rfl rfl (by simp) rfl s1 (by omega) (by omega)
      have e3 := law_fraction_ok (tb := tb) (n := n) (a := v1) (b := 1 + v2) (k := 3) (by omega) (show v1.natAbs < 8 by omega) (by omega) h29 (by omega)
      refine ⟨[some (script ns), some t2, some (.sh (.tuple [a, .tuple ps])), some (ol ((vs ++ [(v1, 1 + v2)]).map fun v => frD (lowT v.1 v.2, lowB v.1 v.2))), some (.sh d)], ?_, t2, _, vs ++ [(v1, 1 + v2)], rfl, by simp [hl], fun v hv' => ?_, s2.mono (by omega)⟩
      · have hl2 : vs.length ≤ 1000000 := by omega
        simp at e1 e2
        simp [e1, e2, e3, hl2]
      · rcases List.mem_append.mp hv' with hv' | hv'
        · exact hv v hv'
        · simp at hv'
          subst hv'
          exact ⟨a1, b1, by show 1 ≤ 1 + v2; omega, by show 1 + v2 ≤ 4; omega⟩)
  rw [Nat.zero_add] at hl st
  refine ⟨vs, t', ?_, hl, hv, st⟩
  simp [d__law_weights, b__law_weights, startE, outsOf, ioIx, spure, sFor, e]
end
end Z

set_option maxRecDepth 100000
set_option linter.all false
namespace Z
open PySem
/-! tables: a list of lists of ints -/
def tab (gs : List (List Int)) : T := .ol (gs.map fun r => ol (r.map PyData.int))
theorem ixJ_nat {m j : Nat} (h : j < m) : ixJ m (j : Int) = some j := by
  show L2.ixN m (j : Int) = some j
  unfold L2.ixN
  simp [h]
theorem ixAt_tab {k : Nat} {gs : List (List Int)} {j : Nat} (h : j < gs.length) : ixAt k [] (tab gs) (j : Int) = some (.at k [j]) := by
  unfold tab ixAt
  simp only [List.length_map, ixJ_nat h]
  simp [List.getElem?_map, List.getElem?_eq_getElem h, ol]
theorem sub_tab {gs : List (List Int)} {j : Nat} {r : List Int} (h : gs[j]? = some r) : sub (tab gs) [j] = some (ol (r.map PyData.int)) := by
  unfold tab
  rw [sub]
  unfold kid
  simp [h]
theorem putP_tab {Γ : Env} {k : Nat} {gs : List (List Int)} {j : Nat} {r : List Int} {i : Nat} {v : Int} (h : gs[j]? = some r) (hi : i < r.length) : putP Γ k [j] (i : Int) (.sh (.int v)) (tab gs) (some (ol (r.map PyData.int))) = .nx (Γ.set k (some (tab (gs.set j (r.set i v))))) := by
  unfold putP ol
  simp only [List.length_map]
  rw [ixJ_nat hi]
  simp only
  congr 3
  unfold tab
  rw [putT]
  simp only [List.getElem?_map, h, Option.map_some, putT]
  congr 1
  rw [List.map_set]
  congr 1
  unfold ol
  congr 1
  rw [List.map_set, List.map_set]
theorem fz_tab (gs : List (List Int)) : (tab gs).fz = some (.list (gs.map fun r => .list (r.map PyData.int))) := by
  unfold tab T.fz
  have : ∀ gs : List (List Int), T.fzs (gs.map fun r => ol (r.map PyData.int)) = some (gs.map fun r => .list (r.map PyData.int)) := by
    intro gs
    induction gs with
    | nil => rfl
    | cons r gs ih => rw [List.map_cons, T.fzs, ih, fz_ol]; rfl
  rw [this]
  rfl
@[simp] theorem escAt_tab {k : Nat} {Γ : Env} {gs : List (List Int)} : escAt k Γ (some (tab gs)) = .ok (.sh (.list (gs.map fun r => .list (r.map PyData.int)))) (Γ.set k (some (.sh (.list (gs.map fun r => .list (r.map PyData.int)))))) := by
  unfold escAt
  simp [fz_tab]
@[simp] theorem evVar_tab {i : Nat} {gs : List (List Int)} {Γ : Env} : evVar i (some (some (tab gs))) Γ = .ok (.at i []) Γ := rfl
section
variable (Φ : Nat → List T → FOut)
theorem lcK_own {elt : E} {tg : List Nat} {one : Bool} {c : B} {vs : List Nat} {ds : List D} {Γ : Env} (f : D → T) (hl : ds.length ≤ 1000000)
    (h : ∀ d ∈ ds, lcTurn (bindTg one tg) (evB Φ false c) (evElt Φ elt true) vs d (wipeΓ Γ vs) = .ok [f d] (wipeΓ Γ vs)) : lcK Φ elt tg one c vs true ds Γ = .ok (.t (.ol (ds.map f))) Γ := by
  unfold lcK
  rw [if_pos (lineOk_iff.mpr hl), lcRun_map (fun d => [f d]) ds h, lcEnd_ok]
  show Out.ok _ (backE vs 0 Γ (hideE vs 0 Γ)) = _
  rw [back_hide]
  congr 3
  induction ds with
  | nil => rfl
  | cons d ds ih => rw [List.flatMap_cons, ih (by simp at hl; omega) (fun d hd => h d (List.mem_cons_of_mem _ hd))]; rfl
end
theorem sum_set : ∀ {r : List Int} {i : Nat} {x v : Int}, r[i]? = some x → (r.set i (x + v)).sum = r.sum + v
  | [], i, x, v, h => by simp at h
  | y :: r, 0, x, v, h => by simp at h; subst h; simp; omega
  | y :: r, i + 1, x, v, h => by
    have := sum_set (r := r) (i := i) (x := x) (v := v) (by simpa using h)
    simp [this]
    omega
def RowOk (s : Int) (r : List Int) (N : Int) : Prop := (r.length : Int) = s ∧ (∀ x ∈ r, 0 ≤ x) ∧ r.sum = N
def TabI (ss : List Int) (gs : List (List Int)) (f : Nat → Int) : Prop := gs.length = ss.length ∧ ∀ (j : Nat) (s : Int) (r : List Int), ss[j]? = some s → gs[j]? = some r → RowOk s r (f j)
def zeros (ss : List Int) : List (List Int) := ss.map fun s => List.replicate s.toNat 0
theorem tabI_zero {ss : List Int} (h : ∀ s ∈ ss, 1 ≤ s ∧ s ≤ 3) : TabI ss (zeros ss) fun _ => 0 := by
  refine ⟨by simp [zeros], fun j s r hs hr => ?_⟩
  simp [zeros, hs] at hr
  subst hr
  have := h s (List.mem_of_getElem? hs)
  refine ⟨by simp; omega, fun x hx => ?_, by simp⟩
  have := List.eq_of_mem_replicate hx
  omega
theorem TabI.congr {ss : List Int} {gs : List (List Int)} {f g : Nat → Int} (h : TabI ss gs f) (e : ∀ j, j < ss.length → f j = g j) : TabI ss gs g := by
  refine ⟨h.1, fun j s r hs hr => ?_⟩
  have := h.2 j s r hs hr
  rwa [e j (List.getElem?_eq_some_iff.mp hs).1] at this
theorem TabI.bump {ss : List Int} {gs : List (List Int)} {f : Nat → Int} {j i : Nat} {r : List Int} {x v : Int} (h : TabI ss gs f) (hr : gs[j]? = some r) (hx : r[i]? = some x) (hv : 0 ≤ v) : TabI ss (gs.set j (r.set i (x + v))) fun k => if k = j then f k + v else f k := by
  refine ⟨by rw [List.length_set]; exact h.1, fun k s r' hs hr' => ?_⟩
  by_cases hk : k = j
  · subst hk
    have hl := (List.getElem?_eq_some_iff.mp hr).1
    rw [List.getElem?_set_self hl] at hr'
    cases hr'
    obtain ⟨a, b, c⟩ := h.2 k s r hs hr
    refine ⟨by rw [List.length_set]; exact a, fun y hy => ?_, by rw [sum_set hx, c]; simp⟩
    rcases List.mem_or_eq_of_mem_set hy with hy | hy
    · exact b y hy
    · have := b x (List.mem_of_getElem? hx)
      omega
  · rw [List.getElem?_set_ne (fun e => hk e.symm)] at hr'
    have := h.2 k s r' hs hr'
    simpa [hk] using this
theorem TabI.row {ss : List Int} {gs : List (List Int)} {f : Nat → Int} (h : TabI ss gs f) {j : Nat} (hj : j < ss.length) : ∃ s r, ss[j]? = some s ∧ gs[j]? = some r ∧ RowOk s r (f j) := by
  have h1 : ss[j]? = some ss[j] := List.getElem?_eq_getElem hj
  have h2 : gs[j]? = some (gs[j]'(by rw [h.1]; exact hj)) := List.getElem?_eq_getElem _
  exact ⟨_, _, h1, h2, h.2 _ _ _ h1 h2⟩
section
variable {tb : Tbl} {n : Nat} {ns : List Int}
theorem ex_bump {Φ : Nat → List T → FOut} {Γ : Env} {gs : List (List Int)} {j i : Nat} {r : List Int} {x v : Int} {e : E} (h5 : Γ[5]? = some (some (tab gs))) (h9 : Γ[9]? = some (some (.sh (.int j)))) (h10 : Γ[10]? = some (some (.sh (.int i)))) (hr : gs[j]? = some r) (hx : r[i]? = some x) (he : ev Φ e Γ = .ok (.t (.sh (.int v))) Γ) (hsp : spure e = true) :
    exS Φ (.setP (.ix (.var 5) (.var 9)) (.var 10) (.bin .add (.ix (.ix (.var 5) (.var 9)) (.var 10)) e)) Γ = .nx (Γ.set 5 (some (tab (gs.set j (r.set i (x + v)))))) := by
  have hj := (List.getElem?_eq_some_iff.mp hr).1
  have hi := (List.getElem?_eq_some_iff.mp hx).1
  have hxi : ixD (.list (r.map PyData.int)) (i : Int) = some (.int x) := by
    rw [ixD_nat (by simpa using hi)]
    simp [hx]
  simp [h5, h9, h10, spure, hsp, ixAt_tab hj, sub_tab hr, hxi, he, putP_tab hr hi]
/-- the numbers of a goal: rows of the sizes' lengths, with one sum -/
def GoalOk (ss : List Int) (gs : List (List Int)) (N : Int) : Prop := TabI ss gs (fun _ => N) ∧ 1 ≤ N ∧ N ≤ 40
abbrev goalD (gs : List (List Int)) : D := .tuple (gs.map intT)
def perB : Ss := .cons (.asg true [10] (.ix (.var 7) (.var 9)))
  (.cons (.setP (.ix (.var 5) (.var 9)) (.var 10) (.bin .add (.ix (.ix (.var 5) (.var 9)) (.var 10)) (.var 8)))
  .nil)
def pplB : Ss := .cons (.asg true [8] (.call 5 (.cons (.var 0) (.cons (.io 1) (.cons (.num 6) .nil)))))
  (.cons (.forS true [9] (.rng (.bi .len (.var 3))) perB)
  .nil)
def stpB : Ss := .cons (.asg true [10] (.call 5 (.cons (.var 0) (.cons (.io 1) (.cons (.ix (.var 3) (.var 9)) .nil)))))
  (.cons (.setP (.ix (.var 5) (.var 9)) (.var 10) (.bin .add (.ix (.ix (.var 5) (.var 9)) (.var 10)) (.num 1)))
  .nil)
def trtB : Ss := .cons (.forS true [12] (.rng (.var 11)) stpB) .nil
theorem rng_get' : ∀ {lo : Int} {m j : Nat} {d : D}, (rngD lo m)[j]? = some d → d = .int (lo + j) ∧ j < m
  | lo, 0, j, d, h => by unfold rngD at h; simp at h
  | lo, m + 1, 0, d, h => by unfold rngD at h; simp at h; exact ⟨by rw [← h]; simp, by omega⟩
  | lo, m + 1, j + 1, d, h => by
    unfold rngD at h
    obtain ⟨e, hl⟩ := rng_get' (by simpa using h)
    exact ⟨by rw [e]; congr 1; push_cast; omega, by omega⟩
theorem kind_get {ss p : List Int} (h : KindOk ss p) {j : Nat} {s : Int} (hs : ss[j]? = some s) : ∃ g : Nat, p[j]? = some (g : Int) ∧ (g : Int) < s := by
  have hj := (List.getElem?_eq_some_iff.mp hs).1
  have hp : p[j]? = some (p[j]'(by rw [h.1]; exact hj)) := List.getElem?_eq_getElem _
  generalize p[j]'(by rw [h.1]; exact hj) = x at hp
  have := h.2 (x, s) (List.mem_of_getElem? (i := j) (by rw [List.getElem?_zip_eq_some]; exact ⟨hp, hs⟩))
  refine ⟨x.toNat, ?_, ?_⟩
  · rw [Int.toNat_of_nonneg this.1]; exact hp
  · rw [Int.toNat_of_nonneg this.1]; exact this.2
/-- one person's number is added in each trait -/
theorem per_ok {t : T} {sv pp : D} {ss p : List Int} {gs : List (List Int)} {N v : Int} {x6 x9 x10 x11 x12 x13 : Option T} (hs3 : ss.length ≤ 3) (hp : KindOk ss p) (hi : TabI ss gs fun _ => N) (hv : 0 ≤ v) :
    ∃ gs' x9' x10', forRun (bindTg true [9]) (exSs (callD tb n) perB) (rngD 0 ss.length) [some (script ns), some t, some (.sh sv), some (.sh (intT ss)), some (.sh pp), some (tab gs), x6, some (.sh (intT p)), some (.sh (.int v)), x9, x10, x11, x12, x13] =
      .nx [some (script ns), some t, some (.sh sv), some (.sh (intT ss)), some (.sh pp), some (tab gs'), x6, some (.sh (intT p)), some (.sh (.int v)), x9', x10', x11, x12, x13] ∧ TabI ss gs' fun _ => N + v := by
  obtain ⟨Γ, e, gs', x9', x10', rfl, hi'⟩ := for_inv (bind := bindTg true [9]) (body := exSs (callD tb n) perB) (fun i Γ => ∃ gs' x9' x10', Γ = [some (script ns), some t, some (.sh sv), some (.sh (intT ss)), some (.sh pp), some (tab gs'), x6, some (.sh (intT p)), some (.sh (.int v)), x9', x10', x11, x12, x13] ∧ TabI ss gs' fun k => if k < i then N + v else N) (rngD 0 ss.length) 0 _
    ⟨gs, x9, x10, rfl, hi.congr fun j _ => by simp⟩ (fun i d Γ hd hI => by
      obtain ⟨gs', x9', x10', rfl, hi'⟩ := hI
      obtain ⟨rfl, hlt⟩ := rng_get' hd
      rw [Nat.zero_add] at hi' ⊢
      obtain ⟨s, r, hs, hr, hrow⟩ := hi'.row hlt
      obtain ⟨g, hg, hgs⟩ := kind_get hp hs
      have hgl : g < r.length := by have := hrow.1; omega
      have hx : r[g]? = some r[g] := List.getElem?_eq_getElem hgl
      have hpl : i < p.length := (List.getElem?_eq_some_iff.mp hg).1
      have hxi : ixD (.list (p.map PyData.int)) (i : Int) = some (.int g) := by
        rw [ixD_nat (by simpa using hpl)]
        simp [hg]
      refine ⟨_, ?_, gs'.set i (r.set g (r[g] + v)), some (.sh (.int i)), some (.sh (.int g)), rfl, ?_⟩
      · have eb := ex_bump (Φ := callD tb n) (Γ := [some (script ns), some t, some (.sh sv), some (.sh (intT ss)), some (.sh pp), some (tab gs'), x6, some (.sh (intT p)), some (.sh (.int v)), some (.sh (.int i)), some (.sh (.int g)), x11, x12, x13]) (e := .var 8) (v := v) rfl rfl rfl hr hx (by simp) rfl
        simp only [perB, exSs_cons, exSs_nil, forK, bindTg, Int.zero_add]
        simp [spure, hxi, -exS_setP]
        simp only [eb]
        simp
      · refine (hi'.bump hr hx hv).congr fun k hk => ?_
        by_cases h1 : k = i
        · subst h1; simp
        · by_cases h2 : k < i
          · simp [h1, h2, show k < i + 1 by omega]
          · simp [h1, h2, show ¬ k < i + 1 by omega])
  rw [rngD_len, Nat.zero_add] at hi'
  exact ⟨gs', x9', x10', e, hi'.congr fun j hj => by simp [hj]⟩
/-- single numbers are added in one trait -/
theorem stp_ok {t : T} {sv pp : D} {ss : List Int} {gs : List (List Int)} {f : Nat → Int} {c : Int} {i L : Nat} {x6 x7 x8 x10 x12 x13 : Option T} (h5 : tb.fns.lookup 5 = some d__law_draw) (hn : 1 ≤ n) (hns : ns.length ≤ 63) (hsz : ∀ s ∈ ss, 1 ≤ s ∧ s ≤ 3) (hil : i < ss.length) (hi : TabI ss gs f) (c0 : 0 ≤ c) (c9 : c ≤ 9) (hs : StOk L t) (hL : L + 18 ≤ 1000000) :
    ∃ t' gs' x10' x12', exSs (callD tb n) trtB [some (script ns), some t, some (.sh sv), some (.sh (intT ss)), some (.sh pp), some (tab gs), x6, x7, x8, some (.sh (.int i)), x10, some (.sh (.int c)), x12, x13] =
      .nx [some (script ns), some t', some (.sh sv), some (.sh (intT ss)), some (.sh pp), some (tab gs'), x6, x7, x8, some (.sh (.int i)), x10', some (.sh (.int c)), x12', x13] ∧ (TabI ss gs' fun k => if k = i then f k + c else f k) ∧ StOk (L + 18) t' := by
  obtain ⟨Γ, e, t', gs', x10', x12', rfl, hi', s'⟩ := for_inv (bind := bindTg true [12]) (body := exSs (callD tb n) stpB) (fun j Γ => ∃ t' gs' x10' x12', Γ = [some (script ns), some t', some (.sh sv), some (.sh (intT ss)), some (.sh pp), some (tab gs'), x6, x7, x8, some (.sh (.int i)), x10', some (.sh (.int c)), x12', x13] ∧ (TabI ss gs' fun k => if k = i then f k + j else f k) ∧ StOk (L + 2 * j) t') (rngD 0 c.toNat) 0 [some (script ns), some t, some (.sh sv), some (.sh (intT ss)), some (.sh pp), some (tab gs), x6, x7, x8, some (.sh (.int i)), x10, some (.sh (.int c)), x12, x13]
    ⟨t, gs, x10, x12, rfl, hi.congr fun j _ => by simp, hs⟩ (fun j d Γ hd hI => by
      obtain ⟨t', gs', x10', x12', rfl, hi', s'⟩ := hI
      obtain ⟨rfl, hlt⟩ := rng_get' hd
      rw [Nat.zero_add] at hi' s' ⊢
      obtain ⟨s, r, hsi, hr, hrow⟩ := hi'.row hil
      have hs1 := hsz s (List.mem_of_getElem? hsi)
      have hxs : ixD (.list (ss.map PyData.int)) (i : Int) = some (.int s) := by
        rw [ixD_nat (by simpa using hil)]
        simp [hsi]
      obtain ⟨v, t'', e, v0, v1, s''⟩ := ev_draw (tb := tb) (n := n) (ns := ns) (Γ := [some (script ns), some t', some (.sh sv), some (.sh (intT ss)), some (.sh pp), some (tab gs'), x6, x7, x8, some (.sh (.int i)), x10', some (.sh (.int c)), some (.sh (.int (0 + j))), x13]) (e := .ix (.var 3) (.var 9)) (k0 := 0) (k1 := 1) (many := s) h5 hn hns rfl rfl (by simp [spure, hxs]) rfl s' (by omega) (by omega)
      obtain ⟨g, rfl⟩ : ∃ g : Nat, v = (g : Int) := ⟨v.toNat, by omega⟩
      have hgl : g < r.length := by have := hrow.1; omega
      have hx : r[g]? = some r[g] := List.getElem?_eq_getElem hgl
      refine ⟨_, ?_, t'', gs'.set i (r.set g (r[g] + 1)), some (.sh (.int g)), some (.sh (.int (0 + j))), rfl, ?_, s''.mono (by omega)⟩
      · have eb := ex_bump (Φ := callD tb n) (Γ := [some (script ns), some t'', some (.sh sv), some (.sh (intT ss)), some (.sh pp), some (tab gs'), x6, x7, x8, some (.sh (.int i)), some (.sh (.int g)), some (.sh (.int c)), some (.sh (.int (0 + j))), x13]) (e := .num 1) (v := 1) rfl rfl rfl hr hx (by simp) rfl
        simp only [stpB, exSs_cons, exSs_nil, forK, bindTg]
        simp only [exS_asg, List.set_cons_succ, List.set_cons_zero] at e ⊢
        simp [e, -exS_setP, -ev_call, -Int.zero_add]
        simp only [eb]
        simp
      · refine (hi'.bump hr hx (by omega)).congr fun k hk => ?_
        by_cases h1 : k = i
        · subst h1; simp; omega
        · simp [h1])
  rw [rngD_len, Nat.zero_add] at hi' s'
  refine ⟨t', gs', x10', x12', ?_, hi'.congr fun j hj => by rw [Int.toNat_of_nonneg c0], s'.mono (by omega)⟩
  simp [trtB, spure, sFor, show -1000000 ≤ c by omega, show c ≤ 1000000 by omega, e]

theorem zeros_own {ss : List Int} (hsz : ∀ s ∈ ss, 1 ≤ s ∧ s ≤ 3) (h3 : ss.length ≤ 3) {t : T} {sv pp : D} {x5 x6 x7 x8 x9 x10 x11 x12 x13 : Option T} :
    lcK (callD tb n) (.bin .mul (.lst (.cons (.num 0) .nil)) (.var 6)) [6] true .tt [6] true (ss.map PyData.int) [some (script ns), some t, some (.sh sv), some (.sh (intT ss)), some (.sh pp), x5, x6, x7, x8, x9, x10, x11, x12, x13] = .ok (.t (tab (zeros ss))) [some (script ns), some t, some (.sh sv), some (.sh (intT ss)), some (.sh pp), x5, x6, x7, x8, x9, x10, x11, x12, x13] := by
  rw [lcK_own _ (fun d => match d with | .int s => ol ((List.replicate s.toNat (0 : Int)).map PyData.int) | d => .sh d) (by simp; omega) fun d hd => ?_]
  · congr 3
    simp [tab, zeros]
  · obtain ⟨s, hs, rfl⟩ := List.mem_map.mp hd
    have := hsz s hs
    have e1 : (List.replicate s.toNat [PyData.int 0]).flatten = (List.replicate s.toNat (0 : Int)).map PyData.int := by
      simp
    simp [spure, binT_repL (x := [.int 0]) (n := s) (by simp; omega) (by omega), e1]
theorem goal_ok {t : T} {ss : List Int} {ps : List (List Int)} {most L : Nat} (h5 : tb.fns.lookup 5 = some d__law_draw) (h15 : tb.fns.lookup 15 = some d__law_goal) (hn : 2 ≤ n) (hns : ns.length ≤ 63) (sv : SvOk ss ps most) (hm : most ≤ 8) (hs : StOk L t) (hL : L + 80 ≤ 1000000) :
    ∃ gs N t', callD tb n 15 [script ns, t, .sh (svD ss ps)] = .ok (.sh (goalD gs)) [t'] ∧ GoalOk ss gs N ∧ StOk (L + 80) t' := by
  obtain ⟨n, rfl⟩ : ∃ m, n = m + 1 := ⟨n - 1, by omega⟩
  rw [callD_of h15 rfl]
  have hn1 : 1 ≤ n := by omega
  have hs3 := sv.s3
  have hs1 := sv.s1
  have hpm := sv.pm
  obtain ⟨v1, t1, e1, a1, b1, s1⟩ := ev_draw (tb := tb) (n := n) (ns := ns) (Γ := [some (script ns), some t, some (.sh (svD ss ps)), some (.sh (intT ss)), some (.sh (.tuple (ps.map intT))), some (tab (zeros ss)), none, none, none, none, none, none, none, none]) (e := .num 3) (k0 := 0) (k1 := 1) (many := 3) h5 hn1 hns rfl rfl (by simp) rfl hs (by omega) (by omega)
  -- the first way
  have w1 : ∃ gs N t2 x7 x8 x9 x10, (Out.toS (evB (callD tb n) false (.val (.call 5 (.cons (.var 0) (.cons (.io 1) (.cons (.num 3) .nil))))) [some (script ns), some t, some (.sh (svD ss ps)), some (.sh (intT ss)), some (.sh (.tuple (ps.map intT))), some (tab (zeros ss)), none, none, none, none, none, none, none, none]) (sIf (callD tb n) (.cons (.forS true [7] (.seq (.var 4)) pplB) .nil) .nil)) = .nx [some (script ns), some t2, some (.sh (svD ss ps)), some (.sh (intT ss)), some (.sh (.tuple (ps.map intT))), some (tab gs), none, x7, x8, x9, x10, none, none, none] ∧ TabI ss gs (fun _ => N) ∧ 0 ≤ N ∧ N ≤ 40 ∧ StOk (L + 18) t2 := by
    simp only [List.set_cons_succ, List.set_cons_zero] at e1
    by_cases hv : v1 = 0
    · subst hv
      refine ⟨zeros ss, 0, t1, none, none, none, none, ?_, tabI_zero sv.sz, by omega, by omega, s1.mono (by omega)⟩
      simp [-ev_call, e1]
    · obtain ⟨Γ, e, gs, N, t2, x7, x8, x9, x10, rfl, hi, n0, n1, s2⟩ := for_inv (bind := bindTg true [7]) (body := exSs (callD tb n) pplB) (fun j Γ => ∃ gs N t2 x7 x8 x9 x10, Γ = [some (script ns), some t2, some (.sh (svD ss ps)), some (.sh (intT ss)), some (.sh (.tuple (ps.map intT))), some (tab gs), none, x7, x8, x9, x10, none, none, none] ∧ TabI ss gs (fun _ => N) ∧ 0 ≤ N ∧ N ≤ 5 * j ∧ StOk (L + 2 + 2 * j) t2) (ps.map intT) 0 [some (script ns), some t1, some (.sh (svD ss ps)), some (.sh (intT ss)), some (.sh (.tuple (ps.map intT))), some (tab (zeros ss)), none, none, none, none, none, none, none, none]
        ⟨zeros ss, 0, t1, none, none, none, none, rfl, tabI_zero sv.sz, by omega, by omega, s1⟩ (fun j d Γ hd hI => by
          obtain ⟨gs, N, t2, x7, x8, x9, x10, rfl, hi, n0, n1, s2⟩ := hI
          rw [Nat.zero_add] at s2 n1 ⊢
          have hjl : j < ps.length := by simpa using (List.getElem?_eq_some_iff.mp hd).1
          obtain ⟨p, hp, rfl⟩ := List.mem_map.mp (List.mem_of_getElem? hd)
          obtain ⟨v, t3, e, v0, v1, s3⟩ := ev_draw (tb := tb) (n := n) (ns := ns) (Γ := [some (script ns), some t2, some (.sh (svD ss ps)), some (.sh (intT ss)), some (.sh (.tuple (ps.map intT))), some (tab gs), none, some (.sh (intT p)), x8, x9, x10, none, none, none]) (e := .num 6) (k0 := 0) (k1 := 1) (many := 6) h5 hn1 hns rfl rfl (by simp) rfl s2 (by omega) (by omega)
          obtain ⟨gs', x9', x10', e', hi'⟩ := per_ok (tb := tb) (n := n) (ns := ns) (t := t3) (sv := svD ss ps) (pp := .tuple (ps.map intT)) (x6 := none) (x9 := x9) (x10 := x10) (x11 := none) (x12 := none) (x13 := none) hs3 (sv.kd p hp) hi v0
          refine ⟨_, ?_, gs', N + v, t3, some (.sh (intT p)), some (.sh (.int v)), x9', x10', rfl, hi', by omega, by push_cast; omega, s3.mono (by omega)⟩
          simp only [List.set_cons_succ, List.set_cons_zero] at e
          simp [pplB, -ev_call, e, sFor, spure, e', show (ss.length : Int) ≤ 1000000 by omega, show (-1000000 : Int) ≤ ss.length by omega])
      rw [List.length_map, Nat.zero_add] at n1 s2
      refine ⟨gs, N, t2, x7, x8, x9, x10, ?_, hi, n0, by omega, s2.mono (by omega)⟩
      simp [-ev_call, e1, show (v1 != 0) = true by simp [hv], sFor, e]
  obtain ⟨gs1, N1, t2, x7, x8, x9, x10, e2, hi1, n0, n1, s2⟩ := w1
  obtain ⟨s, r0, hsr, hr0, hrow0⟩ := hi1.row (j := 0) (by omega)
  have hgl : 0 < gs1.length := by rw [hi1.1]; omega
  have ix0 : ixAt 5 [] (tab gs1) 0 = some (.at 5 [0]) := ixAt_tab (k := 5) (gs := gs1) (j := 0) hgl
  have sb0 := sub_tab hr0
  have hsum : r0.sum = N1 := hrow0.2.2
  have hk : ∀ (gs : List (List Int)) (N : Int) (t' : T) (y7 y8 y9 y10 y11 y12 : Option T), GoalOk ss gs N →
      lcK (callD tb n) (.bi .tuple (.var 13)) [13] true .tt [13] false (gs.map fun r => .list (r.map PyData.int)) [some (script ns), some t', some (.sh (svD ss ps)), some (.sh (intT ss)), some (.sh (.tuple (ps.map intT))), some (.sh (.list (gs.map fun r => .list (r.map PyData.int)))), none, y7, y8, y9, y10, y11, y12, none] = .ok (.t (ol (gs.map intT))) [some (script ns), some t', some (.sh (svD ss ps)), some (.sh (intT ss)), some (.sh (.tuple (ps.map intT))), some (.sh (.list (gs.map fun r => .list (r.map PyData.int)))), none, y7, y8, y9, y10, y11, y12, none] := by
    intro gs N t' y7 y8 y9 y10 y11 y12 hg
    rw [lcK_map _ (fun d => match d with | .list ds => .tuple ds | d => d) (by simp; have := hg.1.1; omega) fun d hd => ?_]
    · simp [Function.comp_def]
    · obtain ⟨r, _, rfl⟩ := List.mem_map.mp hd
      simp
  by_cases hz : N1 = 0
  · subst hz
    obtain ⟨v3, t3, e3, a3, b3, s3⟩ := ev_draw (tb := tb) (n := n) (ns := ns) (Γ := [some (script ns), some t2, some (.sh (svD ss ps)), some (.sh (intT ss)), some (.sh (.tuple (ps.map intT))), some (tab (zeros ss)), none, x7, x8, x9, x10, none, none, none]) (e := .num 9) (k0 := 0) (k1 := 1) (many := 9) h5 hn1 hns rfl rfl (by simp) rfl s2 (by omega) (by omega)
    obtain ⟨Γ, e, gs, t4, x9', x10', x12', rfl, hi, s4⟩ := for_inv (bind := bindTg true [9]) (body := exSs (callD tb n) trtB) (fun j Γ => ∃ gs t4 x9 x10 x12, Γ = [some (script ns), some t4, some (.sh (svD ss ps)), some (.sh (intT ss)), some (.sh (.tuple (ps.map intT))), some (tab gs), none, x7, x8, x9, x10, some (.sh (.int (1 + v3))), x12, none] ∧ TabI ss gs (fun k => if k < j then 1 + v3 else 0) ∧ StOk (L + 20 + 18 * j) t4) (rngD 0 ss.length) 0 [some (script ns), some t3, some (.sh (svD ss ps)), some (.sh (intT ss)), some (.sh (.tuple (ps.map intT))), some (tab (zeros ss)), none, x7, x8, x9, x10, some (.sh (.int (1 + v3))), none, none]
        ⟨zeros ss, t3, x9, x10, none, rfl, (tabI_zero sv.sz).congr fun j _ => by simp, s3⟩ (fun j d Γ hd hI => by
          obtain ⟨gs, t4, x9, x10, x12, rfl, hi, s4⟩ := hI
          obtain ⟨rfl, hlt⟩ := rng_get' hd
          rw [Nat.zero_add] at hi s4 ⊢
          obtain ⟨t5, gs', x10', x12', e5, hi5, s5⟩ := stp_ok (tb := tb) (n := n) (ns := ns) (t := t4) (sv := svD ss ps) (pp := .tuple (ps.map intT)) (x6 := none) (x7 := x7) (x8 := x8) (x10 := x10) (x12 := x12) (x13 := none) (i := j) (c := 1 + v3) h5 hn1 hns sv.sz hlt hi (by omega) (by omega) s4 (by omega)
          refine ⟨_, ?_, gs', t5, some (.sh (.int j)), x10', x12', rfl, hi5.congr fun k hk => ?_, s5.mono (by omega)⟩
          · simp [e5]
          · by_cases h1 : k = j
            · subst h1; simp
            · by_cases h2 : k < j
              · simp [h1, h2, show k < j + 1 by omega]
              · simp [h1, h2, show ¬ k < j + 1 by omega])
    rw [rngD_len, Nat.zero_add] at hi s4
    have hg : GoalOk ss gs (1 + v3) := ⟨hi.congr fun j hj => by simp [hj], by omega, by omega⟩
    refine ⟨gs, 1 + v3, t4, ?_, hg, s4.mono (by omega)⟩
    have he := hk gs _ t4 x7 x8 x9' x10' (some (.sh (.int (1 + v3)))) x12' hg
    simp only [List.set_cons_succ, List.set_cons_zero] at e3
    simp only [evB_val, pplB, perB] at e2
    simp only [trtB, stpB] at e
    simp [d__law_goal, b__law_goal, startE, outsOf, ioIx, ev_lc, zeros_own sv.sz hs3, -ev_call, e2, spure, ix0, sb0, hsum, e3, sFor, e, he, show (ss.length : Int) ≤ 1000000 by omega, show (-1000000 : Int) ≤ ss.length by omega]
  · have hg : GoalOk ss gs1 N1 := ⟨hi1, by omega, n1⟩
    refine ⟨gs1, N1, t2, ?_, hg, s2.mono (by omega)⟩
    have he := hk gs1 _ t2 x7 x8 x9 x10 none none hg
    simp only [evB_val, pplB, perB] at e2
    simp [d__law_goal, b__law_goal, startE, outsOf, ioIx, ev_lc, zeros_own sv.sz hs3, -ev_call, e2, spure, ix0, sb0, hsum, hz, he]
/-! what a goal is -/
def rowQ (p : D) : Bool := match p with
  | .tuple [.int s, .tuple xs] => decide ((xs.length : Int) = s) && xs.all fun d => inR d 0 999
  | _ => false
def sumD (d : D) : Int := (szs d).sum
def goalSum (rs : List D) : Bool := match rs with
  | [] => false
  | r :: rs => (decide (1 ≤ sumD r) && decide (sumD r ≤ 999)) && (r :: rs).all fun x => decide (sumD x = sumD r)
def isGoalD (ss : List Int) (d : D) : Bool := match d with
  | .tuple rs => decide (rs.length = ss.length) && ((zipD (ss.map PyData.int) rs).all rowQ && goalSum rs)
  | _ => false
theorem rowQ_is {s : Int} {d : D} (h : rowQ (.tuple [.int s, d]) = true) : ∃ is : List Int, d = intT is ∧ (is.length : Int) = s ∧ ∀ i ∈ is, 0 ≤ i ∧ i ≤ 999 := by
  cases d <;> simp [rowQ] at h
  rename_i xs
  obtain ⟨is, rfl, hi⟩ := all_inR (ds := xs) (l := 0) (m := 999) (by simpa using h.2)
  exact ⟨is, rfl, by simpa using h.1, hi⟩
theorem rows_is : ∀ {ss : List Int} {rs : List D}, rs.length = ss.length → (zipD (ss.map PyData.int) rs).all rowQ = true → ∃ gs : List (List Int), rs = gs.map intT
  | [], [], _, _ => ⟨[], rfl⟩
  | s :: ss, r :: rs, hl, h => by
    rw [List.map_cons, zipD, List.all_cons, Bool.and_eq_true] at h
    obtain ⟨is, rfl, _⟩ := rowQ_is h.1
    obtain ⟨gs, rfl⟩ := rows_is (ss := ss) (rs := rs) (by simpa using hl) h.2
    exact ⟨is :: gs, rfl⟩
  | [], _ :: _, hl, _ => by simp at hl
  | _ :: _, [], hl, _ => by simp at hl
@[simp] theorem sumD_intT {is : List Int} : sumD (intT is) = is.sum := by unfold sumD; rw [szs_map]
def eqI (k : Int) (d : D) : Bool := match d with
  | .int i => decide (i = k)
  | _ => false
def vgB : Ss := .cons (.iff (.or (.not (.val (.isi .tuple (.var 3)))) (.cmp .ne (.bi .len (.var 3)) (.var 2))) (.cons (.ret (.bl false)) .nil) .nil)
  (.cons (.iff (.not (.val (.bi .all (.lc (.call 1 (.cons (.var 4) (.cons (.num 0) (.cons (.num 999) .nil)))) [4] true (.seq (.var 3)) .tt [4] false)))) (.cons (.ret (.bl false)) .nil) .nil)
  .nil)
theorem is_valid_goal_ok {ss : List Int} {c : D} (s1 : 1 ≤ ss.length) (s3 : ss.length ≤ 3) (hsz : ∀ s ∈ ss, 1 ≤ s ∧ s ≤ 3) (h1 : tb.fns.lookup 1 = some d_is_integer) (h13 : tb.fns.lookup 13 = some d_is_valid_goal) (hn : 2 ≤ n) : callD tb n 13 [.sh (intT ss), .sh c] = .ok (.sh (.bool (isGoalD ss c))) [] := by
  obtain ⟨n, rfl⟩ : ∃ m, n = m + 1 := ⟨n - 1, by omega⟩
  rw [callD_of h13 rfl]
  cases c with
  | tuple rs =>
    by_cases hl : rs.length = ss.length
    · have hfor := for_search (bind := bindTg false [2, 3]) (body := exSs (callD tb n) vgB) (t := .sh (.bool false)) (fun Γ => ∃ x2 x3, Γ = [some (.sh (intT ss)), some (.sh (.tuple rs)), x2, x3, none, none, none]) rowQ (zipD (ss.map PyData.int) rs) [some (.sh (intT ss)), some (.sh (.tuple rs)), none, none, none, none, none] ⟨none, none, rfl⟩ (fun d hd Γ hi => by
        obtain ⟨x2, x3, rfl⟩ := hi
        obtain ⟨a, row, rfl, ha, hb⟩ := mem_zipD hd
        obtain ⟨s, hs, rfl⟩ := List.mem_map.mp ha
        have hs3 := hsz s hs
        by_cases htup : isiD .tuple row = true
        case neg =>
          have ht : isiD .tuple row = false := by simpa using htup
          have hq : rowQ (.tuple [.int s, row]) = false := by cases row <;> first | rfl | cases ht
          refine ⟨(fun q => by rw [hq] at q; cases q), fun q => ⟨[some (.sh (intT ss)), some (.sh (.tuple rs)), some (.sh (.int s)), some (.sh row), none, none, none], ?_⟩⟩
          simp [vgB, ht, spure]
        cases row with
        | tuple xs =>
          by_cases hx : (xs.length : Int) = s
          · have hk : lcK (callD tb n) (.call 1 (.cons (.var 4) (.cons (.num 0) (.cons (.num 999) .nil)))) [4] true .tt [4] false xs [some (.sh (intT ss)), some (.sh (.tuple rs)), some (.sh (.int s)), some (.sh (.tuple xs)), none, none, none] = .ok (.t (ol (xs.map fun d => .bool (inR d 0 999)))) [some (.sh (intT ss)), some (.sh (.tuple rs)), some (.sh (.int s)), some (.sh (.tuple xs)), none, none, none] := by
              refine lcK_map _ _ (by omega) fun d _ => ?_
              simp [is_integer_ok h1 (show 1 ≤ n by omega)]
            refine ⟨fun q => ⟨[some (.sh (intT ss)), some (.sh (.tuple rs)), some (.sh (.int s)), some (.sh (.tuple xs)), none, none, none], ?_, _, _, rfl⟩, fun q => ⟨[some (.sh (intT ss)), some (.sh (.tuple rs)), some (.sh (.int s)), some (.sh (.tuple xs)), none, none, none], ?_⟩⟩
            · have q' : (xs.all fun d => inR d 0 999) = true := by simpa [rowQ, hx] using q
              simp only [vgB]
              simp [isiD, spure, hx, ev_lc, hk, map_all, q', -List.all_eq_true, -List.all_eq_false]
            · have q' : (xs.all fun d => inR d 0 999) = false := by
                cases hq : (xs.all fun d => inR d 0 999) with
                | false => rfl
                | true => rw [show rowQ (.tuple [.int s, .tuple xs]) = (decide ((xs.length : Int) = s) && xs.all fun d => inR d 0 999) from rfl, hq] at q; simp [hx] at q
              simp only [vgB]
              simp [isiD, spure, hx, ev_lc, hk, map_all, q', -List.all_eq_true, -List.all_eq_false]
          · refine ⟨fun q => by simp [rowQ, hx] at q, fun q => ⟨[some (.sh (intT ss)), some (.sh (.tuple rs)), some (.sh (.int s)), some (.sh (.tuple xs)), none, none, none], ?_⟩⟩
            simp [vgB, isiD, spure, hx]
        | _ => cases htup)
      cases hq : (zipD (ss.map PyData.int) rs).all rowQ with
      | false =>
        obtain ⟨Γ, e⟩ := hfor.2 hq
        simp only [vgB] at e
        simp [d_is_valid_goal, b_is_valid_goal, startE, outsOf, ioIx, isiD, spure, hl, sFor, e, isGoalD, hq]
      | true =>
        obtain ⟨Γ, e, x2, x3, rfl⟩ := hfor.1 hq
        simp only [vgB] at e
        obtain ⟨gs, rfl⟩ := rows_is hl hq
        cases gs with
        | nil => simp at hl; omega
        | cons g gs =>
          have hk : lcK (callD tb n) (.bi .sum (.var 3)) [3] true .tt [3] false ((g :: gs).map intT) [some (.sh (intT ss)), some (.sh (.tuple ((g :: gs).map intT))), x2, x3, none, none, none] = .ok (.t (ol (((g :: gs).map intT).map fun d => .int (sumD d)))) [some (.sh (intT ss)), some (.sh (.tuple ((g :: gs).map intT))), x2, x3, none, none, none] := by
            refine lcK_map _ _ (by omega) fun d hd => ?_
            obtain ⟨r, _, rfl⟩ := List.mem_map.mp hd
            simp [sumD_intT]
          have hms : (((g :: gs).map intT).map fun d => PyData.int (sumD d)) = (g :: gs).map fun r => PyData.int r.sum := by simp [Function.comp_def]
          rw [hms] at hk
          by_cases g1 : 1 ≤ g.sum
          · by_cases g2 : g.sum ≤ 999
            · have hk2 : lcK (callD tb n) (.bool (.cmp .eq (.var 6) (.ix (.var 5) (.num 0)))) [6] true .tt [6] false ((g :: gs).map fun r => PyData.int r.sum) [some (.sh (intT ss)), some (.sh (.tuple ((g :: gs).map intT))), x2, x3, none, some (.sh (.list ((g :: gs).map fun r => PyData.int r.sum))), none] = .ok (.t (ol (((g :: gs).map fun r => PyData.int r.sum).map fun d => .bool (eqI g.sum d)))) [some (.sh (intT ss)), some (.sh (.tuple ((g :: gs).map intT))), x2, x3, none, some (.sh (.list ((g :: gs).map fun r => PyData.int r.sum))), none] := by
                refine lcK_map _ _ (by simp at hl ⊢; omega) fun d hd => ?_
                obtain ⟨r, _, rfl⟩ := List.mem_map.mp hd
                simp [spure, eqI]
              have hgs : goalSum ((g :: gs).map intT) = ((g :: gs).map fun r => PyData.int r.sum).all (eqI g.sum) := by
                show ((decide (1 ≤ sumD (intT g)) && decide (sumD (intT g) ≤ 999)) && ((g :: gs).map intT).all fun x => decide (sumD x = sumD (intT g))) = _
                rw [sumD_intT, decide_eq_true g1, decide_eq_true g2, Bool.true_and, Bool.true_and, List.all_map, List.all_map]
                congr 1
                funext r
                simp [eqI]
              have hgd : isGoalD ss (.tuple ((g :: gs).map intT)) = goalSum ((g :: gs).map intT) := by
                show (decide (((g :: gs).map intT).length = ss.length) && ((zipD (ss.map PyData.int) ((g :: gs).map intT)).all rowQ && goalSum ((g :: gs).map intT))) = _
                rw [hq, decide_eq_true hl, Bool.true_and, Bool.true_and]
              rw [hgd, hgs]
              have hl' : gs.length + 1 = ss.length := by simpa using hl
              have ma := map_all (ds := (g :: gs).map fun r => PyData.int r.sum) (f := eqI g.sum)
              simp only [List.map_cons] at hk hk2 e ma ⊢
              generalize (gs.map fun r => PyData.int r.sum) = qs at hk hk2 ma ⊢
              simp [d_is_valid_goal, b_is_valid_goal, startE, outsOf, ioIx, isiD, spure, ← hl', sFor, e, ev_lc, hk, hk2, g1, g2, ma]
            · have hgd : isGoalD ss (.tuple ((g :: gs).map intT)) = false := by
                simp [isGoalD, goalSum, sumD_intT, g2]
              have hl' : gs.length + 1 = ss.length := by simpa using hl
              simp only [List.map_cons] at hk e hgd
              simp [d_is_valid_goal, b_is_valid_goal, startE, outsOf, ioIx, isiD, spure, ← hl', sFor, e, ev_lc, hk, g1, g2]
              exact hgd
          · have hgd : isGoalD ss (.tuple ((g :: gs).map intT)) = false := by
              simp [isGoalD, goalSum, sumD_intT, g1]
            have hl' : gs.length + 1 = ss.length := by simpa using hl
            simp only [List.map_cons] at hk e hgd
            simp [d_is_valid_goal, b_is_valid_goal, startE, outsOf, ioIx, isiD, spure, ← hl', sFor, e, ev_lc, hk, g1]
            exact hgd
    · simp [d_is_valid_goal, b_is_valid_goal, startE, outsOf, ioIx, isiD, spure, hl, show ¬ (rs.length : Int) = ss.length by omega, isGoalD]
  | _ => simp [d_is_valid_goal, b_is_valid_goal, startE, outsOf, ioIx, isiD, spure, isGoalD]
end
end Z

set_option maxRecDepth 100000
set_option linter.all false
namespace Z
open PySem
section
variable {tb : Tbl} {n : Nat} {ns : List Int}
theorem is_goal_ok {ss : List Int} {ps : List (List Int)} {most : Nat} {c : D} (sv : SvOk ss ps most) (hm : most ≤ 8) (h1 : tb.fns.lookup 1 = some d_is_integer) (h2 : tb.fns.lookup 2 = some d_are_sizes) (h3 : tb.fns.lookup 3 = some d_is_kind) (h4 : tb.fns.lookup 4 = some d_is_survey) (h12 : tb.fns.lookup 12 = some d_require_survey) (h13 : tb.fns.lookup 13 = some d_is_valid_goal) (h14 : tb.fns.lookup 14 = some d_is_goal) (hn : 5 ≤ n) :
    callD tb n 14 [.sh (svD ss ps), .sh c] = .ok (.sh (.bool (isGoalD ss c))) [] := by
  obtain ⟨n, rfl⟩ : ∃ m, n = m + 1 := ⟨n - 1, by omega⟩
  rw [callD_of h14 rfl]
  have e1 := require_survey_ok (tb := tb) (n := n) h1 h2 h3 h4 h12 (by omega) (isSurvey_sv sv hm)
  have e2 := is_valid_goal_ok (tb := tb) (n := n) (c := c) sv.s1 sv.s3 sv.sz h1 h13 (by omega)
  simp [d_is_goal, b_is_goal, startE, outsOf, ioIx, spure, e1, e2]
def rtB1 : Ss := .cons (.iff (.or (.not (.val (.isi .int (.var 4)))) (.or (.val (.isi .bool (.var 4))) (.not (.chn .le .le (.num 0) (.var 4) (.num 999))))) (.cons (.ret (.bl false)) .nil) .nil) .nil
def rtB : Ss := .cons (.iff (.or (.not (.val (.isi .tuple (.var 3)))) (.cmp .ne (.bi .len (.var 3)) (.var 2))) (.cons (.ret (.bl false)) .nil) .nil)
  (.cons (.forS true [4] (.seq (.var 3)) rtB1)
  .nil)
theorem law_right_ok {ss : List Int} {c : D} (s1 : 1 ≤ ss.length) (s3 : ss.length ≤ 3) (hsz : ∀ s ∈ ss, 1 ≤ s ∧ s ≤ 3) (h16 : tb.fns.lookup 16 = some d__law_right) (hn : 1 ≤ n) : callD tb n 16 [.sh (intT ss), .sh c] = .ok (.sh (.bool (isGoalD ss c))) [] := by
  obtain ⟨n, rfl⟩ : ∃ m, n = m + 1 := ⟨n - 1, by omega⟩
  rw [callD_of h16 rfl]
  cases c with
  | tuple rs =>
    by_cases hl : rs.length = ss.length
    · have hfor := for_search (bind := bindTg false [2, 3]) (body := exSs (callD tb n) rtB) (t := .sh (.bool false)) (fun Γ => ∃ x2 x3 x4, Γ = [some (.sh (intT ss)), some (.sh (.tuple rs)), x2, x3, x4]) rowQ (zipD (ss.map PyData.int) rs) [some (.sh (intT ss)), some (.sh (.tuple rs)), none, none, none] ⟨none, none, none, rfl⟩ (fun d hd Γ hi => by
        obtain ⟨x2, x3, x4, rfl⟩ := hi
        obtain ⟨a, row, rfl, ha, hb⟩ := mem_zipD hd
        obtain ⟨s, hs, rfl⟩ := List.mem_map.mp ha
        have hs3 := hsz s hs
        by_cases htup : isiD .tuple row = true
        case neg =>
          have ht : isiD .tuple row = false := by simpa using htup
          have hq : rowQ (.tuple [.int s, row]) = false := by cases row <;> first | rfl | cases ht
          refine ⟨(fun q => by rw [hq] at q; cases q), fun q => ⟨[some (.sh (intT ss)), some (.sh (.tuple rs)), some (.sh (.int s)), some (.sh row), x4], ?_⟩⟩
          simp [rtB, ht, spure]
        cases row with
        | tuple xs =>
          by_cases hx : (xs.length : Int) = s
          · have hin := for_search (bind := bindTg true [4]) (body := exSs (callD tb n) rtB1) (t := .sh (.bool false)) (fun Γ => ∃ x4, Γ = [some (.sh (intT ss)), some (.sh (.tuple rs)), some (.sh (.int s)), some (.sh (.tuple xs)), x4]) (fun d => inR d 0 999) xs [some (.sh (intT ss)), some (.sh (.tuple rs)), some (.sh (.int s)), some (.sh (.tuple xs)), x4] ⟨x4, rfl⟩ (fun d hd Γ hi => by
              obtain ⟨x4, rfl⟩ := hi
              refine ⟨fun q => ⟨[some (.sh (intT ss)), some (.sh (.tuple rs)), some (.sh (.int s)), some (.sh (.tuple xs)), some (.sh d)], ?_, some (.sh d), rfl⟩, fun q => ⟨[some (.sh (intT ss)), some (.sh (.tuple rs)), some (.sh (.int s)), some (.sh (.tuple xs)), some (.sh d)], ?_⟩⟩
              · obtain ⟨i, rfl, i0, i1⟩ := inR_int q
                simp [rtB1, isiD, spure, i0, i1]
              · cases d with
                | int i =>
                  by_cases i0 : 0 ≤ i
                  · have i1 : ¬ i ≤ 999 := fun h => by simp [inR, i0, h] at q
                    simp [rtB1, isiD, spure, i0, i1]
                  · simp [rtB1, isiD, spure, i0]
                | _ => simp [rtB1, isiD, spure])
            have hq : rowQ (.tuple [.int s, .tuple xs]) = xs.all fun d => inR d 0 999 := by simp [rowQ, hx]
            rw [hq]
            refine ⟨fun q => ?_, fun q => ?_⟩
            · obtain ⟨Γ, e, x4', rfl⟩ := hin.1 q
              refine ⟨[some (.sh (intT ss)), some (.sh (.tuple rs)), some (.sh (.int s)), some (.sh (.tuple xs)), x4'], ?_, _, _, _, rfl⟩
              simp [rtB, isiD, spure, hx, sFor, e]
            · obtain ⟨Γ, e⟩ := hin.2 q
              refine ⟨Γ, ?_⟩
              simp [rtB, isiD, spure, hx, sFor, e]
          · refine ⟨fun q => by simp [rowQ, hx] at q, fun q => ⟨[some (.sh (intT ss)), some (.sh (.tuple rs)), some (.sh (.int s)), some (.sh (.tuple xs)), x4], ?_⟩⟩
            simp [rtB, isiD, spure, hx]
        | _ => cases htup)
      cases hq : (zipD (ss.map PyData.int) rs).all rowQ with
      | false =>
        obtain ⟨Γ, e⟩ := hfor.2 hq
        simp only [rtB, rtB1] at e
        simp [d__law_right, b__law_right, startE, outsOf, ioIx, isiD, spure, hl, sFor, e, isGoalD, hq]
      | true =>
        obtain ⟨Γ, e, x2, x3, x4, rfl⟩ := hfor.1 hq
        simp only [rtB, rtB1] at e
        obtain ⟨gs, rfl⟩ := rows_is hl hq
        cases gs with
        | nil => simp at hl; omega
        | cons g gs =>
          have hl' : gs.length + 1 = ss.length := by simpa using hl
          by_cases g1 : 1 ≤ g.sum
          · by_cases g2 : g.sum ≤ 999
            · have hk : lcK (callD tb n) (.var 3) [3] true (.cmp .ne (.bi .sum (.var 3)) (.bi .sum (.ix (.var 1) (.num 0)))) [3] false ((g :: gs).map intT) [some (.sh (intT ss)), some (.sh (.tuple ((g :: gs).map intT))), x2, x3, x4] = .ok (.t (ol (((g :: gs).map intT).filterMap fun d => if decide (sumD d = sumD (intT g)) then none else some d))) [some (.sh (intT ss)), some (.sh (.tuple ((g :: gs).map intT))), x2, x3, x4] := by
                refine lcK_pure _ (fun d => if decide (sumD d = sumD (intT g)) then none else some d) (by omega) fun d hd => ?_
                obtain ⟨r, _, rfl⟩ := List.mem_map.mp hd
                by_cases hrg : r.sum = g.sum
                · simp [spure, hrg, -decide_eq_true_eq]
                · simp [spure, hrg, -decide_eq_true_eq]
              have he : (((g :: gs).map intT).filterMap fun d => if decide (sumD d = sumD (intT g)) then none else some d).isEmpty = ((g :: gs).map intT).all fun d => decide (sumD d = sumD (intT g)) := filter_empty (f := id)
              have hlay : ∀ x ∈ ((g :: gs).map intT).filterMap (fun d => if decide (sumD d = sumD (intT g)) then none else some d), PyData.canLay0 x = true ∧ PyData.depth x ≤ 20 := by
                intro x hx
                obtain ⟨y, hy, ey⟩ := List.mem_filterMap.mp hx
                have : x = y := by
                  split at ey
                  · cases ey
                  · cases ey; rfl
                subst this
                obtain ⟨r, _, rfl⟩ := List.mem_map.mp hy
                refine ⟨?_, ?_⟩
                · unfold PyData.canLay0
                  exact canLay_all _ fun z hz => by obtain ⟨i, _, rfl⟩ := List.mem_map.mp hz; rfl
                · unfold PyData.depth
                  have := depth_all (r.map PyData.int) 0 fun z hz => by obtain ⟨i, _, rfl⟩ := List.mem_map.mp hz; exact Nat.le_refl _
                  omega
              have hgs : isGoalD ss (.tuple ((g :: gs).map intT)) = ((g :: gs).map intT).all fun d => decide (sumD d = sumD (intT g)) := by
                show (decide (((g :: gs).map intT).length = ss.length) && ((zipD (ss.map PyData.int) ((g :: gs).map intT)).all rowQ && ((decide (1 ≤ sumD (intT g)) && decide (sumD (intT g) ≤ 999)) && ((g :: gs).map intT).all fun x => decide (sumD x = sumD (intT g))))) = _
                rw [hq, decide_eq_true hl, sumD_intT, decide_eq_true g1, decide_eq_true g2, Bool.true_and, Bool.true_and, Bool.true_and, Bool.true_and]
              have hfl : (((g :: gs).map intT).filterMap fun d => if decide (sumD d = sumD (intT g)) then none else some d).length ≤ 1000 := Nat.le_trans (List.length_filterMap_le _ _) (by omega)
              rw [hgs, ← he]
              generalize (((g :: gs).map intT).filterMap fun d => if decide (sumD d = sumD (intT g)) then none else some d) = fl at hk he hlay hfl
              have hcmp : cmpD .eq (.list fl) (.list []) = some fl.isEmpty := by
                rw [cmpD_eq (fine_list hlay (by omega)) rfl]
                cases fl <;> rfl
              simp only [List.map_cons] at hk e
              simp [d__law_right, b__law_right, startE, outsOf, ioIx, isiD, spure, ← hl', sFor, e, g1, g2, ev_lc, hk, hcmp]
            · have hgd : isGoalD ss (.tuple ((g :: gs).map intT)) = false := by
                simp [isGoalD, goalSum, sumD_intT, g2]
              simp only [List.map_cons] at e hgd
              simp [d__law_right, b__law_right, startE, outsOf, ioIx, isiD, spure, ← hl', sFor, e, g1, g2]
              exact hgd
          · have hgd : isGoalD ss (.tuple ((g :: gs).map intT)) = false := by
              simp [isGoalD, goalSum, sumD_intT, g1]
            simp only [List.map_cons] at e hgd
            simp [d__law_right, b__law_right, startE, outsOf, ioIx, isiD, spure, ← hl', sFor, e, g1]
            exact hgd
    · simp [d__law_right, b__law_right, startE, outsOf, ioIx, isiD, spure, hl, show ¬ (rs.length : Int) = ss.length by omega, isGoalD]
  | _ => simp [d__law_right, b__law_right, startE, outsOf, ioIx, isiD, spure, isGoalD]
end
end Z

set_option maxRecDepth 100000
set_option linter.all false
namespace Z
open PySem
/-! fractions as rational numbers -/
abbrev fr (q : Rat) : D := .tuple [.int q.num, .int q.den]
abbrev wsD (ws : List Rat) : D := .tuple (ws.map fr)
def Bt (k : Nat) (q : Rat) : Prop := q.num.natAbs < 2 ^ k ∧ q.den < 2 ^ k
theorem Bt.mono {k l : Nat} {q : Rat} (h : Bt k q) (hl : k ≤ l) : Bt l q :=
  ⟨Nat.lt_of_lt_of_le h.1 (Nat.pow_le_pow_right (by omega) hl), Nat.lt_of_lt_of_le h.2 (Nat.pow_le_pow_right (by omega) hl)⟩
theorem mk_low {a : Int} {d : Nat} (hd : d ≠ 0) : (mkRat a d).num = a / (Nat.gcd a.natAbs d : Int) ∧ (mkRat a d).den = d / Nat.gcd a.natAbs d := by
  rw [← Rat.normalize_eq_mkRat hd, Rat.normalize_eq hd]
  exact ⟨rfl, rfl⟩
theorem low_rat {a b : Int} (hb : b ≠ 0) : (Rat.divInt a b).num = lowT a b ∧ ((Rat.divInt a b).den : Int) = lowB a b := by
  unfold lowT lowB
  cases b with
  | ofNat d =>
    have hd : d ≠ 0 := fun e => hb (by rw [e]; rfl)
    have e : Rat.divInt a (Int.ofNat d) = mkRat a d := Rat.divInt_ofNat a d
    obtain ⟨h1, h2⟩ := mk_low (a := a) hd
    have hpos : (Int.ofNat d) > 0 := by simp; omega
    rw [e, h1, h2, if_pos hpos, Int.one_mul]
    show _ = a.fdiv ((a.natAbs.gcd d : Nat) : Int) ∧ ((d / a.natAbs.gcd d : Nat) : Int) = (d : Int).fdiv ((a.natAbs.gcd d : Nat) : Int)
    rw [Int.fdiv_eq_ediv_of_nonneg _ (by omega), Int.fdiv_eq_ediv_of_nonneg _ (by omega)]
    exact ⟨rfl, rfl⟩
  | negSucc d =>
    have hd : d.succ ≠ 0 := by omega
    have e : Rat.divInt a (Int.negSucc d) = mkRat (-a) d.succ := Rat.normalize_eq_mkRat hd
    obtain ⟨h1, h2⟩ := mk_low (a := -a) hd
    have hpos : ¬ (Int.negSucc d) > 0 := by omega
    rw [e, h1, h2, if_neg hpos, Int.natAbs_neg]
    show _ = (-1 * a).fdiv ((a.natAbs.gcd d.succ : Nat) : Int) ∧ ((d.succ / a.natAbs.gcd d.succ : Nat) : Int) = (d.succ : Int).fdiv ((a.natAbs.gcd d.succ : Nat) : Int)
    rw [Int.fdiv_eq_ediv_of_nonneg _ (by omega), Int.fdiv_eq_ediv_of_nonneg _ (by omega), Int.neg_one_mul]
    exact ⟨rfl, rfl⟩
theorem fr_low {a b : Int} (hb : b ≠ 0) : (PyData.tuple [.int (lowT a b), .int (lowB a b)] : D) = fr (Rat.divInt a b) := by
  obtain ⟨h1, h2⟩ := low_rat (a := a) hb
  rw [← h1, ← h2]
theorem add_low (p q : Rat) : Rat.divInt (p.num * q.den + q.num * p.den) ((p.den : Int) * (q.den : Int)) = p + q := by
  rw [Rat.add_def', ← Rat.divInt_ofNat]
  congr 1
theorem mul_low (p q : Rat) : Rat.divInt (p.num * q.num) ((p.den : Int) * (q.den : Int)) = p * q := by
  rw [Rat.mul_def', ← Rat.divInt_ofNat]
  congr 1
theorem div_low (p q : Rat) : Rat.divInt (p.num * q.den) ((p.den : Int) * q.num) = p / q := by
  rw [← Rat.divInt_mul_divInt, Rat.num_divInt_den, Rat.div_def, Rat.inv_def]
theorem fr_inj {p q : Rat} : fr p = fr q ↔ p = q := by
  refine ⟨fun h => ?_, fun h => by rw [h]⟩
  injection h with h
  injection h with h1 h2
  injection h2 with h2 h3
  injection h1 with h1
  injection h2 with h2
  exact Rat.ext h1 (by omega)
theorem eqv_fr {p q : Rat} : PyData.eqv (fr p) (fr q) = decide (p = q) := by
  have e : PyData.eqv (fr p) (fr q) = ((p.num == q.num) && (((p.den : Int) == (q.den : Int)) && true)) := rfl
  rw [e, Bool.and_true]
  by_cases h : p = q
  · subst h; simp
  · rw [decide_eq_false h]
    cases h1 : (p.num == q.num) with
    | false => rfl
    | true =>
      cases h2 : ((p.den : Int) == (q.den : Int)) with
      | false => rfl
      | true => exact absurd (Rat.ext (eq_of_beq h1) (by have := eq_of_beq h2; omega)) h
@[simp] theorem fine_fr {q : Rat} : fineD (fr q) = true := fine_tuple (k := 0) (fun d hd => by
  simp only [List.mem_cons, List.mem_nil_iff, or_false] at hd
  rcases hd with rfl | rfl <;> exact ⟨rfl, Nat.le_refl _⟩) (by omega)
theorem lay_fr {q : Rat} : PyData.canLay0 (fr q) = true ∧ PyData.depth (fr q) ≤ 1 := ⟨rfl, by simp [PyData.depth, PyData.depthAll]⟩
@[simp] theorem fine_ws {ws : List Rat} : fineD (wsD ws) = true := fine_tuple (k := 1) (fun d hd => by
  obtain ⟨w, _, rfl⟩ := List.mem_map.mp hd
  exact lay_fr) (by omega)
/-! sizes: a common denominator -/
def Ov (d A : Nat) (q : Rat) : Prop := ∃ a : Int, q * (d : Rat) = (a : Rat) ∧ a.natAbs ≤ A
theorem Ov.mono {d A B : Nat} {q : Rat} (h : Ov d A q) (hl : A ≤ B) : Ov d B q := let ⟨a, h1, h2⟩ := h; ⟨a, h1, by omega⟩
theorem Ov.zero {d A : Nat} : Ov d A 0 := ⟨0, by rw [Rat.zero_mul]; rfl, by simp⟩
theorem Ov.add {d A B : Nat} {p q : Rat} (hp : Ov d A p) (hq : Ov d B q) : Ov d (A + B) (p + q) := by
  obtain ⟨a, h1, h2⟩ := hp
  obtain ⟨b, h3, h4⟩ := hq
  exact ⟨a + b, by rw [Rat.add_mul, h1, h3, Rat.intCast_add], by omega⟩
theorem Ov.eq {d : Nat} {q : Rat} {a : Int} (h : q * (d : Rat) = (a : Rat)) : q.num * d = a * q.den := by
  have h1 : q * (d : Rat) = mkRat (q.num * d) q.den := by
    rw [Rat.mul_def']
    congr 1
    show q.den * 1 = q.den
    omega
  have h2 : (a : Rat) = mkRat a 1 := by rw [← Rat.mkRat_self (a : Rat)]; rfl
  rw [h1, h2, Rat.mkRat_eq_iff q.den_nz (by omega)] at h
  omega
theorem Ov.le {d A : Nat} {q : Rat} (h : Ov d A q) (hd : 0 < d) : q.num.natAbs ≤ A ∧ q.den ≤ d := by
  obtain ⟨a, h1, h2⟩ := h
  have e := Ov.eq h1
  have e2 : q.num.natAbs * d = a.natAbs * q.den := by
    have := congrArg Int.natAbs e
    rwa [Int.natAbs_mul, Int.natAbs_mul, Int.natAbs_natCast, Int.natAbs_natCast] at this
  have hdv : q.den ∣ d := (Nat.Coprime.dvd_of_dvd_mul_left q.reduced.symm (by rw [e2]; exact Nat.dvd_mul_left _ _))
  have hle : q.den ≤ d := Nat.le_of_dvd hd hdv
  refine ⟨?_, hle⟩
  have : q.num.natAbs * q.den ≤ a.natAbs * q.den := by rw [← e2]; exact Nat.mul_le_mul_left _ hle
  have := Nat.le_of_mul_le_mul_right this q.den_pos
  omega
theorem Ov.bt {d A k : Nat} {q : Rat} (h : Ov d A q) (hd : 0 < d) (hd2 : d < 2 ^ k) (hA : A < 2 ^ k) : Bt k q := by
  obtain ⟨h1, h2⟩ := h.le hd
  exact ⟨by omega, by omega⟩
section
variable {tb : Tbl} {n : Nat} {ns : List Int}
theorem lowest_ok {a b : Int} (hb : b ≠ 0) (h24 : tb.fns.lookup 24 = some d_common_divisor) (h37 : tb.fns.lookup 37 = some d_lowest_terms) (hn : 2 ≤ n) : callD tb n 37 [.sh (.int a), .sh (.int b)] = .ok (.sh (fr (Rat.divInt a b))) [] := by
  obtain ⟨n, rfl⟩ : ∃ m, n = m + 1 := ⟨n - 1, by omega⟩
  rw [callD_of h37 rfl, ← fr_low hb]
  have g1 : 0 < Nat.gcd a.natAbs b.natAbs := Nat.gcd_pos_of_pos_right _ (by omega)
  have f : ∀ x : Int, binI .fdiv x (Nat.gcd a.natAbs b.natAbs) = some (.int (x.fdiv (Nat.gcd a.natAbs b.natAbs))) := fun x => binI_fdiv (by omega)
  have hc := common_divisor_ok (tb := tb) (n := n) (a := a.natAbs) (b := b.natAbs) h24 (by omega)
  by_cases hp : b < 0
  · have e1 : (b.natAbs : Int) = -b := by omega
    have e2 : (if 0 < a then a else -a) = (a.natAbs : Int) := by split <;> omega
    rw [e1] at hc
    simp [d_lowest_terms, b_lowest_terms, startE, outsOf, ioIx, hp, spure, e2, hc, f, lowT, lowB, show ¬ 0 < b by omega, e1]
  · have e1 : (b.natAbs : Int) = b := by omega
    rw [e1] at hc
    simp [d_lowest_terms, b_lowest_terms, startE, outsOf, ioIx, hp, spure, Nat.cast_natAbs', hc, f, lowT, lowB, show 0 < b by omega, e1]
theorem mulOk_num {p q : Rat} {k l : Nat} (hp : Bt k p) (hq : Bt l q) (h : k + l ≤ 80000000) : mulOk p.num q.den = true ∧ mulOk q.num p.den = true ∧ mulOk p.den q.den = true ∧ mulOk p.num q.num = true ∧ mulOk p.den q.num = true :=
  ⟨mulOk_lt hp.1 (by simpa using hq.2) (by omega), mulOk_lt hq.1 (by simpa using hp.2) (by omega), mulOk_lt (by simpa using hp.2) (by simpa using hq.2) (by omega), mulOk_lt hp.1 hq.1 (by omega), mulOk_lt (by simpa using hp.2) hq.1 (by omega)⟩
theorem den_ne (p q : Rat) : (p.den : Int) * (q.den : Int) ≠ 0 := Int.mul_ne_zero (by have := p.den_pos; omega) (by have := q.den_pos; omega)
theorem plus_ok {p q : Rat} {k l : Nat} (hp : Bt k p) (hq : Bt l q) (h : k + l ≤ 80000000) (h24 : tb.fns.lookup 24 = some d_common_divisor) (h37 : tb.fns.lookup 37 = some d_lowest_terms) (h38 : tb.fns.lookup 38 = some d_plus) (hn : 3 ≤ n) : callD tb n 38 [.sh (fr p), .sh (fr q)] = .ok (.sh (fr (p + q))) [] := by
  obtain ⟨n, rfl⟩ : ∃ m, n = m + 1 := ⟨n - 1, by omega⟩
  rw [callD_of h38 rfl]
  obtain ⟨m1, m2, m3, m4, m5⟩ := mulOk_num hp hq h
  have e := lowest_ok (tb := tb) (n := n) (a := p.num * q.den + q.num * p.den) (b := (p.den : Int) * (q.den : Int)) (den_ne p q) h24 h37 (by omega)
  rw [add_low] at e
  simp [d_plus, b_plus, startE, outsOf, ioIx, spure, binI_mul, m1, m2, m3, e]
theorem times_ok {p q : Rat} {k l : Nat} (hp : Bt k p) (hq : Bt l q) (h : k + l ≤ 80000000) (h24 : tb.fns.lookup 24 = some d_common_divisor) (h37 : tb.fns.lookup 37 = some d_lowest_terms) (h82 : tb.fns.lookup 82 = some d_times) (hn : 3 ≤ n) : callD tb n 82 [.sh (fr p), .sh (fr q)] = .ok (.sh (fr (p * q))) [] := by
  obtain ⟨n, rfl⟩ : ∃ m, n = m + 1 := ⟨n - 1, by omega⟩
  rw [callD_of h82 rfl]
  obtain ⟨m1, m2, m3, m4, m5⟩ := mulOk_num hp hq h
  have e := lowest_ok (tb := tb) (n := n) (a := p.num * q.num) (b := (p.den : Int) * (q.den : Int)) (den_ne p q) h24 h37 (by omega)
  rw [mul_low] at e
  simp [d_times, b_times, startE, outsOf, ioIx, spure, binI_mul, m1, m2, m3, m4, e]
theorem num_ne {q : Rat} (h : q ≠ 0) : q.num ≠ 0 := fun e => h (Rat.num_eq_zero.mp e)
theorem over_ok {p q : Rat} {k l : Nat} (hz : q ≠ 0) (hp : Bt k p) (hq : Bt l q) (h : k + l ≤ 80000000) (h24 : tb.fns.lookup 24 = some d_common_divisor) (h37 : tb.fns.lookup 37 = some d_lowest_terms) (h153 : tb.fns.lookup 153 = some d_over) (hn : 3 ≤ n) : callD tb n 153 [.sh (fr p), .sh (fr q)] = .ok (.sh (fr (p / q))) [] := by
  obtain ⟨n, rfl⟩ : ∃ m, n = m + 1 := ⟨n - 1, by omega⟩
  rw [callD_of h153 rfl]
  obtain ⟨m1, m2, m3, m4, m5⟩ := mulOk_num hp hq h
  have e := lowest_ok (tb := tb) (n := n) (a := p.num * q.den) (b := (p.den : Int) * q.num) (Int.mul_ne_zero (by have := p.den_pos; omega) (num_ne hz)) h24 h37 (by omega)
  rw [div_low] at e
  simp [d_over, b_over, startE, outsOf, ioIx, spure, binI_mul, m1, m2, m3, m4, m5, e]
theorem law_plus_ok {p q : Rat} {k l : Nat} (hp : Bt k p) (hq : Bt l q) (h : k + l ≤ 70000000) (h29 : tb.fns.lookup 29 = some d__law_fraction) (h50 : tb.fns.lookup 50 = some d__law_plus) (hn : 2 ≤ n) : callD tb n 50 [.sh (fr p), .sh (fr q)] = .ok (.sh (fr (p + q))) [] := by
  obtain ⟨n, rfl⟩ : ∃ m, n = m + 1 := ⟨n - 1, by omega⟩
  rw [callD_of h50 rfl]
  obtain ⟨m1, m2, m3, m4, m5⟩ := mulOk_num hp hq (by omega)
  have hb : (p.num * q.den + q.num * p.den).natAbs < 2 ^ (k + l + 1) := by
    have a1 : p.num.natAbs * q.den < 2 ^ (k + l) := by
      rw [Nat.pow_add]
      exact Nat.mul_lt_mul'' hp.1 hq.2
    have a2 : q.num.natAbs * p.den < 2 ^ (k + l) := by
      rw [Nat.pow_add, Nat.mul_comm]
      exact Nat.mul_lt_mul'' hp.2 hq.1
    have := Int.natAbs_add_le (p.num * q.den) (q.num * p.den)
    rw [Int.natAbs_mul, Int.natAbs_mul, Int.natAbs_natCast, Int.natAbs_natCast] at this
    rw [Nat.pow_succ]
    omega
  have e := law_fraction_ok (tb := tb) (n := n) (a := p.num * q.den + q.num * p.den) (b := (p.den : Int) * (q.den : Int)) (den_ne p q) hb (by omega) h29 (by omega)
  rw [fr_low (den_ne p q), add_low] at e
  simp [d__law_plus, b__law_plus, startE, outsOf, ioIx, spure, binI_mul, m1, m2, m3, e]
theorem law_times_ok {p q : Rat} {k l : Nat} (hp : Bt k p) (hq : Bt l q) (h : k + l ≤ 70000000) (h29 : tb.fns.lookup 29 = some d__law_fraction) (h71 : tb.fns.lookup 71 = some d__law_times) (hn : 2 ≤ n) : callD tb n 71 [.sh (fr p), .sh (fr q)] = .ok (.sh (fr (p * q))) [] := by
  obtain ⟨n, rfl⟩ : ∃ m, n = m + 1 := ⟨n - 1, by omega⟩
  rw [callD_of h71 rfl]
  obtain ⟨m1, m2, m3, m4, m5⟩ := mulOk_num hp hq (by omega)
  have hb : (p.num * q.num).natAbs < 2 ^ (k + l) := by
    rw [Int.natAbs_mul, Nat.pow_add]
    exact Nat.mul_lt_mul'' hp.1 hq.1
  have e := law_fraction_ok (tb := tb) (n := n) (a := p.num * q.num) (b := (p.den : Int) * (q.den : Int)) (den_ne p q) hb (by omega) h29 (by omega)
  rw [fr_low (den_ne p q), mul_low] at e
  simp [d__law_times, b__law_times, startE, outsOf, ioIx, spure, binI_mul, m1, m2, m3, m4, e]
/-- sums, from the left -/
def qsum (qs : List Rat) : Rat := qs.foldl (· + ·) 0
theorem take_sum {qs : List Rat} {j : Nat} {q : Rat} (h : qs[j]? = some q) : qsum (qs.take (j + 1)) = qsum (qs.take j) + q := by
  unfold qsum
  rw [List.take_add_one, List.foldl_append, h]
  rfl
def BtS (k : Nat) (qs : List Rat) : Prop := (∀ q ∈ qs, Bt k q) ∧ ∀ j, Bt k (qsum (qs.take j))
theorem Ov.sum {d A : Nat} : ∀ {qs : List Rat}, (∀ q ∈ qs, Ov d A q) → ∀ j, j ≤ qs.length → Ov d (j * A) (qsum (qs.take j))
  | qs, h, 0, _ => by rw [List.take_zero]; exact Ov.zero
  | qs, h, j + 1, hj => by
    have hq : qs[j]? = some qs[j] := List.getElem?_eq_getElem (by omega)
    rw [take_sum hq, Nat.succ_mul]
    exact (Ov.sum h j (by omega)).add (h _ (List.getElem_mem _))
theorem Ov.btS {d A k m : Nat} {qs : List Rat} (h : ∀ q ∈ qs, Ov d A q) (hm : qs.length ≤ m) (hm1 : 1 ≤ m) (hd : 0 < d) (hd2 : d < 2 ^ k) (hA : m * A < 2 ^ k) : BtS k qs := by
  refine ⟨fun q hq => (h q hq).bt hd hd2 (Nat.lt_of_le_of_lt (Nat.le_mul_of_pos_left _ (by omega)) hA), fun j => ?_⟩
  rcases Nat.le_total j qs.length with hj | hj
  · exact (Ov.sum h j hj).bt hd hd2 (Nat.lt_of_le_of_lt (Nat.mul_le_mul_right _ (by omega)) hA)
  · have := (Ov.sum h qs.length (Nat.le_refl _)).bt hd hd2 (Nat.lt_of_le_of_lt (Nat.mul_le_mul_right _ hm) hA)
    rwa [List.take_length, ← List.take_of_length_le hj] at this
theorem total_ok {qs : List Rat} {k : Nat} (hb : BtS k qs) (hk : k + k ≤ 80000000) (h24 : tb.fns.lookup 24 = some d_common_divisor) (h37 : tb.fns.lookup 37 = some d_lowest_terms) (h38 : tb.fns.lookup 38 = some d_plus) (h39 : tb.fns.lookup 39 = some d_total) (hn : 4 ≤ n) : callD tb n 39 [.sh (.list (qs.map fr))] = .ok (.sh (fr (qsum qs))) [] := by
  obtain ⟨n, rfl⟩ : ∃ m, n = m + 1 := ⟨n - 1, by omega⟩
  rw [callD_of h39 rfl]
  obtain ⟨Γ, e, x2, rfl⟩ := for_inv (bind := bindTg true [2]) (body := exSs (callD tb n) (.cons (.asg true [1] (.call 38 (.cons (.var 1) (.cons (.var 2) .nil)))) .nil)) (fun j Γ => ∃ x2, Γ = [some (.sh (.list (qs.map fr))), some (.sh (fr (qsum (qs.take j)))), x2]) (qs.map fr) 0 [some (.sh (.list (qs.map fr))), some (.sh (fr 0)), none]
    ⟨none, rfl⟩ (fun j d Γ hd hI => by
      obtain ⟨x2, rfl⟩ := hI
      rw [Nat.zero_add]
      rw [List.getElem?_map] at hd
      cases hq : qs[j]? with
      | none => rw [hq] at hd; cases hd
      | some q =>
        rw [hq] at hd
        cases hd
        have e := plus_ok (tb := tb) (n := n) (hb.2 j) (hb.1 q (List.mem_of_getElem? hq)) hk h24 h37 h38 (by omega)
        refine ⟨[some (.sh (.list (qs.map fr))), some (.sh (fr (qsum (qs.take (j + 1))))), some (.sh (fr q))], ?_, some (.sh (fr q)), rfl⟩
        rw [take_sum hq]
        simp [e])
  rw [List.length_map, Nat.zero_add, List.take_length] at e
  have h0 : fr 0 = .tuple [.int 0, .int 1] := rfl
  rw [h0] at e
  simp [d_total, b_total, startE, outsOf, ioIx, sFor, e]
theorem law_total_ok {qs : List Rat} {k : Nat} (hb : BtS k qs) (hk : k + k ≤ 70000000) (h29 : tb.fns.lookup 29 = some d__law_fraction) (h50 : tb.fns.lookup 50 = some d__law_plus) (h51 : tb.fns.lookup 51 = some d__law_total) (hn : 3 ≤ n) : callD tb n 51 [.sh (.list (qs.map fr))] = .ok (.sh (fr (qsum qs))) [] := by
  obtain ⟨n, rfl⟩ : ∃ m, n = m + 1 := ⟨n - 1, by omega⟩
  rw [callD_of h51 rfl]
  obtain ⟨Γ, e, x2, rfl⟩ := for_inv (bind := bindTg true [2]) (body := exSs (callD tb n) (.cons (.asg true [1] (.call 50 (.cons (.var 1) (.cons (.var 2) .nil)))) .nil)) (fun j Γ => ∃ x2, Γ = [some (.sh (.list (qs.map fr))), some (.sh (fr (qsum (qs.take j)))), x2]) (qs.map fr) 0 [some (.sh (.list (qs.map fr))), some (.sh (fr 0)), none]
    ⟨none, rfl⟩ (fun j d Γ hd hI => by
      obtain ⟨x2, rfl⟩ := hI
      rw [Nat.zero_add]
      rw [List.getElem?_map] at hd
      cases hq : qs[j]? with
      | none => rw [hq] at hd; cases hd
      | some q =>
        rw [hq] at hd
        cases hd
        have e := law_plus_ok (tb := tb) (n := n) (hb.2 j) (hb.1 q (List.mem_of_getElem? hq)) hk h29 h50 (by omega)
        refine ⟨[some (.sh (.list (qs.map fr))), some (.sh (fr (qsum (qs.take (j + 1))))), some (.sh (fr q))], ?_, some (.sh (fr q)), rfl⟩
        rw [take_sum hq]
        simp [e])
  rw [List.length_map, Nat.zero_add, List.take_length] at e
  have h0 : fr 0 = .tuple [.int 0, .int 1] := rfl
  rw [h0] at e
  simp [d__law_total, b__law_total, startE, outsOf, ioIx, sFor, e]
end
end Z

set_option maxRecDepth 100000
set_option linter.all false
namespace Z
open PySem
/-- a for that goes on while the items are right, and ends as R says at the first that is not -/
theorem for_until {bind : D → Env → Option Env} {body : Env → SOut} {R : Env → SOut} (hR : ∀ Γ k, (R Γ).andThen k = R Γ) (Inv : Nat → Env → Prop) (q : Nat → D → Bool) : ∀ (ds : List D) (i : Nat) (Γ : Env), Inv i Γ →
    (∀ j d Γ, ds[j]? = some d → Inv (i + j) Γ → (q (i + j) d = true → ∃ Γ', forK (bind d Γ) body = .nx Γ' ∧ Inv (i + j + 1) Γ') ∧ (q (i + j) d = false → ∃ Γ', forK (bind d Γ) body = R Γ')) →
    ((∀ j d, ds[j]? = some d → q (i + j) d = true) → ∃ Γ', forRun bind body ds Γ = .nx Γ' ∧ Inv (i + ds.length) Γ') ∧ ((∃ j d, ds[j]? = some d ∧ q (i + j) d = false) → ∃ Γ', forRun bind body ds Γ = R Γ')
  | [], i, Γ, hi, _ => ⟨fun _ => ⟨Γ, rfl, hi⟩, fun ⟨j, d, h, _⟩ => by simp at h⟩
  | d :: ds, i, Γ, hi, h => by
    obtain ⟨h1, h2⟩ := h 0 d Γ rfl hi
    rw [Nat.add_zero] at h1 h2
    cases hq : q i d with
    | false =>
      obtain ⟨Γ', e⟩ := h2 hq
      refine ⟨fun z => ?_, fun _ => ⟨Γ', by rw [forRun_cons, e, hR]⟩⟩
      have := z 0 d rfl
      rw [Nat.add_zero, hq] at this
      cases this
    | true =>
      obtain ⟨Γ', e, hi'⟩ := h1 hq
      obtain ⟨k1, k2⟩ := for_until hR Inv q ds (i + 1) Γ' hi' (fun j d' Γ'' hj hI => by
        have := h (j + 1) d' Γ'' (by simpa using hj) (by rw [show i + (j + 1) = i + 1 + j by omega]; exact hI)
        rw [show i + (j + 1) = i + 1 + j by omega] at this
        exact this)
      rw [forRun_cons, e, andThen_nx]
      refine ⟨fun z => ?_, fun ⟨j, d', hj, hf⟩ => k2 ?_⟩
      · obtain ⟨Γ2, e2, i2⟩ := k1 fun j d' hj => by
          have := z (j + 1) d' (by simpa using hj)
          rwa [show i + (j + 1) = i + 1 + j by omega] at this
        exact ⟨Γ2, e2, by rw [List.length_cons, show i + (ds.length + 1) = i + 1 + ds.length by omega]; exact i2⟩
      · cases j with
        | zero =>
          cases hj
          rw [Nat.add_zero, hq] at hf
          cases hf
        | succ j => exact ⟨j, d', by simpa using hj, by rwa [show i + (j + 1) = i + 1 + j by omega] at hf⟩
theorem ixD_ints {is : List Int} {j : Nat} {i : Int} (h : is[j]? = some i) : ixD (.list (is.map PyData.int)) (j : Int) = some (.int i) := by
  rw [ixD_nat (by simpa using (List.getElem?_eq_some_iff.mp h).1)]
  simp [h]
theorem ixD_map {α : Type} {f : α → D} {xs : List α} {j : Nat} {x : α} (h : xs[j]? = some x) : ixD (.list (xs.map f)) (j : Int) = some (f x) := by
  rw [ixD_nat (by simpa using (List.getElem?_eq_some_iff.mp h).1)]
  simp [h]
/-- the weights of a group -/
def sel (ws : List Rat) (ps : List (List Int)) (j : Nat) (g : Int) : List Rat := ((ws.zip ps).filter fun x => x.2.getD j 0 == g).map (·.1)
def own (ws : List Rat) (ps : List (List Int)) (j : Nat) (g : Int) : Rat := qsum (sel ws ps j g)
theorem sel_len {ws : List Rat} {ps : List (List Int)} {j : Nat} {g : Int} : (sel ws ps j g).length ≤ ws.length := by
  unfold sel
  rw [List.length_map]
  exact Nat.le_trans (List.length_filter_le _ _) (by rw [List.length_zip]; omega)
theorem sel_mem {ws : List Rat} {ps : List (List Int)} {j : Nat} {g : Int} : ∀ w ∈ sel ws ps j g, w ∈ ws := fun w hw => by
  unfold sel at hw
  obtain ⟨x, hx, rfl⟩ := List.mem_map.mp hw
  exact (List.of_mem_zip (List.mem_filter.mp hx).1).1
def selD (j : Nat) (g : Int) (d : D) : Option D := match d with
  | .tuple [w, .tuple p] => if (match p[j]? with | some (.int i) => i == g | _ => false) then some w else none
  | _ => none
theorem zip_sel {j : Nat} {g : Int} : ∀ {ws : List Rat} {ps : List (List Int)}, (∀ p ∈ ps, j < p.length) → (zipD (ws.map fr) (ps.map intT)).filterMap (selD j g) = (sel ws ps j g).map fr
  | [], _, _ => by unfold zipD sel; simp
  | _ :: _, [], _ => by unfold zipD sel; simp
  | w :: ws, p :: ps, h => by
    have hj := h p List.mem_cons_self
    have ih := zip_sel (j := j) (g := g) (ws := ws) (ps := ps) (fun p hp => h p (List.mem_cons_of_mem _ hp))
    rw [List.map_cons, List.map_cons, zipD, List.filterMap_cons, ih]
    have e : selD j g (.tuple [fr w, intT p]) = if p.getD j 0 == g then some (fr w) else none := by
      show (if (match (p.map PyData.int)[j]? with | some (.int i) => i == g | _ => false) = true then some (fr w) else none) = _
      rw [List.getElem?_map, List.getElem?_eq_getElem hj]
      simp [List.getD_eq_getElem?_getD, List.getElem?_eq_getElem hj]
    rw [e]
    unfold sel
    rw [List.zip_cons_cons, List.filter_cons]
    by_cases hg : (p.getD j 0 == g) = true
    · simp only [hg, if_true, List.map_cons]
    · simp only [hg, if_false]
      rfl
section
variable {tb : Tbl} {n : Nat} {ns : List Int}
theorem zip_mem {ws : List Rat} {ps : List (List Int)} {d : D} (h : d ∈ zipD (ws.map fr) (ps.map intT)) : ∃ w p, d = .tuple [fr w, intT p] ∧ w ∈ ws ∧ p ∈ ps := by
  obtain ⟨a, b, rfl, ha, hb⟩ := mem_zipD h
  obtain ⟨w, hw, rfl⟩ := List.mem_map.mp ha
  obtain ⟨p, hp, rfl⟩ := List.mem_map.mp hb
  exact ⟨w, p, rfl, hw, hp⟩
theorem group_sum_ok {a : D} {ps : List (List Int)} {ws : List Rat} {j k : Nat} {g : Int} (hp : ps.length ≤ 8) (hj : ∀ p ∈ ps, j < p.length) (hb : BtS k (sel ws ps j g)) (hk : k + k ≤ 80000000) (h24 : tb.fns.lookup 24 = some d_common_divisor) (h37 : tb.fns.lookup 37 = some d_lowest_terms) (h38 : tb.fns.lookup 38 = some d_plus) (h39 : tb.fns.lookup 39 = some d_total) (h42 : tb.fns.lookup 42 = some d_group_sum) (hn : 5 ≤ n) :
    callD tb n 42 [.sh (.tuple [a, .tuple (ps.map intT)]), .sh (wsD ws), .sh (.int j), .sh (.int g)] = .ok (.sh (fr (own ws ps j g))) [] := by
  obtain ⟨n, rfl⟩ : ∃ m, n = m + 1 := ⟨n - 1, by omega⟩
  rw [callD_of h42 rfl]
  have e := total_ok (tb := tb) (n := n) hb hk h24 h37 h38 h39 (by omega)
  have hk : lcK (callD tb n) (.var 4) [4, 5] false (.cmp .eq (.ix (.var 5) (.var 2)) (.var 3)) [4, 5] false (zipD (ws.map fr) (ps.map intT)) [some (.sh (.tuple [a, .tuple (ps.map intT)])), some (.sh (wsD ws)), some (.sh (.int j)), some (.sh (.int g)), none, none] = .ok (.t (ol ((zipD (ws.map fr) (ps.map intT)).filterMap (selD j g)))) [some (.sh (.tuple [a, .tuple (ps.map intT)])), some (.sh (wsD ws)), some (.sh (.int j)), some (.sh (.int g)), none, none] := by
    refine lcK_pure _ (selD j g) (by rw [zipD_len]; simp; omega) fun d hd => ?_
    obtain ⟨w, p, rfl, hw, hp⟩ := zip_mem hd
    have hpj : j < p.length := hj p hp
    have hx : p[j]? = some p[j] := List.getElem?_eq_getElem hpj
    have hsel : selD j g (.tuple [fr w, intT p]) = if p[j] == g then some (fr w) else none := by
      show (if (match (p.map PyData.int)[j]? with | some (.int i) => i == g | _ => false) = true then some (fr w) else none) = _
      rw [List.getElem?_map, hx]
      rfl
    rw [hsel]
    by_cases hg : p[j] = g
    · simp [spure, ixD_ints hx, hg]
    · simp [spure, ixD_ints hx, hg]
  rw [zip_sel hj] at hk
  unfold own
  simp [d_group_sum, b_group_sum, startE, outsOf, ioIx, spure, ev_lc, hk, e]
theorem bt_divInt {a b : Int} {k : Nat} (hb : b ≠ 0) (h1 : a.natAbs < 2 ^ k) (h2 : b.natAbs < 2 ^ k) : Bt k (Rat.divInt a b) := by
  have key : ∀ (a : Int) (d : Nat), d ≠ 0 → a.natAbs < 2 ^ k → d < 2 ^ k → Bt k (mkRat a d) := fun a d hd ha hd2 => by
    obtain ⟨e1, e2⟩ := mk_low (a := a) hd
    refine ⟨?_, ?_⟩
    · rw [e1, Int.natAbs_ediv_of_dvd (Int.ofNat_dvd_left.mpr (Nat.gcd_dvd_left _ _))]
      exact Nat.lt_of_le_of_lt (Nat.div_le_self _ _) ha
    · rw [e2]
      exact Nat.lt_of_le_of_lt (Nat.div_le_self _ _) hd2
  cases b with
  | ofNat d =>
    have hd : d ≠ 0 := fun e => hb (by rw [e]; rfl)
    rw [show Rat.divInt a (Int.ofNat d) = mkRat a d from Rat.divInt_ofNat a d]
    exact key a d hd h1 h2
  | negSucc d =>
    have hd : d.succ ≠ 0 := by omega
    rw [show Rat.divInt a (Int.negSucc d) = mkRat (-a) d.succ from Rat.normalize_eq_mkRat hd]
    exact key (-a) d.succ hd (by rwa [Int.natAbs_neg]) h2
theorem bt_mul {p q : Rat} {k l : Nat} (hp : Bt k p) (hq : Bt l q) : Bt (k + l) (p * q) := by
  rw [← mul_low]
  refine bt_divInt (den_ne p q) ?_ ?_
  · rw [Int.natAbs_mul, Nat.pow_add]
    exact Nat.mul_lt_mul'' hp.1 hq.1
  · rw [Int.natAbs_mul, Nat.pow_add]
    exact Nat.mul_lt_mul'' (by simpa using hp.2) (by simpa using hq.2)
theorem bt_div {p q : Rat} {k l : Nat} (hz : q ≠ 0) (hp : Bt k p) (hq : Bt l q) : Bt (k + l) (p / q) := by
  rw [← div_low]
  refine bt_divInt (Int.mul_ne_zero (by have := p.den_pos; omega) (num_ne hz)) ?_ ?_
  · rw [Int.natAbs_mul, Nat.pow_add]
    exact Nat.mul_lt_mul'' hp.1 (by simpa using hq.2)
  · rw [Int.natAbs_mul, Nat.pow_add]
    exact Nat.mul_lt_mul'' (by simpa using hp.2) hq.1
theorem bt_add {p q : Rat} {k l : Nat} (hp : Bt k p) (hq : Bt l q) : Bt (k + l + 1) (p + q) := by
  rw [← add_low]
  refine bt_divInt (den_ne p q) ?_ ?_
  · have a1 : p.num.natAbs * q.den < 2 ^ (k + l) := by
      rw [Nat.pow_add]
      exact Nat.mul_lt_mul'' hp.1 hq.2
    have a2 : q.num.natAbs * p.den < 2 ^ (k + l) := by
      rw [Nat.pow_add, Nat.mul_comm]
      exact Nat.mul_lt_mul'' hp.2 hq.1
    have := Int.natAbs_add_le (p.num * q.den) (q.num * p.den)
    rw [Int.natAbs_mul, Int.natAbs_mul, Int.natAbs_natCast, Int.natAbs_natCast] at this
    rw [Nat.pow_succ]
    omega
  · rw [Int.natAbs_mul, Nat.pow_succ, Nat.pow_add]
    have := Nat.mul_lt_mul'' (show (p.den : Int).natAbs < _ by simpa using hp.2) (show (q.den : Int).natAbs < _ by simpa using hq.2)
    omega
theorem bt_int {i : Int} {k : Nat} (h : i.natAbs < 2 ^ k) (hk : 1 ≤ k) : Bt k (i : Rat) := ⟨h, Nat.one_lt_two_pow (by omega)⟩
theorem fr_int {i : Int} : fr (i : Rat) = .tuple [.int i, .int 1] := rfl
end
end Z

set_option maxRecDepth 100000
set_option linter.all false
namespace Z
open PySem
/-! a step of raking -/
def fac (row : List Int) (ws : List Rat) (ps : List (List Int)) (j g : Nat) : Rat := if own ws ps j g = 0 then 1 else ((row.getD g 0 : Int) : Rat) / own ws ps j g
def badG (row : List Int) (ws : List Rat) (ps : List (List Int)) (j g : Nat) : Bool := decide (own ws ps j g = 0) && decide (0 < row.getD g 0)
def stepQ (row : List Int) (ps : List (List Int)) (j : Nat) (ws : List Rat) : Option (List Rat) := if (List.range row.length).any (badG row ws ps j) then none else some (List.zipWith (fun w p => w * fac row ws ps j (p.getD j 0).toNat) ws ps)
theorem enm_get' : ∀ {ds : List D} {i j : Nat} {d : D}, (enmD i ds)[j]? = some d → ∃ x, ds[j]? = some x ∧ d = .tuple [.int ((i + j : Nat) : Int), x]
  | [], i, j, d, h => by unfold enmD at h; simp at h
  | x :: ds, i, 0, d, h => by unfold enmD at h; simp at h; exact ⟨x, rfl, by rw [← h]; simp⟩
  | x :: ds, i, j + 1, d, h => by
    unfold enmD at h
    obtain ⟨y, h1, h2⟩ := enm_get' (by simpa using h)
    exact ⟨y, by simpa using h1, by rw [h2]; congr 3; omega⟩
section
variable {tb : Tbl} {n : Nat} {ns : List Int}
structure StepOk (ss : List Int) (ps : List (List Int)) (j : Nat) (row : List Int) (ws : List Rat) (k : Nat) : Prop where
  pl : ps.length ≤ 8
  wl : ws.length = ps.length
  kd : ∀ p ∈ ps, j < p.length ∧ 0 ≤ p.getD j 0 ∧ p.getD j 0 < row.length
  rl : row.length ≤ 3
  row : ∀ x ∈ row, 0 ≤ x ∧ x ≤ 40
  bs : ∀ g : Int, BtS k (sel ws ps j g)
  bw : ∀ w ∈ ws, Bt k w
  kk : k ≤ 10000000
theorem StepOk.bo {ss : List Int} {ps : List (List Int)} {j : Nat} {row : List Int} {ws : List Rat} {k : Nat} (h : StepOk ss ps j row ws k) (g : Int) : Bt k (own ws ps j g) := by
  have := (h.bs g).2 (sel ws ps j g).length
  rwa [List.take_length] at this
theorem StepOk.bf {ss : List Int} {ps : List (List Int)} {j : Nat} {row : List Int} {ws : List Rat} {k : Nat} (h : StepOk ss ps j row ws k) {g : Nat} (hg : g < row.length) : Bt (6 + k) (fac row ws ps j g) := by
  unfold fac
  split
  · exact ⟨Nat.one_lt_two_pow (by omega), Nat.one_lt_two_pow (by omega)⟩
  · rename_i hz
    have hr : row.getD g 0 ∈ row := by rw [List.getD_eq_getElem?_getD, List.getElem?_eq_getElem hg]; exact List.getElem_mem _
    have := h.row _ hr
    exact bt_div hz (bt_int (show (row.getD g 0).natAbs < 64 by omega) (by omega)) (h.bo g)
def stpB1 : Ss := match b_stepped with
  | .cons _ (.cons (.forS _ _ _ b) _) => b
  | _ => .nil
theorem mul_fac {q : Rat} : q * 1 = q := Rat.mul_one q
theorem stepped_ok {ss : List Int} {ps gs : List (List Int)} {j k : Nat} {row : List Int} {ws : List Rat} (hg : gs[j]? = some row) (h : StepOk ss ps j row ws k) (h24 : tb.fns.lookup 24 = some d_common_divisor) (h37 : tb.fns.lookup 37 = some d_lowest_terms) (h38 : tb.fns.lookup 38 = some d_plus) (h39 : tb.fns.lookup 39 = some d_total) (h40 : tb.fns.lookup 40 = some d_whole) (h42 : tb.fns.lookup 42 = some d_group_sum) (h82 : tb.fns.lookup 82 = some d_times) (h153 : tb.fns.lookup 153 = some d_over) (h171 : tb.fns.lookup 171 = some d_stepped) (hn : 7 ≤ n) :
    callD tb n 171 [.sh (svD ss ps), .sh (goalD gs), .sh (wsD ws), .sh (.int j)] = match stepQ row ps j ws with
      | some ws' => .ok (.sh (wsD ws')) []
      | none => .ex 12 [] := by
  obtain ⟨n, rfl⟩ : ∃ m, n = m + 1 := ⟨n - 1, by omega⟩
  rw [callD_of h171 rfl]
  have hrl := h.rl
  have hfor := for_until (bind := bindTg false [5, 6]) (body := exSs (callD tb n) stpB1) (R := fun Γ => .ex 12 Γ) (fun _ _ => rfl) (fun i Γ => ∃ x5 x6 x7, Γ = [some (.sh (svD ss ps)), some (.sh (goalD gs)), some (.sh (wsD ws)), some (.sh (.int j)), some (ol (((List.range i).map (fac row ws ps j)).map fr)), x5, x6, x7, none, none]) (fun i _ => !badG row ws ps j i) (enmD 0 (row.map PyData.int)) 0 [some (.sh (svD ss ps)), some (.sh (goalD gs)), some (.sh (wsD ws)), some (.sh (.int j)), some (ol []), none, none, none, none, none]
    ⟨none, none, none, rfl⟩ (fun i d Γ hd hI => by
      obtain ⟨x5, x6, x7, rfl⟩ := hI
      obtain ⟨x, hx, rfl⟩ := enm_get' hd
      rw [Nat.zero_add]
      rw [List.getElem?_map] at hx
      cases hr : row[i]? with
      | none => rw [hr] at hx; cases hx
      | some r =>
        rw [hr] at hx
        cases hx
        have hil : i < row.length := (List.getElem?_eq_some_iff.mp hr).1
        have hgd : row.getD i 0 = r := by rw [List.getD_eq_getElem?_getD, hr]; rfl
        have hrr := h.row r (List.mem_of_getElem? hr)
        have e1 := group_sum_ok (tb := tb) (n := n) (a := intT ss) (ps := ps) (ws := ws) (j := j) (g := (i : Int)) h.pl (fun p hp => (h.kd p hp).1) (h.bs i) (by have := h.kk; omega) h24 h37 h38 h39 h42 (by omega)
        have e2 : callD tb n 40 [.sh (.int r)] = .ok (.sh (fr (r : Rat))) [] := by
          obtain ⟨n, rfl⟩ : ∃ m, n = m + 1 := ⟨n - 1, by omega⟩
          rw [callD_of h40 rfl]
          simp [d_whole, b_whole, startE, outsOf, ioIx, fr_int]
        have hl3 : i ≤ 1000000 := by omega
        have hsucc : ((List.range (i + 1)).map (fac row ws ps j)).map fr = ((List.range i).map (fac row ws ps j)).map fr ++ [fr (fac row ws ps j i)] := by
          rw [List.range_succ]
          simp
        have hbad : badG row ws ps j i = (decide (own ws ps j i = 0) && decide (0 < r)) := by unfold badG; rw [hgd]
        by_cases hz : own ws ps j i = 0
        · have hnum : (own ws ps j i).num = 0 := by rw [hz]; rfl
          by_cases hpos : 0 < r
          · refine ⟨fun q => ?_, fun _ => ⟨[some (.sh (svD ss ps)), some (.sh (goalD gs)), some (.sh (wsD ws)), some (.sh (.int j)), some (ol (((List.range i).map (fac row ws ps j)).map fr)), some (.sh (.int i)), some (.sh (.int r)), some (.sh (fr (own ws ps j i))), none, none], ?_⟩⟩
            · simp [hbad, hz, hpos] at q
            · simp [stpB1, b_stepped, e1, spure, hnum, hpos]
          · have hf : fac row ws ps j i = 1 := by unfold fac; rw [if_pos hz]
            refine ⟨fun _ => ⟨[some (.sh (svD ss ps)), some (.sh (goalD gs)), some (.sh (wsD ws)), some (.sh (.int j)), some (ol (((List.range (i + 1)).map (fac row ws ps j)).map fr)), some (.sh (.int i)), some (.sh (.int r)), some (.sh (fr (own ws ps j i))), none, none], ?_, _, _, _, rfl⟩, fun q => ?_⟩
            · rw [hsucc, hf]
              have h1 : fr 1 = .tuple [.int 1, .int 1] := rfl
              simp [stpB1, b_stepped, e1, spure, hnum, hpos, hl3, h1]
            · simp [hbad, hz, hpos] at q
        · have hnum : ¬ (own ws ps j i).num = 0 := num_ne hz
          have hf : fac row ws ps j i = (r : Rat) / own ws ps j i := by unfold fac; rw [if_neg hz, hgd]
          have e3 := over_ok (tb := tb) (n := n) (p := (r : Rat)) hz (bt_int (k := 6) (show r.natAbs < 64 by omega) (by omega)) (h.bo i) (by have := h.kk; omega) h24 h37 h153 (by omega)
          refine ⟨fun _ => ⟨[some (.sh (svD ss ps)), some (.sh (goalD gs)), some (.sh (wsD ws)), some (.sh (.int j)), some (ol (((List.range (i + 1)).map (fac row ws ps j)).map fr)), some (.sh (.int i)), some (.sh (.int r)), some (.sh (fr (own ws ps j i))), none, none], ?_, _, _, _, rfl⟩, fun q => ?_⟩
          · rw [hsucc, hf]
            simp [stpB1, b_stepped, e1, e2, e3, spure, hnum, hl3]
          · simp [badG, hz] at q)
  have hix : ixD (.list (gs.map intT)) (j : Int) = some (intT row) := ixD_map hg
  have hlen : (enmD 0 (row.map PyData.int)).length = row.length := by
    have : ∀ (ds : List D) (i : Nat), (enmD i ds).length = ds.length := by
      intro ds
      induction ds with
      | nil => intro i; unfold enmD; rfl
      | cons x ds ih => intro i; unfold enmD; rw [List.length_cons, ih, List.length_cons]
    rw [this, List.length_map]
  unfold stepQ
  cases hany : (List.range row.length).any (badG row ws ps j) with
  | true =>
    obtain ⟨g, hgm, hgb⟩ := List.any_eq_true.mp hany
    have hgl : g < row.length := List.mem_range.mp hgm
    obtain ⟨Γ, e⟩ := hfor.2 ⟨g, (enmD 0 (row.map PyData.int))[g]'(by rw [hlen]; exact hgl), List.getElem?_eq_getElem _, by rw [Nat.zero_add, hgb]; rfl⟩
    simp only [stpB1, b_stepped] at e
    simp [d_stepped, b_stepped, startE, outsOf, ioIx, spure, hix, sFor, e]
  | false =>
    obtain ⟨Γ, e, x5, x6, x7, rfl⟩ := hfor.1 fun g d hd => by
      have hgl : g < row.length := by rw [← hlen]; exact (List.getElem?_eq_some_iff.mp hd).1
      rw [Nat.zero_add]
      have := List.any_eq_false.mp hany g (List.mem_range.mpr hgl)
      simpa using this
    rw [hlen, Nat.zero_add] at e
    simp only [stpB1, b_stepped] at e
    obtain ⟨F, hF⟩ : ∃ F : List Rat, F = (List.range row.length).map (fac row ws ps j) := ⟨_, rfl⟩
    rw [← hF] at e
    have hk : ∀ x4, x4 = some (.sh (.list (F.map fr))) ∨ x4 = some (ol (F.map fr)) → lcK (callD tb n) (.call 82 (.cons (.var 8) (.cons (.ix (.var 4) (.ix (.var 9) (.var 3))) .nil))) [8, 9] false .tt [8, 9] false (zipD (ws.map fr) (ps.map intT)) [some (.sh (svD ss ps)), some (.sh (goalD gs)), some (.sh (wsD ws)), some (.sh (.int j)), x4, x5, x6, x7, none, none] = .ok (.t (ol ((List.zipWith (fun w p => w * fac row ws ps j (p.getD j 0).toNat) ws ps).map fr))) [some (.sh (svD ss ps)), some (.sh (goalD gs)), some (.sh (wsD ws)), some (.sh (.int j)), x4, x5, x6, x7, none, none] := by
      intro x4 h4
      have hmap : ∀ (ws' : List Rat) (ps' : List (List Int)), (zipD (ws'.map fr) (ps'.map intT)).map (fun d => match d with
          | .tuple [.tuple [.int a, .int b], .tuple p] => fr (Rat.divInt a b * fac row ws ps j (match p[j]? with | some (.int i) => i.toNat | _ => 0))
          | d => d) = (List.zipWith (fun w p => w * fac row ws ps j (p.getD j 0).toNat) ws' ps').map fr := by
        intro ws'
        induction ws' with
        | nil => intro ps'; unfold zipD; simp
        | cons w ws' ih =>
          intro ps'
          cases ps' with
          | nil => unfold zipD; simp
          | cons p ps' =>
            rw [List.map_cons, List.map_cons, zipD, List.map_cons, ih ps', List.zipWith_cons_cons, List.map_cons]
            congr 1
            simp only [Rat.num_divInt_den]
            congr 2
            rw [List.getElem?_map]
            cases q : p[j]? with
            | none => simp [List.getD_eq_getElem?_getD, q]
            | some i => simp [List.getD_eq_getElem?_getD, q]
      rw [← hmap]
      refine lcK_map _ _ (by rw [zipD_len]; simp; have := h.pl; omega) fun d hd => ?_
      obtain ⟨w, p, rfl, hw, hp⟩ := zip_mem hd
      obtain ⟨k1, k2, k3⟩ := h.kd p hp
      have hx : p[j]? = some (p.getD j 0) := by rw [List.getD_eq_getElem?_getD, List.getElem?_eq_getElem k1]; rfl
      obtain ⟨g, hg'⟩ : ∃ g : Nat, p.getD j 0 = (g : Int) := ⟨(p.getD j 0).toNat, by omega⟩
      rw [hg'] at hx k3
      have hFg : F[g]? = some (fac row ws ps j g) := by
        rw [hF, List.getElem?_map, List.getElem?_range (by omega)]
        rfl
      have e5 := times_ok (tb := tb) (n := n) (p := w) (q := fac row ws ps j g) (h.bw w hw) (h.bf (g := g) (by omega)) (by have := h.kk; omega) h24 h37 h82 (by omega)
      have hxm : (p.map PyData.int)[j]? = some (.int g) := by rw [List.getElem?_map, hx]; rfl
      rcases h4 with rfl | rfl
      · simp [spure, ixD_ints hx, ixD_map hFg, e5, hxm, Rat.num_divInt_den]
      · simp [spure, ixD_ints hx, ixD_map hFg, e5, hxm, Rat.num_divInt_den]
    simp [d_stepped, b_stepped, startE, outsOf, ioIx, spure, hix, sFor, e, ev_lc, hk]
end
end Z

set_option maxRecDepth 100000
set_option linter.all false
namespace Z
open PySem
/-! the law's own step -/
theorem rngD_eq {m : Nat} : rngD 0 m = (List.range m).map fun (i : Nat) => (.int (i : Int) : D) := by
  refine List.ext_getElem? fun i => ?_
  rw [List.getElem?_map]
  by_cases h : i < m
  · rw [rngD_get 0 m i h, List.getElem?_range h]
    simp
  · rw [List.getElem?_eq_none (by rw [rngD_len]; omega), List.getElem?_eq_none (by simp; omega)]
    rfl
def gAt (ps : List (List Int)) (j i : Nat) : Int := (ps.getD i []).getD j 0
def spots (ps : List (List Int)) (j m : Nat) (g : Int) : List Nat := (List.range m).filter fun i => gAt ps j i == g
theorem zip_range {ws : List Rat} {ps : List (List Int)} (h : ws.length = ps.length) : ws.zip ps = (List.range ws.length).map fun i => (ws.getD i 0, ps.getD i []) := by
  refine List.ext_getElem? fun i => ?_
  rw [List.getElem?_map]
  by_cases hi : i < ws.length
  · have h1 : ws[i]? = some (ws.getD i 0) := by rw [List.getD_eq_getElem?_getD, List.getElem?_eq_getElem hi]; rfl
    have h2 : ps[i]? = some (ps.getD i []) := by rw [List.getD_eq_getElem?_getD, List.getElem?_eq_getElem (by omega)]; rfl
    rw [List.getElem?_range hi, Option.map_some, List.getElem?_zip_eq_some]
    exact ⟨h1, h2⟩
  · rw [List.getElem?_eq_none (by rw [List.length_zip]; omega), List.getElem?_eq_none (by simp; omega)]
    rfl
theorem sel_spots {ws : List Rat} {ps : List (List Int)} {j : Nat} {g : Int} (h : ws.length = ps.length) : sel ws ps j g = (spots ps j ws.length g).map fun i => ws.getD i 0 := by
  unfold sel spots
  rw [zip_range h, List.filter_map, List.map_map]
  rfl
theorem qsum_nonneg {qs : List Rat} (h : ∀ q ∈ qs, 0 ≤ q) : 0 ≤ qsum qs := by
  have : ∀ (qs : List Rat) (a : Rat), 0 ≤ a → (∀ q ∈ qs, 0 ≤ q) → 0 ≤ qs.foldl (· + ·) a := by
    intro qs
    induction qs with
    | nil => intro a ha _; exact ha
    | cons q qs ih => intro a ha h; exact ih _ (Rat.add_nonneg ha (h q List.mem_cons_self)) (fun x hx => h x (List.mem_cons_of_mem _ hx))
  exact this qs 0 (by decide) h
theorem set_range {α : Type} {m i : Nat} {F : Nat → α} {v : α} : ((List.range m).map F).set i v = (List.range m).map fun k => if k = i then v else F k := by
  refine List.ext_getElem? fun k => ?_
  rw [List.getElem?_map, List.getElem?_set]
  by_cases hk : k < m
  · rw [List.getElem?_range hk]
    by_cases hi : i = k
    · subst hi
      simp [-List.getD_eq_getElem?_getD, hk]
    · simp [-List.getD_eq_getElem?_getD, hi, hk, show ¬ k = i from fun e => hi e.symm]
  · rw [List.getElem?_eq_none (l := List.range m) (by simp; omega)]
    by_cases hi : i = k
    · subst hi
      simp [-List.getD_eq_getElem?_getD, hk]
    · simp [-List.getD_eq_getElem?_getD, hi, hk]
def tgt (row : List Int) (ws : List Rat) (ps : List (List Int)) (j G i : Nat) : Rat := if gAt ps j i < G then ws.getD i 0 * fac row ws ps j (gAt ps j i).toNat else ws.getD i 0
def lstB : Ss := match b__law_step with
  | .cons _ (.cons (.forS _ _ _ b) _) => b
  | _ => .nil
def lstB2 : Ss := .cons (.set 4 (.var 7) (.call 71 (.cons (.ix (.var 2) (.var 7)) (.cons (.call 29 (.cons (.bin .mul (.var 9) (.ix (.var 8) (.num 1))) (.cons (.ix (.var 8) (.num 0)) .nil))) .nil)))) .nil
section
variable {tb : Tbl} {n : Nat} {ns : List Int}
theorem getD_some {α : Type} {xs : List α} {i : Nat} {d : α} (h : i < xs.length) : xs[i]? = some (xs.getD i d) := by
  rw [List.getD_eq_getElem?_getD, List.getElem?_eq_getElem h]; rfl
theorem StepOk.g {ss : List Int} {ps : List (List Int)} {j : Nat} {row : List Int} {ws : List Rat} {k : Nat} (h : StepOk ss ps j row ws k) {i : Nat} (hi : i < ps.length) : ps[i]? = some (ps.getD i []) ∧ (ps.getD i [])[j]? = some (gAt ps j i) ∧ 0 ≤ gAt ps j i ∧ gAt ps j i < row.length := by
  have h1 : ps[i]? = some (ps.getD i []) := getD_some hi
  obtain ⟨a, b, c⟩ := h.kd _ (List.mem_of_getElem? h1)
  exact ⟨h1, getD_some a, b, c⟩
theorem law_step_ok {ss : List Int} {ps gs : List (List Int)} {j k : Nat} {row : List Int} {ws : List Rat} {s : Int} (hss : ss[j]? = some s) (hsr : (row.length : Int) = s) (hg : gs[j]? = some row) (h : StepOk ss ps j row ws k) (hnn : ∀ w ∈ ws, 0 ≤ w) (h29 : tb.fns.lookup 29 = some d__law_fraction) (h50 : tb.fns.lookup 50 = some d__law_plus) (h51 : tb.fns.lookup 51 = some d__law_total) (h71 : tb.fns.lookup 71 = some d__law_times) (h175 : tb.fns.lookup 175 = some d__law_step) (hn : 5 ≤ n) :
    callD tb n 175 [.sh (svD ss ps), .sh (goalD gs), .sh (wsD ws), .sh (.int j)] = .ok (.sh (match stepQ row ps j ws with
      | some ws' => wsD ws'
      | none => .str "EmptyGroup")) [] := by
  obtain ⟨n, rfl⟩ : ∃ m, n = m + 1 := ⟨n - 1, by omega⟩
  rw [callD_of h175 rfl]
  have hrl := h.rl
  have hpl := h.pl
  have hwl := h.wl
  have hown : ∀ g : Int, 0 ≤ own ws ps j g := fun g => qsum_nonneg fun q hq => hnn q (sel_mem q hq)
  have hrow : ixD (.list (gs.map intT)) (j : Int) = some (intT row) := ixD_map hg
  have hsz : ixD (.list (ss.map PyData.int)) (j : Int) = some (.int s) := ixD_ints hss
  have hws : ∀ i, i < ws.length → ixD (.list (ws.map fr)) (i : Int) = some (fr (ws.getD i 0)) := fun i hi => ixD_map (getD_some hi)
  have hfor := for_until (bind := bindTg true [5]) (body := exSs (callD tb n) lstB) (R := fun Γ => .rt (.sh (.str "EmptyGroup")) Γ) (fun _ _ => rfl) (fun G Γ => ∃ x5 x6 x7 x8 x9, Γ = [some (.sh (svD ss ps)), some (.sh (goalD gs)), some (.sh (wsD ws)), some (.sh (.int j)), some (ol (((List.range ws.length).map (tgt row ws ps j G)).map fr)), x5, x6, x7, x8, x9]) (fun G _ => !badG row ws ps j G) (rngD 0 row.length) 0 [some (.sh (svD ss ps)), some (.sh (goalD gs)), some (.sh (wsD ws)), some (.sh (.int j)), some (ol (ws.map fr)), none, none, none, none, none]
    ⟨none, none, none, none, none, by
      have : (List.range ws.length).map (tgt row ws ps j 0) = ws := by
        refine List.ext_getElem? fun i => ?_
        rw [List.getElem?_map]
        by_cases hi : i < ws.length
        · rw [List.getElem?_range hi, getD_some (d := 0) hi]
          obtain ⟨_, _, g0, _⟩ := h.g (i := i) (by omega)
          rw [Option.map_some]
          unfold tgt
          rw [if_neg (by omega)]
        · rw [List.getElem?_eq_none (by simp; omega), List.getElem?_eq_none (by omega)]
          rfl
      rw [this]⟩ (fun G d Γ hd hI => by
      obtain ⟨x5, x6, x7, x8, x9, rfl⟩ := hI
      obtain ⟨rfl, hlt⟩ := rng_get' hd
      rw [Nat.zero_add]
      obtain ⟨F, hF⟩ : ∃ F : List Rat, F = (List.range ws.length).map (tgt row ws ps j G) := ⟨_, rfl⟩
      rw [← hF]
      have hr : row[G]? = some (row.getD G 0) := getD_some hlt
      have hgr : ixD (.list (row.map PyData.int)) (G : Int) = some (.int (row.getD G 0)) := ixD_ints hr
      have hrr := h.row _ (List.mem_of_getElem? hr)
      -- the spots
      have k1 : ∀ x4 x6 x7 x8 x9, lcK (callD tb n) (.var 7) [7] true (.cmp .eq (.ix (.ix (.ix (.var 0) (.num 1)) (.var 7)) (.var 3)) (.var 5)) [7] false (rngD 0 ws.length) [some (.sh (svD ss ps)), some (.sh (goalD gs)), some (.sh (wsD ws)), some (.sh (.int j)), x4, some (.sh (.int (G : Int))), x6, x7, x8, x9] = .ok (.t (ol ((spots ps j ws.length G).map fun (i : Nat) => (.int (i : Int) : D)))) [some (.sh (svD ss ps)), some (.sh (goalD gs)), some (.sh (wsD ws)), some (.sh (.int j)), x4, some (.sh (.int (G : Int))), x6, x7, x8, x9] := by
        intro x4 x6 x7 x8 x9
        have hf : (rngD 0 ws.length).filterMap (fun d => match d with | .int i => if gAt ps j i.toNat == (G : Int) then some d else none | _ => none) = (spots ps j ws.length G).map fun (i : Nat) => (.int (i : Int) : D) := by
          rw [rngD_eq, List.filterMap_map]
          unfold spots
          generalize List.range ws.length = l
          induction l with
          | nil => rfl
          | cons i l ih =>
            rw [List.filterMap_cons, ih, List.filter_cons]
            simp only [Function.comp_apply, Int.toNat_natCast]
            by_cases hc : (gAt ps j i == (G : Int)) = true
            · simp only [hc, if_true, List.map_cons]
            · simp only [hc, if_false]
              rfl
        rw [← hf]
        refine lcK_pure _ _ (by rw [rngD_len]; omega) fun d hd => ?_
        rw [rngD_eq] at hd
        obtain ⟨i, hi, rfl⟩ := List.mem_map.mp hd
        have hi : i < ws.length := List.mem_range.mp hi
        obtain ⟨g1, g2, g3, g4⟩ := h.g (i := i) (by omega)
        have y1 : ixD (.list (ps.map intT)) (i : Int) = some (intT (ps.getD i [])) := ixD_map g1
        have y2 : ixD (.list ((ps.getD i []).map PyData.int)) (j : Int) = some (.int (gAt ps j i)) := ixD_ints g2
        by_cases hc : gAt ps j i = (G : Int)
        · simp [-List.getD_eq_getElem?_getD, spure, y1, y2, hc]
        · simp [-List.getD_eq_getElem?_getD, spure, y1, y2, hc]
      have hsl : (spots ps j ws.length G).length ≤ 8 := Nat.le_trans (List.length_filter_le _ _) (by simp; omega)
      have hsm : ∀ i ∈ spots ps j ws.length G, i < ws.length ∧ gAt ps j i = G := fun i hi => by
        unfold spots at hi
        obtain ⟨a, b⟩ := List.mem_filter.mp hi
        exact ⟨List.mem_range.mp a, eq_of_beq b⟩
      have k2 : ∀ x4 x7 x8 x9, lcK (callD tb n) (.ix (.var 2) (.var 7)) [7] true .tt [7] false ((spots ps j ws.length G).map fun (i : Nat) => (.int (i : Int) : D)) [some (.sh (svD ss ps)), some (.sh (goalD gs)), some (.sh (wsD ws)), some (.sh (.int j)), x4, some (.sh (.int (G : Int))), some (.sh (.list ((spots ps j ws.length G).map fun (i : Nat) => (.int (i : Int) : D)))), x7, x8, x9] = .ok (.t (ol ((sel ws ps j G).map fr))) [some (.sh (svD ss ps)), some (.sh (goalD gs)), some (.sh (wsD ws)), some (.sh (.int j)), x4, some (.sh (.int (G : Int))), some (.sh (.list ((spots ps j ws.length G).map fun (i : Nat) => (.int (i : Int) : D)))), x7, x8, x9] := by
        intro x4 x7 x8 x9
        have hf : (sel ws ps j G).map fr = ((spots ps j ws.length G).map fun (i : Nat) => (.int (i : Int) : D)).map fun d => match d with | .int i => fr (ws.getD i.toNat 0) | d => d := by
          rw [sel_spots hwl, List.map_map, List.map_map]
          rfl
        rw [hf]
        refine lcK_map _ _ (by simp; omega) fun d hd => ?_
        obtain ⟨i, hi, rfl⟩ := List.mem_map.mp hd
        simp [-List.getD_eq_getElem?_getD, spure, hws i (hsm i hi).1]
      have e1 := law_total_ok (tb := tb) (n := n) (h.bs G) (by have := h.kk; omega) h29 h50 h51 (by omega)
      have hbad : badG row ws ps j G = (decide (own ws ps j G = 0) && decide (0 < row.getD G 0)) := rfl
      have hTnext : (∀ i, gAt ps j i = G → fac row ws ps j (gAt ps j i).toNat = 1) → (List.range ws.length).map (tgt row ws ps j (G + 1)) = F := fun hfac => by
        rw [hF]
        refine List.map_congr_left fun i hi => ?_
        unfold tgt
        by_cases c1 : gAt ps j i < G
        · rw [if_pos c1, if_pos (by omega)]
        · by_cases c2 : gAt ps j i = G
          · rw [if_pos (by omega), if_neg c1, hfac i c2, Rat.mul_one]
          · rw [if_neg (by omega), if_neg c1]
      generalize hO : own ws ps j G = o at hbad
      have e1 : callD tb n 51 [.sh (.list ((sel ws ps j G).map fr))] = .ok (.sh (fr o)) [] := by rw [← hO]; exact e1
      have ho0 : 0 ≤ o := by rw [← hO]; exact hown G
      by_cases hz : o = 0
      · have hnum : o.num = 0 := by rw [hz]; rfl
        by_cases hpos : 0 < row.getD G 0
        · refine ⟨fun q => by simp [-List.getD_eq_getElem?_getD, hbad, hz, hpos] at q, fun _ => ?_⟩
          refine ⟨[some (.sh (svD ss ps)), some (.sh (goalD gs)), some (.sh (wsD ws)), some (.sh (.int j)), some (ol (F.map fr)), some (.sh (.int (G : Int))), some (.sh (.list ((spots ps j ws.length G).map fun (i : Nat) => (.int (i : Int) : D)))), x7, some (.sh (fr o)), some (.sh (.int (row.getD G 0)))], ?_⟩
          generalize row.getD G 0 = rg at *
          simp [-List.getD_eq_getElem?_getD, lstB, b__law_step, ev_lc, spure, k1, k2, e1, hrow, hgr, show (ws.length : Int) ≤ 1000000 by omega, show (-1000000 : Int) ≤ ws.length by omega, hnum, hpos]
        · refine ⟨fun _ => ?_, fun q => by simp [-List.getD_eq_getElem?_getD, hbad, hz, hpos] at q⟩
          refine ⟨[some (.sh (svD ss ps)), some (.sh (goalD gs)), some (.sh (wsD ws)), some (.sh (.int j)), some (ol (F.map fr)), some (.sh (.int (G : Int))), some (.sh (.list ((spots ps j ws.length G).map fun (i : Nat) => (.int (i : Int) : D)))), x7, some (.sh (fr o)), some (.sh (.int (row.getD G 0)))], ?_, _, _, _, _, _, by
            rw [hTnext fun i hi => by
              rw [hi]
              unfold fac
              rw [if_pos (by rw [Int.toNat_natCast]; rw [hO]; exact hz)]]⟩
          generalize row.getD G 0 = rg at *
          simp [-List.getD_eq_getElem?_getD, lstB, b__law_step, ev_lc, spure, k1, k2, e1, hrow, hgr, show (ws.length : Int) ≤ 1000000 by omega, show (-1000000 : Int) ≤ ws.length by omega, hnum, hpos]
      · have hnum : ¬ o.num = 0 := num_ne hz
        have hnp : 0 < o.num := by have := Rat.num_nonneg.mpr ho0; omega
        refine ⟨fun _ => ?_, fun q => by simp [-List.getD_eq_getElem?_getD, hbad, hz] at q⟩
        have hbo : Bt k o := by rw [← hO]; exact h.bo G
        have hfac : fac row ws ps j G = ((row.getD G 0 : Int) : Rat) / o := by unfold fac; rw [hO, if_neg hz]
        -- one spot after another
        obtain ⟨Γ, e, x7', rfl⟩ := for_inv (bind := bindTg true [7]) (body := exSs (callD tb n) lstB2) (fun m Γ => ∃ x7, Γ = [some (.sh (svD ss ps)), some (.sh (goalD gs)), some (.sh (wsD ws)), some (.sh (.int j)), some (ol (((List.range ws.length).map fun i => if i ∈ (spots ps j ws.length G).take m then ws.getD i 0 * fac row ws ps j G else tgt row ws ps j G i).map fr)), some (.sh (.int (G : Int))), some (.sh (.list ((spots ps j ws.length G).map fun (i : Nat) => (.int (i : Int) : D)))), x7, some (.sh (fr o)), some (.sh (.int (row.getD G 0)))]) ((spots ps j ws.length G).map fun (i : Nat) => (.int (i : Int) : D)) 0 [some (.sh (svD ss ps)), some (.sh (goalD gs)), some (.sh (wsD ws)), some (.sh (.int j)), some (ol (F.map fr)), some (.sh (.int (G : Int))), some (.sh (.list ((spots ps j ws.length G).map fun (i : Nat) => (.int (i : Int) : D)))), x7, some (.sh (fr o)), some (.sh (.int (row.getD G 0)))]
          ⟨x7, by rw [hF]; simp⟩ (fun m d Γ hd hI => by
            obtain ⟨x7, rfl⟩ := hI
            rw [Nat.zero_add]
            rw [List.getElem?_map] at hd
            cases hi : (spots ps j ws.length G)[m]? with
            | none => rw [hi] at hd; cases hd
            | some i =>
              rw [hi] at hd
              cases hd
              obtain ⟨i1, i2⟩ := hsm i (List.mem_of_getElem? hi)
              have m1 : mulOk (row.getD G 0) o.den = true := mulOk_lt (k := 6) (l := k) (show (row.getD G 0).natAbs < 64 by omega) (by simpa using hbo.2) (by have := h.kk; omega)
              have hb2 : (row.getD G 0 * o.den).natAbs < 2 ^ (6 + k) := by
                rw [Int.natAbs_mul, Nat.pow_add]
                exact Nat.mul_lt_mul'' (show (row.getD G 0).natAbs < 64 by omega) (by simpa using hbo.2)
              have e2 := law_fraction_ok (tb := tb) (n := n) (a := row.getD G 0 * o.den) (b := o.num) hnum hb2 (by have := h.kk; omega) h29 (by omega)
              have hdl : Rat.divInt (row.getD G 0 * o.den) o.num = fac row ws ps j G := by
                rw [hfac, ← div_low]
                congr 1
                show o.num = 1 * o.num
                omega
              rw [fr_low hnum, hdl] at e2
              have e3 := law_times_ok (tb := tb) (n := n) (p := ws.getD i 0) (q := fac row ws ps j G) (h.bw _ (List.mem_of_getElem? (getD_some i1))) (h.bf hlt) (by have := h.kk; omega) h29 h71 (by omega)
              have hw := hws i i1
              generalize hwi : ws.getD i 0 = w at *
              generalize row.getD G 0 = rg at *
              generalize hff : fac row ws ps j G = f at *
              refine ⟨_, ?_, some (.sh (.int i)), rfl⟩
              have hnew : (((List.range ws.length).map fun i => if i ∈ (spots ps j ws.length G).take m then ws.getD i 0 * f else tgt row ws ps j G i).map fr).set i (fr (w * f)) = ((List.range ws.length).map fun i => if i ∈ (spots ps j ws.length G).take (m + 1) then ws.getD i 0 * f else tgt row ws ps j G i).map fr := by
                rw [← List.map_set, set_range]
                congr 1
                refine List.map_congr_left fun x _ => ?_
                rw [List.take_add_one, hi]
                by_cases hxi : x = i
                · subst hxi
                  simp [-List.getD_eq_getElem?_getD, hwi]
                · simp [-List.getD_eq_getElem?_getD, hxi]
              rw [← hnew]
              have hcl : i < (((List.range ws.length).map fun i => if i ∈ (spots ps j ws.length G).take m then ws.getD i 0 * f else tgt row ws ps j G i).map fr).length := by simpa using i1
              generalize (((List.range ws.length).map fun i => if i ∈ (spots ps j ws.length G).take m then ws.getD i 0 * f else tgt row ws ps j G i).map fr) = cur at hcl ⊢
              simp [-List.getD_eq_getElem?_getD, lstB2, spure, hw, binI_mul, m1, e2, e3, sSet4_ol hcl])
        rw [List.length_map, Nat.zero_add, List.take_length] at e
        refine ⟨_, ?_, some (.sh (.int (G : Int))), some (.sh (.list ((spots ps j ws.length G).map fun (i : Nat) => (.int (i : Int) : D)))), x7', some (.sh (fr o)), some (.sh (.int (row.getD G 0))), rfl⟩
        have hfin : (List.range ws.length).map (tgt row ws ps j (G + 1)) = (List.range ws.length).map fun i => if i ∈ spots ps j ws.length G then ws.getD i 0 * fac row ws ps j G else tgt row ws ps j G i := by
          refine List.map_congr_left fun i hi => ?_
          have hmem : i ∈ spots ps j ws.length G ↔ gAt ps j i = G := by
            unfold spots
            rw [List.mem_filter]
            exact ⟨fun z => eq_of_beq z.2, fun z => ⟨hi, by rw [z]; exact beq_self_eq_true _⟩⟩
          unfold tgt
          by_cases c2 : gAt ps j i = G
          · rw [if_pos (hmem.mpr c2), if_pos (by omega), c2, Int.toNat_natCast]
          · rw [if_neg fun z => c2 (hmem.mp z)]
            by_cases c1 : gAt ps j i < G
            · rw [if_pos c1, if_pos (by omega)]
            · rw [if_neg c1, if_neg (by omega)]
        rw [hfin]
        simp only [lstB2] at e
        generalize row.getD G 0 = rg at *
        simp [-List.getD_eq_getElem?_getD, lstB, b__law_step, ev_lc, spure, k1, k2, e1, hrow, hgr, show (ws.length : Int) ≤ 1000000 by omega, show (-1000000 : Int) ≤ ws.length by omega, hnum, hnp, sFor, e])
  have hlen : (rngD 0 row.length).length = row.length := rngD_len _ _
  have hi0 : ∀ x : D, ixD (.list [intT ss, x]) 0 = some (intT ss) := fun x => ixD_zero
  unfold stepQ
  cases hany : (List.range row.length).any (badG row ws ps j) with
  | true =>
    obtain ⟨g, hgm, hgb⟩ := List.any_eq_true.mp hany
    have hgl : g < row.length := List.mem_range.mp hgm
    obtain ⟨Γ, e⟩ := hfor.2 ⟨g, (rngD 0 row.length)[g]'(by rw [hlen]; exact hgl), List.getElem?_eq_getElem _, by rw [Nat.zero_add, hgb]; rfl⟩
    simp only [lstB, b__law_step] at e
    simp [-List.getD_eq_getElem?_getD, d__law_step, b__law_step, startE, outsOf, ioIx, spure, hsz, ← hsr, show (row.length : Int) ≤ 1000000 by omega, show (-1000000 : Int) ≤ row.length by omega, sFor, e]
  | false =>
    obtain ⟨Γ, e, x5, x6, x7, x8, x9, rfl⟩ := hfor.1 fun g d hd => by
      have hgl : g < row.length := by rw [← hlen]; exact (List.getElem?_eq_some_iff.mp hd).1
      rw [Nat.zero_add]
      have := List.any_eq_false.mp hany g (List.mem_range.mpr hgl)
      simpa using this
    rw [hlen, Nat.zero_add] at e
    have hfin : (List.range ws.length).map (tgt row ws ps j row.length) = List.zipWith (fun w p => w * fac row ws ps j (p.getD j 0).toNat) ws ps := by
      refine List.ext_getElem? fun i => ?_
      rw [List.getElem?_map, List.getElem?_zipWith]
      by_cases hi : i < ws.length
      · obtain ⟨g1, g2, g3, g4⟩ := h.g (i := i) (by omega)
        rw [List.getElem?_range hi, Option.map_some, getD_some (d := 0) hi, g1]
        simp only
        unfold tgt
        rw [if_pos g4]
        rfl
      · rw [List.getElem?_eq_none (by simp; omega), List.getElem?_eq_none (l := ws) (by omega)]
        rfl
    rw [hfin] at e
    simp only [lstB, b__law_step] at e
    generalize List.zipWith (fun w p => w * fac row ws ps j (p.getD j 0).toNat) ws ps = R at e ⊢
    simp [-List.getD_eq_getElem?_getD, d__law_step, b__law_step, startE, outsOf, ioIx, spure, hsz, ← hsr, show (row.length : Int) ≤ 1000000 by omega, show (-1000000 : Int) ≤ row.length by omega, sFor, e]
end
end Z

set_option maxRecDepth 100000
set_option linter.all false
namespace Z
open PySem
/-! sizes of raked weights -/
structure WB (a : Nat) (ps : List (List Int)) (ws : List Rat) : Prop where
  len : ws.length = ps.length
  nn : ∀ w ∈ ws, 0 ≤ w
  ov : ∃ d, 0 < d ∧ d ≤ 2 ^ a ∧ ∀ w ∈ ws, Ov d (2 ^ a) w
def bd : Nat → Nat
  | 0 => 7
  | m + 1 => 5 * bd m + 15
theorem bd_mono {m : Nat} : ∀ {n : Nat}, m ≤ n → bd m ≤ bd n
  | 0, h => by rw [Nat.le_zero.mp h]; exact Nat.le_refl _
  | n + 1, h => by
    by_cases e : m = n + 1
    · rw [e]; exact Nat.le_refl _
    · have := bd_mono (m := m) (n := n) (by omega)
      have e2 : bd (n + 1) = 5 * bd n + 15 := rfl
      omega
theorem bd_8 : bd 8 ≤ 9000000 := by decide
theorem step_ok_of {ss : List Int} {ps gs : List (List Int)} {most j a : Nat} {N : Int} {row : List Int} {ws : List Rat} (sv : SvOk ss ps most) (hm : most ≤ 8) (hg : GoalOk ss gs N) (hj : j < ss.length) (hr : gs[j]? = some row) (hw : WB a ps ws) (ha : a ≤ 9000000) : StepOk ss ps j row ws (a + 4) := by
  obtain ⟨s, r', hs, hr', hrow⟩ := hg.1.row hj
  rw [hr] at hr'
  cases hr'
  have hsz := sv.sz s (List.mem_of_getElem? hs)
  have hpm := sv.pm
  have hlen := hw.len
  obtain ⟨d, d0, d1, dv⟩ := hw.ov
  have p2 : 2 ^ (a + 4) = 16 * 2 ^ a := by rw [Nat.pow_add]; omega
  have pp : 0 < 2 ^ a := Nat.two_pow_pos a
  refine ⟨by omega, hlen, fun p hp => ?_, by have := hrow.1; omega, fun x hx => ⟨hrow.2.1 x hx, ?_⟩, fun g => ?_, fun w hw' => ?_, by omega⟩
  · have hk := sv.kd p hp
    obtain ⟨g, hg1, hg2⟩ := kind_get hk hs
    have e : p.getD j 0 = (g : Int) := by rw [List.getD_eq_getElem?_getD, hg1]; rfl
    have := hrow.1
    exact ⟨by rw [hk.1]; exact hj, by omega, by omega⟩
  · have h1 : ∀ {r : List Int} {N : Int}, (∀ x ∈ r, 0 ≤ x) → r.sum ≤ N → ∀ x ∈ r, x ≤ N := by
      intro r
      induction r with
      | nil => intro N _ _ x hx; cases hx
      | cons y r ih =>
        intro N h0 hs x hx
        have hy := h0 y List.mem_cons_self
        have hr0 : 0 ≤ r.sum := by
          have : ∀ l : List Int, (∀ x ∈ l, 0 ≤ x) → 0 ≤ l.sum := by
            intro l
            induction l with
            | nil => intro _; simp
            | cons z l ih => intro h; have := ih (fun x hx => h x (List.mem_cons_of_mem _ hx)); have := h z List.mem_cons_self; simp; omega
          exact this r fun x hx => h0 x (List.mem_cons_of_mem _ hx)
        simp at hs
        rcases List.mem_cons.mp hx with rfl | hx
        · omega
        · exact ih (N := N) (fun x hx => h0 x (List.mem_cons_of_mem _ hx)) (by omega) x hx
    exact h1 hrow.2.1 (by rw [hrow.2.2]; exact hg.2.2) x hx
  · exact Ov.btS (d := d) (A := 2 ^ a) (m := 8) (fun q hq => dv q (sel_mem q hq)) (Nat.le_trans sel_len (by omega)) (by omega) d0 (by omega) (by omega)
  · exact (dv w hw').bt d0 (by omega) (by omega)
def prodN (l : List Nat) : Nat := l.foldr (· * ·) 1
theorem prod_dvd : ∀ {l : List Nat} {x : Nat}, x ∈ l → x ∣ prodN l
  | y :: l, x, h => by
    show x ∣ y * prodN l
    rcases List.mem_cons.mp h with rfl | h
    · exact Nat.dvd_mul_right _ _
    · exact Nat.dvd_trans (prod_dvd h) (Nat.dvd_mul_left _ _)
theorem prod_pos : ∀ {l : List Nat}, (∀ x ∈ l, 0 < x) → 0 < prodN l
  | [], _ => by decide
  | y :: l, h => Nat.mul_pos (h y List.mem_cons_self) (prod_pos fun x hx => h x (List.mem_cons_of_mem _ hx))
theorem prod_le {B : Nat} : ∀ {l : List Nat}, (∀ x ∈ l, x ≤ B) → prodN l ≤ B ^ l.length
  | [], _ => by show 1 ≤ B ^ 0; simp
  | y :: l, h => by
    show y * prodN l ≤ B ^ (l.length + 1)
    rw [Nat.pow_succ, Nat.mul_comm (B ^ l.length)]
    exact Nat.mul_le_mul (h y List.mem_cons_self) (prod_le fun x hx => h x (List.mem_cons_of_mem _ hx))
theorem inv_nn {a : Rat} (h : 0 ≤ a) : 0 ≤ a⁻¹ := by
  by_cases hz : a = 0
  · rw [hz, Rat.inv_zero]; exact Rat.le_refl
  apply Rat.not_lt.mp
  intro hn
  have := Rat.mul_pos (a := a) (b := -a⁻¹) (by grind) (by grind)
  have := Rat.mul_inv_cancel a hz
  grind
theorem fac_nonneg {row : List Int} {ws : List Rat} {ps : List (List Int)} {j g : Nat} (hw : ∀ w ∈ ws, 0 ≤ w) (hr : 0 ≤ row.getD g 0) : 0 ≤ fac row ws ps j g := by
  unfold fac
  split
  · decide
  · have h1 : 0 ≤ own ws ps j g := qsum_nonneg fun q hq => hw q (sel_mem q hq)
    rw [Rat.div_def]
    exact Rat.mul_nonneg (Rat.intCast_nonneg.mpr hr) (inv_nn h1)
theorem step_wb {ps : List (List Int)} {j a : Nat} {row : List Int} {ws ws' : List Rat} (h : StepOk ss ps j row ws k) (hw : WB a ps ws) (e : stepQ row ps j ws = some ws') : WB (5 * a + 15) ps ws' := by
  unfold stepQ at e
  split at e
  · cases e
  cases e
  obtain ⟨d, d0, d1, dv⟩ := hw.ov
  have hlen := hw.len
  have hpl := h.pl
  have hrl := h.rl
  have hmem : ∀ w' ∈ List.zipWith (fun w p => w * fac row ws ps j (p.getD j 0).toNat) ws ps, ∃ w ∈ ws, ∃ g : Nat, g < row.length ∧ w' = w * fac row ws ps j g := fun w' hw' => by
    obtain ⟨i, hi, rfl⟩ := List.mem_iff_getElem.mp hw'
    rw [List.length_zipWith] at hi
    have hi1 : i < ws.length := by omega
    have hi2 : i < ps.length := by omega
    obtain ⟨k1, k2, k3⟩ := h.kd ps[i] (List.getElem_mem _)
    exact ⟨ws[i], List.getElem_mem _, (ps[i].getD j 0).toNat, by omega, by rw [List.getElem_zipWith]⟩
  have hrow : ∀ g, g < row.length → 0 ≤ row.getD g 0 ∧ row.getD g 0 ≤ 40 := fun g hg => h.row _ (List.mem_of_getElem? (getD_some hg))
  have hS : ∀ g : Nat, ∃ S : Int, own ws ps j g * (d : Rat) = (S : Rat) ∧ S.natAbs ≤ 8 * 2 ^ a := fun g => by
    have := Ov.sum (d := d) (A := 2 ^ a) (qs := sel ws ps j g) (fun q hq => dv q (sel_mem q hq)) (sel ws ps j g).length (Nat.le_refl _)
    rw [List.take_length] at this
    have hl := sel_len (ws := ws) (ps := ps) (j := j) (g := (g : Int))
    exact this.mono (Nat.mul_le_mul_right _ (by omega))
  obtain ⟨S, hS⟩ : ∃ S : Nat → Int, ∀ g : Nat, own ws ps j g * (d : Rat) = (S g : Rat) ∧ (S g).natAbs ≤ 8 * 2 ^ a := ⟨fun g => Classical.choose (hS g), fun g => Classical.choose_spec (hS g)⟩
  obtain ⟨P, hP⟩ : ∃ P, P = prodN ((List.range row.length).map fun g => max (S g).natAbs 1) := ⟨_, rfl⟩
  have P0 : 0 < P := by
    rw [hP]
    refine prod_pos fun x hx => ?_
    obtain ⟨g, _, rfl⟩ := List.mem_map.mp hx
    omega
  have p2 : 0 < 2 ^ a := Nat.two_pow_pos a
  have P1 : P ≤ 2 ^ (3 * a + 9) := by
    have h1 : P ≤ (8 * 2 ^ a) ^ ((List.range row.length).map fun g => max (S g).natAbs 1).length := by
      rw [hP]
      refine prod_le fun x hx => ?_
      obtain ⟨g, _, rfl⟩ := List.mem_map.mp hx
      have := (hS g).2
      omega
    have h2 : (8 * 2 ^ a) ^ ((List.range row.length).map fun g => max (S g).natAbs 1).length ≤ (8 * 2 ^ a) ^ 3 := Nat.pow_le_pow_right (by omega) (by simpa using hrl)
    have h3 : (8 * 2 ^ a) ^ 3 = 2 ^ (3 * a + 9) := by
      rw [show 8 * 2 ^ a = 2 ^ (a + 3) by rw [Nat.pow_add]; omega, ← Nat.pow_mul]
      congr 1
      omega
    omega
  refine ⟨by rw [List.length_zipWith]; omega, fun w' hw' => ?_, d * P, Nat.mul_pos d0 P0, ?_, fun w' hw' => ?_⟩
  · obtain ⟨w, hw1, g, hg, rfl⟩ := hmem w' hw'
    exact Rat.mul_nonneg (hw.nn w hw1) (fac_nonneg hw.nn (hrow g hg).1)
  · have : d * P ≤ 2 ^ a * 2 ^ (3 * a + 9) := Nat.mul_le_mul d1 P1
    rw [← Nat.pow_add] at this
    exact Nat.le_trans this (Nat.pow_le_pow_right (by omega) (by omega))
  · obtain ⟨w, hw1, g, hg, rfl⟩ := hmem w' hw'
    obtain ⟨A, hA, hA2⟩ := dv w hw1
    by_cases hz : own ws ps j g = 0
    · have hf : fac row ws ps j g = 1 := by unfold fac; rw [if_pos hz]
      refine ⟨A * P, ?_, ?_⟩
      · rw [hf, Rat.mul_one, Rat.natCast_mul, ← Rat.mul_assoc, hA, Rat.intCast_mul]
        rfl
      · rw [Int.natAbs_mul, Int.natAbs_natCast]
        have : A.natAbs * P ≤ 2 ^ a * 2 ^ (3 * a + 9) := Nat.mul_le_mul hA2 P1
        rw [← Nat.pow_add] at this
        exact Nat.le_trans this (Nat.pow_le_pow_right (by omega) (by omega))
    · obtain ⟨hS1, hS2⟩ := hS g
      have hf : fac row ws ps j g = ((row.getD g 0 : Int) : Rat) / own ws ps j g := by unfold fac; rw [if_neg hz]
      have hSz : S g ≠ 0 := fun e0 => by
        rw [e0] at hS1
        have : (d : Rat) ≠ 0 := fun e1 => by
          have : ((d : Int) : Rat) = ((0 : Int) : Rat) := e1
          have := Rat.intCast_inj.mp this
          omega
        grind
      have hdv : (S g).natAbs ∣ P := by
        have h1 : max (S g).natAbs 1 ∣ P := by
          rw [hP]
          exact prod_dvd (List.mem_map.mpr ⟨g, List.mem_range.mpr hg, rfl⟩)
        rwa [show max (S g).natAbs 1 = (S g).natAbs by omega] at h1
      obtain ⟨Q, hQ⟩ := hdv
      have hT : ∃ T : Int, (P : Int) = S g * T ∧ T.natAbs ≤ P := by
        have hQP : Q ≤ P := by rw [hQ]; exact Nat.le_mul_of_pos_left _ (by omega)
        rcases Int.natAbs_eq (S g) with e | e
        · exact ⟨Q, by rw [hQ, Int.natCast_mul, ← e], by simpa using hQP⟩
        · refine ⟨-Q, ?_, by simpa using hQP⟩
          rw [hQ, Int.natCast_mul]
          generalize ((S g).natAbs : Int) = m at e
          rw [e]
          grind
      obtain ⟨T, hT1, hT2⟩ := hT
      have hr := hrow g hg
      refine ⟨A * row.getD g 0 * d * T, ?_, ?_⟩
      · have c1 : ((P : Nat) : Rat) = (S g : Rat) * (T : Rat) := by
          rw [← Rat.intCast_mul, ← hT1]
          rfl
        rw [hf, Rat.natCast_mul, c1, Rat.intCast_mul, Rat.intCast_mul, Rat.intCast_mul, ← hS1, ← hA]
        have c2 : (((d : Nat) : Int) : Rat) = (d : Rat) := rfl
        rw [c2]
        generalize own ws ps j g = o at *
        generalize ((row.getD g 0 : Int) : Rat) = r
        generalize (T : Rat) = t
        generalize (d : Rat) = dd
        grind
      · rw [Int.natAbs_mul, Int.natAbs_mul, Int.natAbs_mul, Int.natAbs_natCast]
        have m1 : A.natAbs * (row.getD g 0).natAbs ≤ 2 ^ a * 2 ^ 6 := Nat.mul_le_mul hA2 (by show _ ≤ 64; omega)
        have m2 := Nat.mul_le_mul m1 d1
        have m3 := Nat.mul_le_mul m2 (Nat.le_trans hT2 P1)
        rw [← Nat.pow_add, ← Nat.pow_add, ← Nat.pow_add] at m3
        exact Nat.le_trans m3 (Nat.pow_le_pow_right (by omega) (by omega))
end Z

set_option maxRecDepth 100000
set_option linter.all false
namespace Z
open PySem
/-! what is drawn is valid -/
theorem isGoal_of {ss : List Int} {gs : List (List Int)} {N : Int} (hg : GoalOk ss gs N) (s1 : 1 ≤ ss.length) : isGoalD ss (goalD gs) = true := by
  obtain ⟨⟨hl, hr⟩, n1, n2⟩ := hg
  have hq : ∀ (ss : List Int) (gs : List (List Int)), gs.length = ss.length → (∀ (j : Nat) (s : Int) (r : List Int), ss[j]? = some s → gs[j]? = some r → RowOk s r N) → (zipD (ss.map PyData.int) (gs.map intT)).all rowQ = true := by
    intro ss
    induction ss with
    | nil => intro gs _ _; unfold zipD; rfl
    | cons s ss ih =>
      intro gs hl h
      cases gs with
      | nil => cases hl
      | cons r gs =>
        rw [List.map_cons, List.map_cons, zipD, List.all_cons, ih gs (by simpa using hl) (fun j s r hs hr => h (j + 1) s r (by simpa using hs) (by simpa using hr)), Bool.and_true]
        obtain ⟨a, b, c⟩ := h 0 s r rfl rfl
        have hnn : ∀ {r : List Int} {N : Int}, (∀ x ∈ r, 0 ≤ x) → r.sum ≤ N → (∀ x ∈ r, x ≤ N) ∧ 0 ≤ r.sum := by
          intro r
          induction r with
          | nil => intro N _ _; exact ⟨fun x hx => by (cases hx), by simp⟩
          | cons y r ih =>
            intro N h0 hs
            have hy := h0 y List.mem_cons_self
            have h1 := (ih (N := r.sum) (fun x hx => h0 x (List.mem_cons_of_mem _ hx)) (Int.le_refl _)).2
            simp at hs
            refine ⟨fun x hx => ?_, by simp; omega⟩
            rcases List.mem_cons.mp hx with rfl | hx
            · omega
            · exact (ih (N := N) (fun x hx => h0 x (List.mem_cons_of_mem _ hx)) (by omega)).1 x hx
        have hle := (hnn b (Int.le_of_eq c)).1
        show (decide (((r.map PyData.int).length : Int) = s) && (r.map PyData.int).all fun d => inR d 0 999) = true
        rw [List.length_map, decide_eq_true a, Bool.true_and, List.all_eq_true]
        intro d hd
        obtain ⟨i, hi, rfl⟩ := List.mem_map.mp hd
        have := b i hi
        have := hle i hi
        exact inR_of (by omega) (by omega)
  have hs : goalSum (gs.map intT) = true := by
    cases gs with
    | nil => simp at hl; omega
    | cons g gs =>
      have hsum : ∀ r ∈ g :: gs, r.sum = N := fun r hr' => by
        obtain ⟨i, hi, rfl⟩ := List.mem_iff_getElem.mp hr'
        exact (hr i _ _ (List.getElem?_eq_getElem (by omega)) (List.getElem?_eq_getElem hi)).2.2
      have h0 := hsum g List.mem_cons_self
      show ((decide (1 ≤ sumD (intT g)) && decide (sumD (intT g) ≤ 999)) && ((g :: gs).map intT).all fun x => decide (sumD x = sumD (intT g))) = true
      rw [sumD_intT, h0, decide_eq_true n1, decide_eq_true (show N ≤ 999 by omega), Bool.true_and, Bool.true_and, List.all_eq_true]
      intro d hd
      obtain ⟨r, hr', rfl⟩ := List.mem_map.mp hd
      rw [sumD_intT, hsum r hr']
      simp
  show (decide ((gs.map intT).length = ss.length) && ((zipD (ss.map PyData.int) (gs.map intT)).all rowQ && goalSum (gs.map intT))) = true
  rw [hq ss gs hl hr, hs, List.length_map, decide_eq_true hl]
  rfl
theorem isFrac_fr {q : Rat} : isFrac (fr q) = true := by
  show (decide (1 ≤ (q.den : Int)) && decide (Nat.gcd q.num.natAbs (q.den : Int).natAbs = 1)) = true
  have h1 := q.den_pos
  have h2 : Nat.gcd q.num.natAbs q.den = 1 := q.reduced
  rw [Int.natAbs_natCast, decide_eq_true h2, decide_eq_true (by omega)]
  rfl
theorem areNums_ws {ws : List Rat} {k : Nat} (h : ws.length = k) : areNums k (wsD ws) = true := by
  show (decide ((ws.map fr).length = k) && (ws.map fr).all isFrac) = true
  rw [List.length_map, decide_eq_true h, Bool.true_and, List.all_eq_true]
  intro d hd
  obtain ⟨w, _, rfl⟩ := List.mem_map.mp hd
  exact isFrac_fr
theorem arePos_ws {ws : List Rat} {k : Nat} (h : ws.length = k) (hn : ∀ w ∈ ws, 0 ≤ w) : arePos k (wsD ws) = true := by
  show (areNums k (wsD ws) && (ws.map fr).all topNN) = true
  rw [areNums_ws h, Bool.true_and, List.all_eq_true]
  intro d hd
  obtain ⟨w, hw, rfl⟩ := List.mem_map.mp hd
  exact decide_eq_true (Rat.num_nonneg.mpr (hn w hw))
section
variable {tb : Tbl} {n : Nat} {ns : List Int}
/-- the defs that know surveys, goals and weights -/
structure HasV (tb : Tbl) : Prop where
  h1 : tb.fns.lookup 1 = some d_is_integer
  h2 : tb.fns.lookup 2 = some d_are_sizes
  h3 : tb.fns.lookup 3 = some d_is_kind
  h4 : tb.fns.lookup 4 = some d_is_survey
  h12 : tb.fns.lookup 12 = some d_require_survey
structure HasG (tb : Tbl) : Prop where
  v : HasV tb
  h13 : tb.fns.lookup 13 = some d_is_valid_goal
  h34 : tb.fns.lookup 34 = some d_require_goal
structure HasW (tb : Tbl) : Prop where
  h24 : tb.fns.lookup 24 = some d_common_divisor
  h25 : tb.fns.lookup 25 = some d_is_fraction
  h26 : tb.fns.lookup 26 = some d_are_numbers
  h27 : tb.fns.lookup 27 = some d_are_positive
theorem require_goal_ok {ss : List Int} {ps : List (List Int)} {most : Nat} {c : D} (sv : SvOk ss ps most) (hm : most ≤ 8) (H : HasG tb) (hn : 5 ≤ n) :
    callD tb n 34 [.sh (svD ss ps), .sh c] = if isGoalD ss c then .ok (.sh .none) [] else .ex 3 [] := by
  obtain ⟨n, rfl⟩ : ∃ m, n = m + 1 := ⟨n - 1, by omega⟩
  rw [callD_of H.h34 rfl]
  have e1 := require_survey_ok (tb := tb) (n := n) H.v.h1 H.v.h2 H.v.h3 H.v.h4 H.v.h12 (by omega) (isSurvey_sv sv hm)
  have e2 := is_valid_goal_ok (tb := tb) (n := n) (c := c) sv.s1 sv.s3 sv.sz H.v.h1 H.h13 (by omega)
  cases hc : isGoalD ss c with
  | true => rw [hc] at e2; simp [-List.getD_eq_getElem?_getD, d_require_goal, b_require_goal, startE, outsOf, ioIx, spure, e1, e2]
  | false => rw [hc] at e2; simp [-List.getD_eq_getElem?_getD, d_require_goal, b_require_goal, startE, outsOf, ioIx, spure, e1, e2]
theorem require_goal_no {c w : D} (hc : isSurvey c = false) (H : HasG tb) (hn : 5 ≤ n) : callD tb n 34 [.sh c, .sh w] = .ex 1 [] := by
  obtain ⟨n, rfl⟩ : ∃ m, n = m + 1 := ⟨n - 1, by omega⟩
  rw [callD_of H.h34 rfl]
  have e1 := require_survey_no (tb := tb) (n := n) H.v.h1 H.v.h2 H.v.h3 H.v.h4 H.v.h12 (by omega) hc
  simp [-List.getD_eq_getElem?_getD, d_require_goal, b_require_goal, startE, outsOf, ioIx, spure, e1]
theorem require_positive_ok {a : D} {ps : List D} {c : D} (hps : ps.length ≤ 8) (H : HasW tb) (h170 : tb.fns.lookup 170 = some d_require_positive) (hn : 5 ≤ n) : callD tb n 170 [.sh (.tuple [a, .tuple ps]), .sh c] = if arePos ps.length c then .ok (.sh .none) [] else .ex 4 [] := by
  obtain ⟨n, rfl⟩ : ∃ m, n = m + 1 := ⟨n - 1, by omega⟩
  rw [callD_of h170 rfl]
  have e1 := are_positive_ok (tb := tb) (n := n) (a := a) (c := c) rfl hps H.h24 H.h25 H.h26 H.h27 (by omega)
  cases hc : arePos ps.length c with
  | true => rw [hc] at e1; simp [-List.getD_eq_getElem?_getD, d_require_positive, b_require_positive, startE, outsOf, ioIx, e1]
  | false => rw [hc] at e1; simp [-List.getD_eq_getElem?_getD, d_require_positive, b_require_positive, startE, outsOf, ioIx, e1]
/-! the laws' comparison -/
theorem same_int {i : Int} (h48 : tb.fns.lookup 48 = some d__law_same) : callD tb (n + 1) 48 [.sh (.int i), .sh (.int i)] = .ok (.sh (.bool true)) [] := by
  rw [callD_of h48 rfl]
  simp [-List.getD_eq_getElem?_getD, d__law_same, b__law_same, startE, outsOf, ioIx, isiD, isNone]
theorem same_str {x : Str} (hx : fineD (.str x) = true) (h48 : tb.fns.lookup 48 = some d__law_same) : callD tb (n + 1) 48 [.sh (.str x), .sh (.str x)] = .ok (.sh (.bool true)) [] := by
  rw [callD_of h48 rfl]
  have e : cmpD .eq (.str x) (.str x) = some true := by
    rw [cmpD_eq hx hx]
    show some (x == x) = _
    rw [beq_self_eq_true]
  simp [-List.getD_eq_getElem?_getD, d__law_same, b__law_same, startE, outsOf, ioIx, isiD, isNone, e]
theorem zipD_self : ∀ {ds : List D} {d : D}, d ∈ zipD ds ds → ∃ x, d = .tuple [x, x] ∧ x ∈ ds
  | [], d, h => by unfold zipD at h; simp at h
  | y :: ds, d, h => by
    unfold zipD at h
    rcases List.mem_cons.mp h with h | h
    · exact ⟨y, h, List.mem_cons_self⟩
    · obtain ⟨x, h1, h2⟩ := zipD_self h
      exact ⟨x, h1, List.mem_cons_of_mem _ h2⟩
theorem same_tup {ds : List D} (hl : ds.length ≤ 1000000) (h48 : tb.fns.lookup 48 = some d__law_same) (h : ∀ d ∈ ds, callD tb n 48 [.sh d, .sh d] = .ok (.sh (.bool true)) []) : callD tb (n + 1) 48 [.sh (.tuple ds), .sh (.tuple ds)] = .ok (.sh (.bool true)) [] := by
  rw [callD_of h48 rfl]
  have hk : lcK (callD tb n) (.call 48 (.cons (.var 2) (.cons (.var 3) .nil))) [2, 3] false .tt [2, 3] false (zipD ds ds) [some (.sh (.tuple ds)), some (.sh (.tuple ds)), none, none] = .ok (.t (ol ((zipD ds ds).map fun _ => .bool true))) [some (.sh (.tuple ds)), some (.sh (.tuple ds)), none, none] := by
    refine lcK_map _ _ (by rw [zipD_len]; omega) fun d hd => ?_
    obtain ⟨x, rfl, hx⟩ := zipD_self hd
    simp [-List.getD_eq_getElem?_getD, h x hx]
  have ma : biT .all (ol ((zipD ds ds).map fun _ => PyData.bool true)) = some (.sh (.bool true)) := by
    rw [map_all (f := fun _ => true)]
    simp
  generalize ((zipD ds ds).map fun _ => PyData.bool true) = bs at hk ma
  simp [-List.getD_eq_getElem?_getD, d__law_same, b__law_same, startE, outsOf, ioIx, isiD, isNone, spure, ev_lc, hk, ma]
theorem same_fr {q : Rat} (h48 : tb.fns.lookup 48 = some d__law_same) : callD tb (n + 2) 48 [.sh (fr q), .sh (fr q)] = .ok (.sh (.bool true)) [] :=
  same_tup (by simp) h48 fun d hd => by
    simp only [List.mem_cons, List.mem_nil_iff, or_false] at hd
    rcases hd with rfl | rfl <;> exact same_int h48
theorem same_ws {ws : List Rat} (hl : ws.length ≤ 1000000) (h48 : tb.fns.lookup 48 = some d__law_same) (hn : 3 ≤ n) : callD tb n 48 [.sh (wsD ws), .sh (wsD ws)] = .ok (.sh (.bool true)) [] := by
  obtain ⟨n, rfl⟩ : ∃ m, n = m + 3 := ⟨n - 3, by omega⟩
  exact same_tup (by simpa using hl) h48 fun d hd => by
    obtain ⟨w, _, rfl⟩ := List.mem_map.mp hd
    exact same_fr h48
/-- drawn weights, as rational numbers -/
theorem law_weights_rat {t : T} {ss : List Int} {ps : List (List Int)} {L : Nat} (h5 : tb.fns.lookup 5 = some d__law_draw) (h29 : tb.fns.lookup 29 = some d__law_fraction) (h30 : tb.fns.lookup 30 = some d__law_weights) (hn : 2 ≤ n) (hns : ns.length ≤ 63) (hs : StOk L t) (hps : ps.length ≤ 100) (hL : L + 4 * ps.length ≤ 1000000) :
    ∃ (ws : List Rat) (t' : T), callD tb n 30 [script ns, t, .sh (svD ss ps)] = .ok (.sh (wsD ws)) [t'] ∧ ws.length = ps.length ∧ (∀ w ∈ ws, 0 ≤ w ∧ Ov 12 72 w) ∧ StOk (L + 4 * ps.length) t' := by
  obtain ⟨vs, t', e, hl, hv, st⟩ := law_weights_ok (tb := tb) (n := n) (ns := ns) (a := intT ss) (ps := ps.map intT) (t := t) h5 h29 h30 hn hns hs (by simpa using hps) (by simpa using hL)
  rw [List.length_map] at hl st
  refine ⟨vs.map fun v => Rat.divInt v.1 v.2, t', ?_, by simpa using hl, fun w hw => ?_, st⟩
  · rw [e]
    congr 2
    show PyData.tuple ((vs.map fun v => (lowT v.1 v.2, lowB v.1 v.2)).map frD) = PyData.tuple ((vs.map fun v => Rat.divInt v.1 v.2).map fr)
    congr 1
    rw [List.map_map, List.map_map]
    refine List.map_congr_left fun v hv' => ?_
    have := hv v hv'
    exact fr_low (by omega)
  · obtain ⟨v, hv', rfl⟩ := List.mem_map.mp hw
    obtain ⟨a1, a2, a3, a4⟩ := hv v hv'
    obtain ⟨b, hb⟩ : ∃ b : Nat, v.2 = (b : Int) := ⟨v.2.toNat, by omega⟩
    have hb0 : b ≠ 0 := by omega
    rw [hb, Rat.divInt_ofNat]
    refine ⟨Rat.num_nonneg.mp (by rw [(mk_low hb0).1]; exact Int.ediv_nonneg a1 (by omega)), ?_⟩
    have hm : ∀ c : Int, c * b = 12 → Ov 12 72 (mkRat v.1 b) := fun c hc => by
      refine ⟨v.1 * c, ?_, ?_⟩
      · have e1 : ((12 : Nat) : Rat) = mkRat 12 1 := rfl
        have e2 : ((v.1 * c : Int) : Rat) = mkRat (v.1 * c) 1 := by rw [← Rat.mkRat_self ((v.1 * c : Int) : Rat)]; rfl
        rw [e1, e2, Rat.mkRat_mul_mkRat, Rat.mkRat_eq_iff (by omega) (by omega)]
        have : v.1 * 12 = v.1 * (c * b) := by rw [hc]
        push_cast
        grind
      · have hc12 : c.natAbs ≤ 12 := by
          have := congrArg Int.natAbs hc
          rw [Int.natAbs_mul, Int.natAbs_natCast] at this
          have : c.natAbs * 1 ≤ c.natAbs * b := Nat.mul_le_mul_left _ (by omega)
          omega
        rw [Int.natAbs_mul]
        have : v.1.natAbs * c.natAbs ≤ 6 * 12 := Nat.mul_le_mul (by omega) hc12
        omega
    have hb4 : b = 1 ∨ b = 2 ∨ b = 3 ∨ b = 4 := by omega
    rcases hb4 with rfl | rfl | rfl | rfl
    · exact hm 12 (by decide)
    · exact hm 6 (by decide)
    · exact hm 4 (by decide)
    · exact hm 3 (by decide)
end
end Z

set_option maxRecDepth 100000
set_option linter.all false
namespace Z
open PySem
/-! raking -/
def stepG (gs ps : List (List Int)) (j : Nat) (ws : List Rat) : Option (List Rat) := stepQ (gs.getD j []) ps j ws
def foldS (gs ps : List (List Int)) (m : Nat) (o : Option (List Rat)) : Option (List Rat) := (List.range m).foldl (fun o j => o.bind (stepG gs ps j)) o
theorem foldS_succ {gs ps : List (List Int)} {m : Nat} {o : Option (List Rat)} : foldS gs ps (m + 1) o = (foldS gs ps m o).bind (stepG gs ps m) := by
  unfold foldS
  rw [List.range_succ, List.foldl_append]
  rfl
theorem foldS_none {gs ps : List (List Int)} {o : Option (List Rat)} {m : Nat} (h : foldS gs ps m o = none) : ∀ {k : Nat}, m ≤ k → foldS gs ps k o = none
  | 0, hk => by rw [← Nat.le_zero.mp hk]; exact h
  | k + 1, hk => by
    by_cases e : m = k + 1
    · rw [← e]; exact h
    · rw [foldS_succ, foldS_none h (k := k) (by omega)]
      rfl
def encO (o : Option (List Rat)) : D := match o with
  | some ws => wsD ws
  | none => .str "EmptyGroup"
structure HasR (tb : Tbl) : Prop where
  g : HasG tb
  w : HasW tb
  h37 : tb.fns.lookup 37 = some d_lowest_terms
  h38 : tb.fns.lookup 38 = some d_plus
  h39 : tb.fns.lookup 39 = some d_total
  h40 : tb.fns.lookup 40 = some d_whole
  h42 : tb.fns.lookup 42 = some d_group_sum
  h82 : tb.fns.lookup 82 = some d_times
  h153 : tb.fns.lookup 153 = some d_over
  h170 : tb.fns.lookup 170 = some d_require_positive
  h171 : tb.fns.lookup 171 = some d_stepped
  h172 : tb.fns.lookup 172 = some d_require_all
  h173 : tb.fns.lookup 173 = some d_raked
  h174 : tb.fns.lookup 174 = some d_rounds
section
variable {tb : Tbl} {n : Nat} {ns : List Int} {ss : List Int} {ps gs : List (List Int)} {most : Nat} {N : Int} {ws : List Rat}
theorem step_at {a j : Nat} (sv : SvOk ss ps most) (hm : most ≤ 8) (hg : GoalOk ss gs N) (hj : j < ss.length) (hw : WB a ps ws) (ha : a ≤ 9000000) : gs[j]? = some (gs.getD j []) ∧ StepOk ss ps j (gs.getD j []) ws (a + 4) ∧ ∃ s, ss[j]? = some s ∧ ((gs.getD j []).length : Int) = s := by
  obtain ⟨s, r, h1, h2, h3⟩ := hg.1.row hj
  have e : gs[j]? = some (gs.getD j []) := getD_some (by rw [hg.1.1]; exact hj)
  refine ⟨e, step_ok_of sv hm hg hj e hw ha, s, h1, ?_⟩
  rw [h2] at e
  cases e
  exact h3.1
theorem stepG_wb {a j : Nat} {ws' : List Rat} (sv : SvOk ss ps most) (hm : most ≤ 8) (hg : GoalOk ss gs N) (hj : j < ss.length) (hw : WB a ps ws) (ha : a ≤ 9000000) (e : stepG gs ps j ws = some ws') : WB (5 * a + 15) ps ws' :=
  step_wb (step_at sv hm hg hj hw ha).2.1 hw e
theorem stepped_at {a j : Nat} (sv : SvOk ss ps most) (hm : most ≤ 8) (hg : GoalOk ss gs N) (hj : j < ss.length) (hw : WB a ps ws) (ha : a ≤ 9000000) (H : HasR tb) (hn : 7 ≤ n) :
    callD tb n 171 [.sh (svD ss ps), .sh (goalD gs), .sh (wsD ws), .sh (.int j)] = match stepG gs ps j ws with
      | some ws' => .ok (.sh (wsD ws')) []
      | none => .ex 12 [] := by
  obtain ⟨h1, h2, _⟩ := step_at sv hm hg hj hw ha
  exact stepped_ok h1 h2 H.w.h24 H.h37 H.h38 H.h39 H.h40 H.h42 H.h82 H.h153 H.h171 hn
theorem require_all_ok {c d : D} (sv : SvOk ss ps most) (hm : most ≤ 8) (H : HasR tb) (hn : 6 ≤ n) : callD tb n 172 [.sh (svD ss ps), .sh c, .sh d] = if isGoalD ss c then (if arePos ps.length d then .ok (.sh .none) [] else .ex 4 []) else .ex 3 [] := by
  obtain ⟨n, rfl⟩ : ∃ m, n = m + 1 := ⟨n - 1, by omega⟩
  rw [callD_of H.h172 rfl]
  have e1 := require_goal_ok (tb := tb) (n := n) (c := c) sv hm H.g (by omega)
  have e2 := require_positive_ok (tb := tb) (n := n) (a := intT ss) (ps := ps.map intT) (c := d) (by simp; have := sv.pm; omega) H.w H.h170 (by omega)
  rw [List.length_map] at e2
  cases hc : isGoalD ss c with
  | false => rw [hc] at e1; simp at e1; simp [-List.getD_eq_getElem?_getD, d_require_all, b_require_all, startE, outsOf, ioIx, e1]
  | true =>
    rw [hc] at e1
    simp at e1
    cases hd : arePos ps.length d with
    | false => rw [hd] at e2; simp at e2; simp [-List.getD_eq_getElem?_getD, d_require_all, b_require_all, startE, outsOf, ioIx, e1, e2]
    | true => rw [hd] at e2; simp at e2; simp [-List.getD_eq_getElem?_getD, d_require_all, b_require_all, startE, outsOf, ioIx, e1, e2]
theorem require_all_no {c d e : D} (hc : isSurvey c = false) (H : HasR tb) (hn : 6 ≤ n) : callD tb n 172 [.sh c, .sh d, .sh e] = .ex 1 [] := by
  obtain ⟨n, rfl⟩ : ∃ m, n = m + 1 := ⟨n - 1, by omega⟩
  rw [callD_of H.h172 rfl]
  have e1 := require_goal_no (tb := tb) (n := n) (w := d) hc H.g (by omega)
  simp [-List.getD_eq_getElem?_getD, d_require_all, b_require_all, startE, outsOf, ioIx, e1]
/-- what raked does -/
theorem raked_no {c d e t : D} (hc : isSurvey c = false) (H : HasR tb) (hn : 7 ≤ n) : callD tb n 173 [.sh c, .sh d, .sh e, .sh t] = .ex 1 [] := by
  obtain ⟨n, rfl⟩ : ∃ m, n = m + 1 := ⟨n - 1, by omega⟩
  rw [callD_of H.h173 rfl]
  simp [-List.getD_eq_getElem?_getD, d_raked, b_raked, startE, outsOf, ioIx, require_all_no (tb := tb) (n := n) (d := d) (e := e) hc H (by omega)]
theorem rounds_no {c d e t : D} (hc : isSurvey c = false) (H : HasR tb) (hn : 7 ≤ n) : callD tb n 174 [.sh c, .sh d, .sh e, .sh t] = .ex 1 [] := by
  obtain ⟨n, rfl⟩ : ∃ m, n = m + 1 := ⟨n - 1, by omega⟩
  rw [callD_of H.h174 rfl]
  simp [-List.getD_eq_getElem?_getD, d_rounds, b_rounds, startE, outsOf, ioIx, require_all_no (tb := tb) (n := n) (d := d) (e := e) hc H (by omega)]
theorem raked_goal {c d t : D} (sv : SvOk ss ps most) (hm : most ≤ 8) (hc : isGoalD ss c = false) (H : HasR tb) (hn : 7 ≤ n) : callD tb n 173 [.sh (svD ss ps), .sh c, .sh d, .sh t] = .ex 3 [] := by
  obtain ⟨n, rfl⟩ : ∃ m, n = m + 1 := ⟨n - 1, by omega⟩
  rw [callD_of H.h173 rfl]
  have e := require_all_ok (tb := tb) (n := n) (c := c) (d := d) sv hm H (by omega)
  simp [-List.getD_eq_getElem?_getD, hc] at e
  simp [-List.getD_eq_getElem?_getD, d_raked, b_raked, startE, outsOf, ioIx, e]
theorem rounds_goal {c d t : D} (sv : SvOk ss ps most) (hm : most ≤ 8) (hc : isGoalD ss c = false) (H : HasR tb) (hn : 7 ≤ n) : callD tb n 174 [.sh (svD ss ps), .sh c, .sh d, .sh t] = .ex 3 [] := by
  obtain ⟨n, rfl⟩ : ∃ m, n = m + 1 := ⟨n - 1, by omega⟩
  rw [callD_of H.h174 rfl]
  have e := require_all_ok (tb := tb) (n := n) (c := c) (d := d) sv hm H (by omega)
  simp [-List.getD_eq_getElem?_getD, hc] at e
  simp [-List.getD_eq_getElem?_getD, d_rounds, b_rounds, startE, outsOf, ioIx, e]
theorem raked_ws {d t : D} (sv : SvOk ss ps most) (hm : most ≤ 8) (hg : GoalOk ss gs N) (hd : arePos ps.length d = false) (H : HasR tb) (hn : 7 ≤ n) : callD tb n 173 [.sh (svD ss ps), .sh (goalD gs), .sh d, .sh t] = .ex 4 [] := by
  obtain ⟨n, rfl⟩ : ∃ m, n = m + 1 := ⟨n - 1, by omega⟩
  rw [callD_of H.h173 rfl]
  have e := require_all_ok (tb := tb) (n := n) (c := goalD gs) (d := d) sv hm H (by omega)
  simp [-List.getD_eq_getElem?_getD, isGoal_of hg sv.s1, hd] at e
  simp [-List.getD_eq_getElem?_getD, d_raked, b_raked, startE, outsOf, ioIx, e]
theorem rounds_ws {d t : D} (sv : SvOk ss ps most) (hm : most ≤ 8) (hg : GoalOk ss gs N) (hd : arePos ps.length d = false) (H : HasR tb) (hn : 7 ≤ n) : callD tb n 174 [.sh (svD ss ps), .sh (goalD gs), .sh d, .sh t] = .ex 4 [] := by
  obtain ⟨n, rfl⟩ : ∃ m, n = m + 1 := ⟨n - 1, by omega⟩
  rw [callD_of H.h174 rfl]
  have e := require_all_ok (tb := tb) (n := n) (c := goalD gs) (d := d) sv hm H (by omega)
  simp [-List.getD_eq_getElem?_getD, isGoal_of hg sv.s1, hd] at e
  simp [-List.getD_eq_getElem?_getD, d_rounds, b_rounds, startE, outsOf, ioIx, e]
theorem raked_trait {a : Nat} {t : D} (sv : SvOk ss ps most) (hm : most ≤ 8) (hg : GoalOk ss gs N) (hw : WB a ps ws) (ht : inR t 0 (ss.length - 1) = false) (H : HasR tb) (hn : 8 ≤ n) : callD tb n 173 [.sh (svD ss ps), .sh (goalD gs), .sh (wsD ws), .sh t] = .ex 10 [] := by
  obtain ⟨n, rfl⟩ : ∃ m, n = m + 1 := ⟨n - 1, by omega⟩
  rw [callD_of H.h173 rfl]
  have e := require_all_ok (tb := tb) (n := n) (c := goalD gs) (d := wsD ws) sv hm H (by omega)
  have e2 := is_integer_ok (tb := tb) (n := n) (c := t) (l := 0) (m := ss.length - 1) H.g.v.h1 (by omega)
  simp [-List.getD_eq_getElem?_getD, isGoal_of hg sv.s1, arePos_ws hw.len hw.nn] at e
  rw [ht] at e2
  simp [-List.getD_eq_getElem?_getD, d_raked, b_raked, startE, outsOf, ioIx, e, spure, e2]
theorem raked_ok {a j : Nat} (sv : SvOk ss ps most) (hm : most ≤ 8) (hg : GoalOk ss gs N) (hj : j < ss.length) (hw : WB a ps ws) (ha : a ≤ 9000000) (H : HasR tb) (hn : 8 ≤ n) : callD tb n 173 [.sh (svD ss ps), .sh (goalD gs), .sh (wsD ws), .sh (.int j)] = match stepG gs ps j ws with
      | some ws' => .ok (.sh (wsD ws')) []
      | none => .ex 12 [] := by
  obtain ⟨n, rfl⟩ : ∃ m, n = m + 1 := ⟨n - 1, by omega⟩
  rw [callD_of H.h173 rfl]
  have e := require_all_ok (tb := tb) (n := n) (c := goalD gs) (d := wsD ws) sv hm H (by omega)
  have e2 := is_integer_ok (tb := tb) (n := n) (c := .int j) (l := 0) (m := ss.length - 1) H.g.v.h1 (by omega)
  simp [-List.getD_eq_getElem?_getD, isGoal_of hg sv.s1, arePos_ws hw.len hw.nn] at e
  rw [inR_of (by omega) (by omega)] at e2
  have e3 := stepped_at (tb := tb) (n := n) sv hm hg hj hw ha H (by omega)
  cases hs : stepG gs ps j ws with
  | none => rw [hs] at e3; simp [-List.getD_eq_getElem?_getD, d_raked, b_raked, startE, outsOf, ioIx, e, spure, e2, e3]
  | some w => rw [hs] at e3; simp [-List.getD_eq_getElem?_getD, d_raked, b_raked, startE, outsOf, ioIx, e, spure, e2, e3]
def rdB : Ss := .cons (.asg true [2] (.call 171 (.cons (.var 0) (.cons (.var 1) (.cons (.var 2) (.cons (.var 5) .nil)))))) .nil
def rdB2 : Ss := .cons (.forS true [5] (.rng (.bi .len (.ix (.var 0) (.num 0)))) rdB) .nil
/-- one round -/
theorem round_run {m : Nat} {num : D} {x4 x5 : Option T} (sv : SvOk ss ps most) (hm : most ≤ 8) (hg : GoalOk ss gs N) (hw : WB (bd m) ps ws) (ha : m + ss.length ≤ 9) (H : HasR tb) (hn : 7 ≤ n) :
    (∀ w, foldS gs ps ss.length (some ws) = some w → ∃ x5', exSs (callD tb n) rdB2 [some (.sh (svD ss ps)), some (.sh (goalD gs)), some (.sh (wsD ws)), some (.sh num), x4, x5] = .nx [some (.sh (svD ss ps)), some (.sh (goalD gs)), some (.sh (wsD w)), some (.sh num), x4, x5'] ∧ WB (bd (m + ss.length)) ps w) ∧
    (foldS gs ps ss.length (some ws) = none → ∃ Γ', exSs (callD tb n) rdB2 [some (.sh (svD ss ps)), some (.sh (goalD gs)), some (.sh (wsD ws)), some (.sh num), x4, x5] = .ex 12 Γ') := by
  have hs3 := sv.s3
  have hfor := for_until (bind := bindTg true [5]) (body := exSs (callD tb n) rdB) (R := fun Γ => .ex 12 Γ) (fun _ _ => rfl) (fun j Γ => ∃ w x5, foldS gs ps j (some ws) = some w ∧ WB (bd (m + j)) ps w ∧ Γ = [some (.sh (svD ss ps)), some (.sh (goalD gs)), some (.sh (wsD w)), some (.sh num), x4, x5]) (fun j _ => (foldS gs ps (j + 1) (some ws)).isSome) (rngD 0 ss.length) 0 [some (.sh (svD ss ps)), some (.sh (goalD gs)), some (.sh (wsD ws)), some (.sh num), x4, x5]
    ⟨ws, x5, rfl, hw, rfl⟩ (fun j d Γ hd hI => by
      obtain ⟨w, x5, h1, h2, rfl⟩ := hI
      obtain ⟨rfl, hlt⟩ := rng_get' hd
      rw [Nat.zero_add] at h1 h2 ⊢
      have hb : bd (m + j) ≤ 9000000 := Nat.le_trans (bd_mono (show m + j ≤ 8 by omega)) bd_8
      have e := stepped_at (tb := tb) (n := n) sv hm hg hlt h2 hb H hn
      have hf : foldS gs ps (j + 1) (some ws) = stepG gs ps j w := by rw [foldS_succ, h1]; rfl
      rw [hf]
      cases hs : stepG gs ps j w with
      | none =>
        rw [hs] at e
        refine ⟨(fun q => by cases q), fun _ => ⟨[some (.sh (svD ss ps)), some (.sh (goalD gs)), some (.sh (wsD w)), some (.sh num), x4, some (.sh (.int j))], ?_⟩⟩
        simp [-List.getD_eq_getElem?_getD, rdB, e]
      | some w' =>
        rw [hs] at e
        refine ⟨fun _ => ⟨[some (.sh (svD ss ps)), some (.sh (goalD gs)), some (.sh (wsD w')), some (.sh num), x4, some (.sh (.int j))], ?_, w', _, rfl, ?_, rfl⟩, fun q => by cases q⟩
        · simp [-List.getD_eq_getElem?_getD, rdB, e]
        · exact stepG_wb sv hm hg hlt h2 hb hs)
  have hl : (rngD 0 ss.length).length = ss.length := rngD_len _ _
  refine ⟨fun w hw' => ?_, fun hnone => ?_⟩
  · obtain ⟨Γ, e, w2, x5', h1, h2, rfl⟩ := hfor.1 fun j d hd => by
      rw [Nat.zero_add]
      have hjl : j < ss.length := by rw [← hl]; exact (List.getElem?_eq_some_iff.mp hd).1
      cases hf : foldS gs ps (j + 1) (some ws) with
      | some _ => rfl
      | none => rw [foldS_none hf (k := ss.length) (by omega)] at hw'; cases hw'
    rw [hl, Nat.zero_add] at h1 h2
    rw [hw'] at h1
    cases h1
    exact ⟨x5', by simp [-List.getD_eq_getElem?_getD, rdB2, spure, sFor, show (ss.length : Int) ≤ 1000000 by omega, show (-1000000 : Int) ≤ ss.length by omega, e], h2⟩
  · have s1 := sv.s1
    obtain ⟨Γ, e⟩ := hfor.2 ⟨ss.length - 1, (rngD 0 ss.length)[ss.length - 1]'(by rw [hl]; omega), List.getElem?_eq_getElem _, by
      rw [Nat.zero_add, show ss.length - 1 + 1 = ss.length by omega, hnone]; rfl⟩
    exact ⟨Γ, by simp [-List.getD_eq_getElem?_getD, rdB2, spure, sFor, show (ss.length : Int) ≤ 1000000 by omega, show (-1000000 : Int) ≤ ss.length by omega, e]⟩
def iterR (gs ps : List (List Int)) (L : Nat) (o : Option (List Rat)) : Nat → Option (List Rat)
  | 0 => o
  | t + 1 => (iterR gs ps L o t).bind fun w => foldS gs ps L (some w)
theorem iterR_none {L : Nat} {o : Option (List Rat)} {m : Nat} (h : iterR gs ps L o m = none) : ∀ {k : Nat}, m ≤ k → iterR gs ps L o k = none
  | 0, hk => by rw [← Nat.le_zero.mp hk]; exact h
  | k + 1, hk => by
    by_cases e : m = k + 1
    · rw [← e]; exact h
    · show (iterR gs ps L o k).bind _ = none
      rw [iterR_none h (k := k) (by omega)]
      rfl
theorem rounds_num {a : Nat} {t : D} (sv : SvOk ss ps most) (hm : most ≤ 8) (hg : GoalOk ss gs N) (hw : WB a ps ws) (ht : inR t 0 2 = false) (H : HasR tb) (hn : 8 ≤ n) : callD tb n 174 [.sh (svD ss ps), .sh (goalD gs), .sh (wsD ws), .sh t] = .ex 11 [] := by
  obtain ⟨n, rfl⟩ : ∃ m, n = m + 1 := ⟨n - 1, by omega⟩
  rw [callD_of H.h174 rfl]
  have e := require_all_ok (tb := tb) (n := n) (c := goalD gs) (d := wsD ws) sv hm H (by omega)
  have e2 := is_integer_ok (tb := tb) (n := n) (c := t) (l := 0) (m := 2) H.g.v.h1 (by omega)
  simp [-List.getD_eq_getElem?_getD, isGoal_of hg sv.s1, arePos_ws hw.len hw.nn] at e
  rw [ht] at e2
  simp [-List.getD_eq_getElem?_getD, d_rounds, b_rounds, startE, outsOf, ioIx, e, spure, e2]
theorem rounds_ok {t : Nat} (sv : SvOk ss ps most) (hm : most ≤ 8) (hg : GoalOk ss gs N) (hw : WB (bd 0) ps ws) (ht : t ≤ 2) (H : HasR tb) (hn : 8 ≤ n) : callD tb n 174 [.sh (svD ss ps), .sh (goalD gs), .sh (wsD ws), .sh (.int t)] = match iterR gs ps ss.length (some ws) t with
      | some ws' => .ok (.sh (wsD ws')) []
      | none => .ex 12 [] := by
  obtain ⟨n, rfl⟩ : ∃ m, n = m + 1 := ⟨n - 1, by omega⟩
  rw [callD_of H.h174 rfl]
  have e := require_all_ok (tb := tb) (n := n) (c := goalD gs) (d := wsD ws) sv hm H (by omega)
  have e2 := is_integer_ok (tb := tb) (n := n) (c := .int t) (l := 0) (m := 2) H.g.v.h1 (by omega)
  simp [-List.getD_eq_getElem?_getD, isGoal_of hg sv.s1, arePos_ws hw.len hw.nn] at e
  rw [inR_of (by omega) (by omega)] at e2
  have hs3 := sv.s3
  have hfor := for_until (bind := bindTg true [4]) (body := exSs (callD tb n) rdB2) (R := fun Γ => .ex 12 Γ) (fun _ _ => rfl) (fun k Γ => ∃ w x4 x5, iterR gs ps ss.length (some ws) k = some w ∧ WB (bd (ss.length * k)) ps w ∧ Γ = [some (.sh (svD ss ps)), some (.sh (goalD gs)), some (.sh (wsD w)), some (.sh (.int t)), x4, x5]) (fun k _ => (iterR gs ps ss.length (some ws) (k + 1)).isSome) (rngD 0 t) 0 [some (.sh (svD ss ps)), some (.sh (goalD gs)), some (.sh (wsD ws)), some (.sh (.int t)), none, none]
    ⟨ws, none, none, rfl, hw, rfl⟩ (fun k d Γ hd hI => by
      obtain ⟨w, x4, x5, h1, h2, rfl⟩ := hI
      obtain ⟨rfl, hlt⟩ := rng_get' hd
      rw [Nat.zero_add] at h1 h2 ⊢
      have hf : iterR gs ps ss.length (some ws) (k + 1) = foldS gs ps ss.length (some w) := by show (iterR gs ps ss.length (some ws) k).bind _ = _; rw [h1]; rfl
      have hb : ss.length * k + ss.length ≤ 9 := by
        have : ss.length * k ≤ 3 * 1 := Nat.mul_le_mul hs3 (by omega)
        omega
      obtain ⟨r1, r2⟩ := round_run (tb := tb) (n := n) (num := .int t) (x4 := some (.sh (.int k))) (x5 := x5) sv hm hg h2 hb H (by omega)
      rw [hf]
      cases hs : foldS gs ps ss.length (some w) with
      | none =>
        obtain ⟨Γ', e⟩ := r2 hs
        exact ⟨(fun q => by cases q), fun _ => ⟨Γ', by simpa using e⟩⟩
      | some w' =>
        obtain ⟨x5', e, h3⟩ := r1 w' hs
        exact ⟨fun _ => ⟨_, by simpa using e, w', some (.sh (.int k)), x5', rfl, by rw [Nat.mul_succ]; exact h3, rfl⟩, fun q => by cases q⟩)
  have hl : (rngD 0 t).length = t := rngD_len _ _
  cases hres : iterR gs ps ss.length (some ws) t with
  | some w' =>
    obtain ⟨Γ, e3, w2, x4, x5, h1, h2, rfl⟩ := hfor.1 fun j d hd => by
      rw [Nat.zero_add]
      have hjl : j < t := by rw [← hl]; exact (List.getElem?_eq_some_iff.mp hd).1
      cases hf : iterR gs ps ss.length (some ws) (j + 1) with
      | some _ => rfl
      | none => rw [iterR_none hf (k := t) (by omega)] at hres; cases hres
    rw [hl, Nat.zero_add, hres] at h1
    cases h1
    simp only [rdB2, rdB] at e3
    simp [-List.getD_eq_getElem?_getD, d_rounds, b_rounds, startE, outsOf, ioIx, e, e2, sFor, show (t : Int) ≤ 1000000 by omega, show (-1000000 : Int) ≤ t by omega, e3]
  | none =>
    have ht0 : t ≠ 0 := fun e0 => by rw [e0] at hres; cases hres
    obtain ⟨Γ, e3⟩ := hfor.2 ⟨t - 1, (rngD 0 t)[t - 1]'(by rw [hl]; omega), List.getElem?_eq_getElem _, by
      rw [Nat.zero_add, show t - 1 + 1 = t by omega, hres]; rfl⟩
    simp only [rdB2, rdB] at e3
    simp [-List.getD_eq_getElem?_getD, d_rounds, b_rounds, startE, outsOf, ioIx, e, e2, sFor, show (t : Int) ≤ 1000000 by omega, show (-1000000 : Int) ≤ t by omega, e3]
end
end Z

set_option maxRecDepth 100000
set_option linter.all false
namespace Z
open PySem
/-! texts -/
abbrev tstr (i : Int) : Str := Str.ofString (toString i)
theorem strOk_app {a b : Str} (ha : PyData.strOk a = true) (hb : PyData.strOk b = true) : PyData.strOk (a ++ b) = true := by
  unfold PyData.strOk at ha hb ⊢
  have : (a ++ b).cps = a.cps ++ b.cps := rfl
  rw [this, Array.all_append, ha, hb]
  rfl
theorem fine_str {a : Str} (h : PyData.strOk a = true) : fineD (.str a) = true := fine_of (by unfold PyData.canLay0; exact h) (by unfold PyData.depth; omega)
theorem len_app (a b : Str) : (a ++ b).length = a.length + b.length := by
  show (a.cps ++ b.cps).size = _
  rw [Array.size_append]
  rfl
theorem tstr_len {i : Int} (h : i.natAbs ≤ 72) : 1 ≤ (tstr i).length ∧ (tstr i).length ≤ 3 := by
  have key : ∀ k : Fin 145, 1 ≤ (tstr ((k.val : Int) - 72)).length ∧ (tstr ((k.val : Int) - 72)).length ≤ 3 := by decide +kernel
  have := key ⟨(i + 72).toNat, by omega⟩
  have e : (((i + 72).toNat : Nat) : Int) - 72 = i := by omega
  simp only [e] at this
  exact this
def wtext (q : Rat) : Str := if q.den = 1 then tstr q.num else tstr q.num ++ "/" ++ tstr q.den
structure SmQ (q : Rat) : Prop where
  n : q.num.natAbs ≤ 72
  d : q.den ≤ 12
theorem wtext_ok {q : Rat} (h : SmQ q) : PyData.strOk (wtext q) = true ∧ 1 ≤ (wtext q).length ∧ (wtext q).length ≤ 7 := by
  have h1 := tstr_len h.n
  have h2 := tstr_len (i := (q.den : Int)) (by have := h.d; omega)
  unfold wtext
  split
  · exact ⟨strOk_of _, by omega, by omega⟩
  · refine ⟨strOk_app (strOk_app (strOk_of _) (strOk_of _)) (strOk_of _), ?_, ?_⟩
    · rw [len_app, len_app]; omega
    · rw [len_app, len_app, show (Str.ofString "/").length = 1 by decide +kernel]; omega
theorem join_snoc (sep : Str) : ∀ (l : List Str) (y : Str), Str.join sep (l ++ [y]) = if l.isEmpty then y else Str.join sep l ++ sep ++ y
  | [], y => rfl
  | [x], y => rfl
  | x :: z :: l, y => by
    have ih := join_snoc sep (z :: l) y
    show x ++ sep ++ Str.join sep ((z :: l) ++ [y]) = (x ++ sep ++ Str.join sep (z :: l)) ++ sep ++ y
    rw [ih]
    simp only [List.isEmpty_cons, Bool.false_eq_true, if_false, Str.append_assoc]
theorem join_ok {sep : Str} (hs : PyData.strOk sep = true) {c : Nat} : ∀ {l : List Str}, (∀ x ∈ l, PyData.strOk x = true ∧ x.length ≤ c) → PyData.strOk (Str.join sep l) = true ∧ (Str.join sep l).length ≤ (c + sep.length) * l.length
  | [], _ => ⟨by show PyData.strOk Str.empty = true; decide +kernel, by show 0 ≤ _; omega⟩
  | [x], h => by
    have := h x List.mem_cons_self
    exact ⟨this.1, by show x.length ≤ _; simp; omega⟩
  | x :: z :: l, h => by
    have h1 := h x List.mem_cons_self
    obtain ⟨a, b⟩ := join_ok hs (l := z :: l) fun y hy => h y (List.mem_cons_of_mem _ hy)
    refine ⟨strOk_app (strOk_app h1.1 hs) a, ?_⟩
    show (x ++ sep ++ Str.join sep (z :: l)).length ≤ _
    rw [len_app, len_app, List.length_cons, Nat.mul_succ]
    omega
theorem join_pos {sep : Str} {l : List Str} (hl : l ≠ []) (h : ∀ x ∈ l, 1 ≤ x.length) : 1 ≤ (Str.join sep l).length := by
  match l, hl with
  | [x], _ => exact h x List.mem_cons_self
  | x :: z :: l, _ =>
    show 1 ≤ (x ++ sep ++ Str.join sep (z :: l)).length
    rw [len_app, len_app]
    have := h x List.mem_cons_self
    omega
theorem rep_space {b : Bool} : strRep " " (if b then 1 else 0) = if b then (" " : Str) else Str.empty := by cases b <;> decide +kernel
theorem app_empty (a : Str) : a ++ Str.empty = a := by
  show (⟨a.cps ++ #[]⟩ : Str) = a
  rw [Array.append_empty]
theorem empty_app (a : Str) : Str.empty ++ a = a := by
  show (⟨#[] ++ a.cps⟩ : Str) = a
  rw [Array.empty_append]
/-- the laws' way to join -/
theorem glue {l : List Str} {y : Str} (h : ∀ x ∈ l, 1 ≤ x.length) : Str.join " " l ++ strRep " " (if !(Str.join " " l == "") then 1 else 0) ++ y = Str.join " " (l ++ [y]) := by
  rw [join_snoc, rep_space]
  cases l with
  | nil =>
    show Str.empty ++ (if !(Str.empty == ("" : Str)) then (" " : Str) else Str.empty) ++ y = y
    rw [show (!(Str.empty == ("" : Str))) = false by decide +kernel]
    simp only [Bool.false_eq_true, if_false]
    rw [app_empty, empty_app]
  | cons x l =>
    have := join_pos (sep := (" " : Str)) (l := x :: l) (by simp) h
    have hne : (Str.join " " (x :: l) == ("" : Str)) = false := by
      cases q : (Str.join " " (x :: l) == ("" : Str)) with
      | false => rfl
      | true =>
        rw [eq_of_beq q] at this
        exact absurd this (by decide +kernel)
    rw [hne]
    simp
section
variable {tb : Tbl} {n : Nat} {ns : List Int}
theorem bi_str_int {i : Int} (h : i.natAbs.log2 < 1920) : biT .str (.sh (.int i)) = some (.sh (.str (tstr i))) := by
  show (if i.natAbs.log2 < 1920 then _ else _) = _
  rw [if_pos h]
theorem log_small {i : Int} (h : i.natAbs ≤ 72) : i.natAbs.log2 < 1920 := by
  by_cases h0 : i.natAbs = 0
  · rw [h0]; decide
  · have : i.natAbs.log2 < 7 := (Nat.log2_lt h0).mpr (show i.natAbs < 128 by omega)
    omega
theorem total_okT {qs : List Rat} {k : Nat} (hb : BtS k qs) (hk : k + k ≤ 80000000) (h24 : tb.fns.lookup 24 = some d_common_divisor) (h37 : tb.fns.lookup 37 = some d_lowest_terms) (h38 : tb.fns.lookup 38 = some d_plus) (h39 : tb.fns.lookup 39 = some d_total) (hn : 4 ≤ n) : callD tb n 39 [.sh (wsD qs)] = .ok (.sh (fr (qsum qs))) [] := by
  have e := total_ok (tb := tb) (n := n) hb hk h24 h37 h38 h39 hn
  obtain ⟨n, rfl⟩ : ∃ m, n = m + 1 := ⟨n - 1, by omega⟩
  rw [callD_of h39 rfl]
  obtain ⟨Γ, e, x2, rfl⟩ := for_inv (bind := bindTg true [2]) (body := exSs (callD tb n) (.cons (.asg true [1] (.call 38 (.cons (.var 1) (.cons (.var 2) .nil)))) .nil)) (fun j Γ => ∃ x2, Γ = [some (.sh (wsD qs)), some (.sh (fr (qsum (qs.take j)))), x2]) (qs.map fr) 0 [some (.sh (wsD qs)), some (.sh (fr 0)), none]
    ⟨none, rfl⟩ (fun j d Γ hd hI => by
      obtain ⟨x2, rfl⟩ := hI
      rw [Nat.zero_add]
      rw [List.getElem?_map] at hd
      cases hq : qs[j]? with
      | none => rw [hq] at hd; cases hd
      | some q =>
        rw [hq] at hd
        cases hd
        have e := plus_ok (tb := tb) (n := n) (hb.2 j) (hb.1 q (List.mem_of_getElem? hq)) hk h24 h37 h38 (by omega)
        refine ⟨[some (.sh (wsD qs)), some (.sh (fr (qsum (qs.take (j + 1))))), some (.sh (fr q))], ?_, some (.sh (fr q)), rfl⟩
        rw [take_sum hq]
        simp [e])
  rw [List.length_map, Nat.zero_add, List.take_length] at e
  have h0 : fr 0 = .tuple [.int 0, .int 1] := rfl
  rw [h0] at e
  simp [d_total, b_total, startE, outsOf, ioIx, sFor, e]
theorem law_total_okT {qs : List Rat} {k : Nat} (hb : BtS k qs) (hk : k + k ≤ 70000000) (h29 : tb.fns.lookup 29 = some d__law_fraction) (h50 : tb.fns.lookup 50 = some d__law_plus) (h51 : tb.fns.lookup 51 = some d__law_total) (hn : 3 ≤ n) : callD tb n 51 [.sh (wsD qs)] = .ok (.sh (fr (qsum qs))) [] := by
  obtain ⟨n, rfl⟩ : ∃ m, n = m + 1 := ⟨n - 1, by omega⟩
  rw [callD_of h51 rfl]
  obtain ⟨Γ, e, x2, rfl⟩ := for_inv (bind := bindTg true [2]) (body := exSs (callD tb n) (.cons (.asg true [1] (.call 50 (.cons (.var 1) (.cons (.var 2) .nil)))) .nil)) (fun j Γ => ∃ x2, Γ = [some (.sh (wsD qs)), some (.sh (fr (qsum (qs.take j)))), x2]) (qs.map fr) 0 [some (.sh (wsD qs)), some (.sh (fr 0)), none]
    ⟨none, rfl⟩ (fun j d Γ hd hI => by
      obtain ⟨x2, rfl⟩ := hI
      rw [Nat.zero_add]
      rw [List.getElem?_map] at hd
      cases hq : qs[j]? with
      | none => rw [hq] at hd; cases hd
      | some q =>
        rw [hq] at hd
        cases hd
        have e := law_plus_ok (tb := tb) (n := n) (hb.2 j) (hb.1 q (List.mem_of_getElem? hq)) hk h29 h50 (by omega)
        refine ⟨[some (.sh (wsD qs)), some (.sh (fr (qsum (qs.take (j + 1))))), some (.sh (fr q))], ?_, some (.sh (fr q)), rfl⟩
        rw [take_sum hq]
        simp [e])
  rw [List.length_map, Nat.zero_add, List.take_length] at e
  have h0 : fr 0 = .tuple [.int 0, .int 1] := rfl
  rw [h0] at e
  simp [d__law_total, b__law_total, startE, outsOf, ioIx, sFor, e]
/-! formats -/
theorem joinD_of {sep : Str} {ys : List Str} {c : Nat} (h : ∀ y ∈ ys, y.length ≤ c) (hc : (c + sep.length) * ys.length ≤ 1000000) : joinD sep (ys.map PyData.str) = some (.str (Str.join sep ys)) := by
  rw [← TL.join_eq]
  refine joinD_map ?_
  have : (ys.map (·.length)).sum ≤ c * ys.length := by
    clear hc
    induction ys with
    | nil => simp
    | cons y ys ih =>
      have h1 := h y List.mem_cons_self
      have h2 := ih fun x hx => h x (List.mem_cons_of_mem _ hx)
      rw [List.map_cons, List.sum_cons, List.length_cons, Nat.mul_succ]
      omega
  rw [Nat.add_mul] at hc
  rw [Nat.mul_comm ys.length]
  omega
theorem weight_text_ok {q : Rat} {c : Nat} (h1 : q.num.natAbs.log2 < 1920) (h2 : q.den.log2 < 1920) (l1 : (tstr q.num).length ≤ c) (l2 : (tstr q.den).length ≤ c) (hc : c ≤ 1000) (h250 : tb.fns.lookup 250 = some d_weight_text) (hn : 1 ≤ n) : callD tb n 250 [.sh (fr q)] = .ok (.sh (.str (wtext q))) [] := by
  obtain ⟨n, rfl⟩ : ∃ m, n = m + 1 := ⟨n - 1, by omega⟩
  rw [callD_of h250 rfl]
  have e1 := bi_str_int (i := q.num) h1
  have e2 := bi_str_int (i := (q.den : Int)) (by simpa using h2)
  by_cases hd : q.den = 1
  · simp [d_weight_text, b_weight_text, startE, outsOf, ioIx, spure, hd, e1, wtext]
  · have b1 : binT .add (.sh (.str (tstr q.num))) (.sh (.str "/")) = some (.sh (.str (tstr q.num ++ "/"))) := binT_str (by rw [show (Str.ofString "/").length = 1 by decide +kernel]; omega)
    have b2 : binT .add (.sh (.str (tstr q.num ++ "/"))) (.sh (.str (tstr q.den))) = some (.sh (.str (tstr q.num ++ "/" ++ tstr q.den))) := binT_str (by rw [len_app, show (Str.ofString "/").length = 1 by decide +kernel]; omega)
    have hd' : ¬ (q.den : Int) = 1 := by omega
    simp [d_weight_text, b_weight_text, startE, outsOf, ioIx, spure, hd, hd', e1, e2, b1, b2, wtext]
end
end Z

set_option Elab.async false
set_option linter.all false
set_option maxRecDepth 100000
set_option maxHeartbeats 0
namespace K29
open Z PySem
def tb : Tbl := ⟨[(1, d_is_integer), (2, d_are_sizes), (3, d_is_kind), (4, d_is_survey), (12, d_require_survey), (24, d_common_divisor), (37, d_lowest_terms), (25, d_is_fraction), (38, d_plus), (82, d_times), (153, d_over), (39, d_total), (26, d_are_numbers), (27, d_are_positive), (41, d_require_numbers), (170, d_require_positive), (247, d_effective_size), (248, d_survey_text), (249, d_format_survey), (250, d_weight_text), (251, d_is_long), (252, d_weights_text), (253, d_format_weights), (48, d__law_same), (5, d__law_draw), (8, d__law_survey), (29, d__law_fraction), (50, d__law_plus), (71, d__law_times), (51, d__law_total), (30, d__law_weights), (254, d__law_format_weights_or), (255, d__law_effective_size_or), (256, d__law_format_survey_or), (257, d__law_refused_8), (258, d_law_29)],
  ["abs", "all", "any", "bool", "int", "isinstance", "len", "list", "max", "range", "str", "tuple", "zip"],
  [(1, "InvalidSurvey"), (4, "InvalidWeights"), (15, "TooLarge")]⟩
def pos : List Nat := [6, 7, 8, 9, 10, 12, 13, 14, 15, 16, 17, 18, 20, 21, 22, 23, 25, 26, 27, 28, 29, 30, 31, 33, 34, 35, 36, 37, 38, 39, 40, 41, 42, 43, 44, 45]
abbrev P : PySem.Program := PySem.Challenge.pw_surveyweights_k29_sizes_and_texts_by_han
theorem bAll : BAll P tb.fns pos := ⟨(fun _ _ _ _ _ _ us hl => match us, hl with | [_, _, _], _ => rfl), (fun _ _ _ _ _ _ us hl => match us, hl with | [_], _ => rfl), (fun _ _ _ _ _ _ us hl => match us, hl with | [_, _], _ => rfl), (fun _ _ _ _ _ _ us hl => match us, hl with | [_], _ => rfl), (fun _ _ _ _ _ _ us hl => match us, hl with | [_], _ => rfl), (fun _ _ _ _ _ _ us hl => match us, hl with | [_, _], _ => rfl), (fun _ _ _ _ _ _ us hl => match us, hl with | [_, _], _ => rfl), (fun _ _ _ _ _ _ us hl => match us, hl with | [_], _ => rfl), (fun _ _ _ _ _ _ us hl => match us, hl with | [_, _], _ => rfl), (fun _ _ _ _ _ _ us hl => match us, hl with | [_, _], _ => rfl), (fun _ _ _ _ _ _ us hl => match us, hl with | [_, _], _ => rfl), (fun _ _ _ _ _ _ us hl => match us, hl with | [_], _ => rfl), (fun _ _ _ _ _ _ us hl => match us, hl with | [_, _], _ => rfl), (fun _ _ _ _ _ _ us hl => match us, hl with | [_, _], _ => rfl), (fun _ _ _ _ _ _ us hl => match us, hl with | [_, _], _ => rfl), (fun _ _ _ _ _ _ us hl => match us, hl with | [_, _], _ => rfl), (fun _ _ _ _ _ _ us hl => match us, hl with | [_, _], _ => rfl), (fun _ _ _ _ _ _ us hl => match us, hl with | [_], _ => rfl), (fun _ _ _ _ _ _ us hl => match us, hl with | [_], _ => rfl), (fun _ _ _ _ _ _ us hl => match us, hl with | [_], _ => rfl), (fun _ _ _ _ _ _ us hl => match us, hl with | [_], _ => rfl), (fun _ _ _ _ _ _ us hl => match us, hl with | [_], _ => rfl), (fun _ _ _ _ _ _ us hl => match us, hl with | [_, _], _ => rfl), (fun _ _ _ _ _ _ us hl => match us, hl with | [_, _], _ => rfl), (fun _ _ _ _ _ _ us hl => match us, hl with | [_, _, _], _ => rfl), (fun _ _ _ _ _ _ us hl => match us, hl with | [_, _, _], _ => rfl), (fun _ _ _ _ _ _ us hl => match us, hl with | [_, _], _ => rfl), (fun _ _ _ _ _ _ us hl => match us, hl with | [_, _], _ => rfl), (fun _ _ _ _ _ _ us hl => match us, hl with | [_, _], _ => rfl), (fun _ _ _ _ _ _ us hl => match us, hl with | [_], _ => rfl), (fun _ _ _ _ _ _ us hl => match us, hl with | [_, _, _], _ => rfl), (fun _ _ _ _ _ _ us hl => match us, hl with | [_, _], _ => rfl), (fun _ _ _ _ _ _ us hl => match us, hl with | [_, _], _ => rfl), (fun _ _ _ _ _ _ us hl => match us, hl with | [_], _ => rfl), (fun _ _ _ _ _ _ us hl => match us, hl with | [_, _], _ => rfl), (fun _ _ _ _ _ _ us hl => match us, hl with | [_], _ => rfl), trivial⟩
theorem cAll : allB P tb tb.fns pos = true := by decide +kernel
def loose : List PySem.Str := (("SurveyError" : PySem.Str) :: ("InvalidSurvey" : PySem.Str) :: ("InvalidWeights" : PySem.Str) :: ("TooLarge" : PySem.Str) :: ("is_integer" : PySem.Str) :: ("are_sizes" : PySem.Str) :: ("is_kind" : PySem.Str) :: ("is_survey" : PySem.Str) :: ("require_survey" : PySem.Str) :: ("common_divisor" : PySem.Str) :: ("lowest_terms" : PySem.Str) :: ("is_fraction" : PySem.Str) :: ("plus" : PySem.Str) :: ("times" : PySem.Str) :: ("over" : PySem.Str) :: ("total" : PySem.Str) :: ("are_numbers" : PySem.Str) :: ("are_positive" : PySem.Str) :: ("require_numbers" : PySem.Str) :: ("require_positive" : PySem.Str) :: ("effective_size" : PySem.Str) :: ("survey_text" : PySem.Str) :: ("format_survey" : PySem.Str) :: ("weight_text" : PySem.Str) :: ("is_long" : PySem.Str) :: ("weights_text" : PySem.Str) :: ("format_weights" : PySem.Str) :: ("_law_same" : PySem.Str) :: ("_law_draw" : PySem.Str) :: ("_law_survey" : PySem.Str) :: ("_law_fraction" : PySem.Str) :: ("_law_plus" : PySem.Str) :: ("_law_times" : PySem.Str) :: ("_law_total" : PySem.Str) :: ("_law_weights" : PySem.Str) :: ("_law_format_weights_or" : PySem.Str) :: ("_law_effective_size_or" : PySem.Str) :: ("_law_format_survey_or" : PySem.Str) :: ("_law_refused" : PySem.Str) :: [])
abbrev R : PySem.W.OpenRow := PySem.W.OpenLaw.row PySem.Challenge.rw_surveyweights_k29_sizes_and_texts_by_han
theorem run (w : World) : HandSHeadRun.RunEq R (PySem.W.view R.prog [45]) (hkD P tb pos) (obD P tb pos) 9000 loose w := by
  intro os
  kernel_rfl
end K29
section
open PySem PySem.W PySem.Calls PyProof.Rows
theorem K29.holds (hlaw : ∀ ns : List Int, ns.length ≤ 63 → Z.callD K29.tb 60 258 [Z.script ns] = .ok (.sh (.bool true)) []) : PySem.Challenge.rw_surveyweights_k29_sizes_and_texts_by_han.Holds := by
  w_on; o_law
  refine HandSHeadRun.head_any (r := K29.R) (q := view K29.R.prog [45]) (H := Z.hkD K29.P K29.tb K29.pos) (ob := Z.obD K29.P K29.tb K29.pos) (M := 9000) (loose := K29.loose) (d := HandSHeadRun.topDef K29.R.prog 45) (kwd := []) (Z.obD_eq K29.P K29.tb K29.pos)
    (by kernel_rfl) (fun s => by kernel_rfl) K29.run (by kernel_rfl) (by kernel_rfl) (by kernel_rfl) (by rfl) (by first | assumption | decide +kernel) (by decide +kernel) ⟨rfl, rfl, rfl, rfl, rfl, by decide +kernel⟩ ?hw ?hc
  case hw => w_witness2
  case hc => exact Z.law_walk (l := PySem.Challenge.rw_surveyweights_k29_sizes_and_texts_by_han) (n := 63) (k := 60) (li := 258) (ld := Z.d_law_29) (x := "script") rfl (by decide) (by kernel_rfl) ⟨rfl, by decide, by decide⟩ rfl (by kernel_rfl) rfl rfl K29.cAll K29.bAll rfl hlaw
end

set_option maxRecDepth 100000
set_option linter.all false
namespace K29
open Z PySem
variable {n : Nat} {ns : List Int} {ss : List Int} {ps : List (List Int)} {ws : List Rat}
def lng : Int := 100000000000000000000000000000000000000000000000000
theorem int_lng : biT .int (.sh (.str ("1" ++ strRep "0" 50))) = some (.sh (.int lng)) := by
  have h1 : ((("1" : Str) ++ strRep "0" 50).length ≤ 640) := by decide +kernel
  have h2 : PySem.intText? (("1" : Str) ++ strRep "0" 50) = some lng := by decide +kernel
  have key : ∀ x : Str, x.length ≤ 640 → PySem.intText? x = some lng → biT .int (.sh (.str x)) = some (.sh (.int lng)) := fun x a b => by
    unfold biT
    simp [a, b]
  exact key _ h1 h2
theorem mul_lng : binT .mul (.sh (.str "0")) (.sh (.int 50)) = some (.sh (.str (strRep "0" 50))) := binT_strRep (by omega) (by omega) (by decide +kernel)
theorem add_lng : binT .add (.sh (.str "1")) (.sh (.str (strRep "0" 50))) = some (.sh (.str ("1" ++ strRep "0" 50))) := binT_str (by decide +kernel)
theorem is_long_ok {i : Int} (hn : 1 ≤ n) : callD tb n 251 [.sh (.int i)] = .ok (.sh (.bool (decide (lng ≤ (i.natAbs : Int))))) [] := by
  obtain ⟨n, rfl⟩ : ∃ m, n = m + 1 := ⟨n - 1, by omega⟩
  rw [callD_of (d := d_is_long) rfl rfl]
  simp [d_is_long, b_is_long, startE, outsOf, ioIx, spure, mul_lng, add_lng, int_lng, Nat.cast_natAbs']
/-- a text of weights -/
structure TxQ (q : Rat) : Prop where
  n : q.num.natAbs.log2 < 1920
  d : q.den.log2 < 1920
  ln : (tstr q.num).length ≤ 100
  ld : (tstr q.den).length ≤ 100
theorem wtext_len {q : Rat} (h : TxQ q) : (wtext q).length ≤ 201 := by
  unfold wtext
  have := h.ln
  have := h.ld
  split
  · omega
  · rw [len_app, len_app, show (Str.ofString "/").length = 1 by decide +kernel]; omega
theorem weights_text_ok (hw : ∀ w ∈ ws, TxQ w) (hl : ws.length ≤ 8) (hn : 2 ≤ n) : callD tb n 252 [.sh (wsD ws)] = .ok (.sh (.str (Str.join " " (ws.map wtext)))) [] := by
  obtain ⟨n, rfl⟩ : ∃ m, n = m + 1 := ⟨n - 1, by omega⟩
  rw [callD_of (d := d_weights_text) rfl rfl]
  have hk : lcK (callD tb n) (.call 250 (.cons (.var 1) .nil)) [1] true .tt [1] false (ws.map fr) [some (.sh (wsD ws)), none] = .ok (.t (ol ((ws.map wtext).map PyData.str))) [some (.sh (wsD ws)), none] := by
    rw [lcK_map _ (fun d => match d with | .tuple [.int a, .int b] => .str (wtext (Rat.divInt a b)) | d => d) (by simp; omega) fun d hd => ?_]
    · congr 3
      rw [List.map_map, List.map_map]
      refine List.map_congr_left fun w _ => ?_
      show PyData.str (wtext (Rat.divInt w.num w.den)) = _
      rw [Rat.num_divInt_den]
      rfl
    · obtain ⟨w, hw', rfl⟩ := List.mem_map.mp hd
      have h := hw w hw'
      have e := weight_text_ok (tb := tb) (n := n) h.n h.d h.ln h.ld (by omega) rfl (by omega)
      simp [e, Rat.num_divInt_den]
  have hj := joinD_of (sep := (" " : Str)) (ys := ws.map wtext) (c := 201) (fun y hy => by
    obtain ⟨w, hw', rfl⟩ := List.mem_map.mp hy
    exact wtext_len (hw w hw')) (by
      rw [List.length_map, show (Str.ofString " ").length = 1 by decide +kernel]
      omega)
  generalize (ws.map wtext).map PyData.str = Y at hk hj
  simp [d_weights_text, b_weights_text, startE, outsOf, ioIx, ev_lc, hk, hj]
theorem require_numbers_ok {c : D} (sv : SvOk ss ps 8) (hn : 4 ≤ n) : callD tb n 41 [.sh (svD ss ps), .sh c] = if areNums ps.length c then .ok (.sh .none) [] else .ex 4 [] := by
  obtain ⟨n, rfl⟩ : ∃ m, n = m + 1 := ⟨n - 1, by omega⟩
  rw [callD_of (d := d_require_numbers) rfl rfl]
  have e1 := are_numbers_ok (tb := tb) (n := n) (a := intT ss) (ps := ps.map intT) (c := c) rfl (by simp; have := sv.pm; omega) rfl rfl rfl (by omega)
  rw [List.length_map] at e1
  cases hc : areNums ps.length c with
  | true => rw [hc] at e1; simp [d_require_numbers, b_require_numbers, startE, outsOf, ioIx, e1]
  | false => rw [hc] at e1; simp [d_require_numbers, b_require_numbers, startE, outsOf, ioIx, e1]
def longQ (q : Rat) : Bool := decide (lng ≤ (q.num.natAbs : Int)) || decide (lng ≤ (q.den : Int))
theorem format_weights_ok (sv : SvOk ss ps 8) (hl : ws.length = ps.length) (hw : ws.any longQ = false → ∀ w ∈ ws, TxQ w) (hn : 6 ≤ n) : callD tb n 253 [.sh (svD ss ps), .sh (wsD ws)] = if ws.any longQ then .ex 15 [] else .ok (.sh (.str (Str.join " " (ws.map wtext)))) [] := by
  obtain ⟨n, rfl⟩ : ∃ m, n = m + 1 := ⟨n - 1, by omega⟩
  rw [callD_of (d := d_format_weights) rfl rfl]
  have hpm := sv.pm
  have e1 := require_survey_ok (tb := tb) (n := n) rfl rfl rfl rfl rfl (by omega) (isSurvey_sv sv (by omega))
  have e2 := require_numbers_ok (n := n) (c := wsD ws) sv (by omega)
  rw [areNums_ws hl] at e2
  simp at e2
  have hk : lcK (callD tb n) (.bool (.or (.val (.call 251 (.cons (.var 2) .nil))) (.val (.call 251 (.cons (.var 3) .nil))))) [2, 3] false .tt [2, 3] false (ws.map fr) [some (.sh (svD ss ps)), some (.sh (wsD ws)), none, none] = .ok (.t (ol ((ws.map longQ).map PyData.bool))) [some (.sh (svD ss ps)), some (.sh (wsD ws)), none, none] := by
    rw [lcK_map _ (fun d => match d with | .tuple [.int a, .int b] => .bool (longQ (Rat.divInt a b)) | d => d) (by simp; omega) fun d hd => ?_]
    · congr 3
      rw [List.map_map, List.map_map]
      refine List.map_congr_left fun w _ => ?_
      show PyData.bool (longQ (Rat.divInt w.num w.den)) = _
      rw [Rat.num_divInt_den]
      rfl
    · obtain ⟨w, hw', rfl⟩ := List.mem_map.mp hd
      have l1 := is_long_ok (n := n) (i := w.num) (by omega)
      have l2 := is_long_ok (n := n) (i := (w.den : Int)) (by omega)
      simp only [Int.natAbs_natCast] at l2
      have hq : longQ w = (decide (lng ≤ (w.num.natAbs : Int)) || decide (lng ≤ (w.den : Int))) := rfl
      simp only [Rat.num_divInt_den, hq]
      generalize decide (lng ≤ (w.num.natAbs : Int)) = b1 at l1
      generalize decide (lng ≤ (w.den : Int)) = b2 at l2
      cases b1
      · simp [l1, l2]
      · simp [l1]
  have ma : biT .any (ol ((ws.map longQ).map PyData.bool)) = some (.sh (.bool (ws.any longQ))) := by
    rw [bi_any]
    simp [List.any_map]
  generalize (ws.map longQ).map PyData.bool = bs at hk ma
  cases hany : ws.any longQ with
  | true =>
    rw [hany] at ma
    simp [d_format_weights, b_format_weights, startE, outsOf, ioIx, e1, e2, ev_lc, hk, ma]
  | false =>
    rw [hany] at ma
    have e3 := weights_text_ok (n := n) (hw hany) (by omega) (by omega)
    simp [d_format_weights, b_format_weights, startE, outsOf, ioIx, e1, e2, ev_lc, hk, ma, e3]
/-! the effective size -/
def effQ (ws : List Rat) : Rat := if qsum (ws.map fun w => w * w) = 0 then 0 else qsum ws * qsum ws / qsum (ws.map fun w => w * w)
structure DW (ps : List (List Int)) (ws : List Rat) : Prop where
  len : ws.length = ps.length
  ok : ∀ w ∈ ws, 0 ≤ w ∧ Ov 12 72 w
theorem Ov.sq {w : Rat} (h : Ov 12 72 w) : Ov 144 5184 (w * w) := by
  obtain ⟨a, h1, h2⟩ := h
  refine ⟨a * a, ?_, ?_⟩
  · have e : ((144 : Nat) : Rat) = ((12 : Nat) : Rat) * ((12 : Nat) : Rat) := by decide +kernel
    rw [e, Rat.intCast_mul, ← h1]
    generalize ((12 : Nat) : Rat) = t
    grind
  · rw [Int.natAbs_mul]
    exact Nat.le_trans (Nat.mul_le_mul h2 h2) (by decide)
theorem DW.b1 (h : DW ps ws) (hp : ps.length ≤ 8) : BtS 10 ws := Ov.btS (d := 12) (A := 72) (m := 8) (fun q hq => (h.ok q hq).2) (by have := h.len; omega) (by omega) (by omega) (by decide) (by decide)
theorem DW.b2 (h : DW ps ws) (hp : ps.length ≤ 8) : BtS 16 (ws.map fun w => w * w) := Ov.btS (d := 144) (A := 5184) (m := 8) (fun q hq => by
  obtain ⟨w, hw, rfl⟩ := List.mem_map.mp hq
  exact Ov.sq (h.ok w hw).2) (by rw [List.length_map]; have := h.len; omega) (by omega) (by omega) (by decide) (by decide)
theorem BtS.all {k : Nat} {qs : List Rat} (h : BtS k qs) : Bt k (qsum qs) := by
  have := h.2 qs.length
  rwa [List.take_length] at this
theorem effective_ok (sv : SvOk ss ps 8) (h : DW ps ws) (hn : 6 ≤ n) : callD tb n 247 [.sh (svD ss ps), .sh (wsD ws)] = .ok (.sh (fr (effQ ws))) [] := by
  obtain ⟨n, rfl⟩ : ∃ m, n = m + 1 := ⟨n - 1, by omega⟩
  rw [callD_of (d := d_effective_size) rfl rfl]
  have hpm := sv.pm
  have hwl := h.len
  have e1 := require_survey_ok (tb := tb) (n := n) rfl rfl rfl rfl rfl (by omega) (isSurvey_sv sv (by omega))
  have e2 := require_positive_ok (tb := tb) (n := n) (a := intT ss) (ps := ps.map intT) (c := wsD ws) (by simp; omega) ⟨rfl, rfl, rfl, rfl⟩ rfl (by omega)
  rw [List.length_map, arePos_ws h.len fun w hw => (h.ok w hw).1] at e2
  simp at e2
  have e3 := total_okT (tb := tb) (n := n) (h.b1 (by omega)) (by omega) rfl rfl rfl rfl (by omega)
  have e4 := total_ok (tb := tb) (n := n) (h.b2 (by omega)) (by omega) rfl rfl rfl rfl (by omega)
  have hk : ∀ x2, lcK (callD tb n) (.call 82 (.cons (.var 4) (.cons (.var 4) .nil))) [4] true .tt [4] false (ws.map fr) [some (.sh (svD ss ps)), some (.sh (wsD ws)), x2, none, none] = .ok (.t (ol ((ws.map fun w => w * w).map fr))) [some (.sh (svD ss ps)), some (.sh (wsD ws)), x2, none, none] := fun x2 => by
    rw [lcK_map _ (fun d => match d with | .tuple [.int a, .int b] => fr (Rat.divInt a b * Rat.divInt a b) | d => d) (by simp; omega) fun d hd => ?_]
    · congr 3
      rw [List.map_map, List.map_map]
      refine List.map_congr_left fun w _ => ?_
      show fr (Rat.divInt w.num w.den * Rat.divInt w.num w.den) = _
      rw [Rat.num_divInt_den]
      rfl
    · obtain ⟨w, hw', rfl⟩ := List.mem_map.mp hd
      have hb := (h.b1 (by omega)).1 w hw'
      have e := times_ok (tb := tb) (n := n) hb hb (by omega) rfl rfl rfl (by omega)
      simp [e, Rat.num_divInt_den]
  have bo := BtS.all (h.b1 (by omega))
  have bs := BtS.all (h.b2 (by omega))
  unfold effQ
  generalize (ws.map fun w => w * w) = qs at *
  generalize qsum qs = s at *
  generalize qsum ws = o at *
  by_cases hz : s = 0
  · have hnum : s.num = 0 := by rw [hz]; rfl
    rw [if_pos hz]
    have h0 : fr 0 = .tuple [.int 0, .int 1] := rfl
    rw [h0]
    simp [d_effective_size, b_effective_size, startE, outsOf, ioIx, e1, e2, e3, ev_lc, hk, e4, spure, hnum]
  · have hnum : ¬ s.num = 0 := num_ne hz
    rw [if_neg hz]
    have e5 := times_ok (tb := tb) (n := n) bo bo (by omega) rfl rfl rfl (by omega)
    have e6 := over_ok (tb := tb) (n := n) hz (bt_mul bo bo) bs (by omega) rfl rfl rfl (by omega)
    simp [d_effective_size, b_effective_size, startE, outsOf, ioIx, e1, e2, e3, ev_lc, hk, e4, spure, hnum, e5, e6]
/-! the format of a survey -/
def lineT (r : List Int) : Str := Str.join " " (r.map tstr) ++ "\n"
def svT (ss : List Int) (ps : List (List Int)) : Str := Str.join "" ((ss :: ps).map lineT)
structure RowS (r : List Int) : Prop where
  len : r.length ≤ 3
  bd : ∀ i ∈ r, i.natAbs ≤ 72
theorem row_ok {r : List Int} (h : RowS r) : PyData.strOk (Str.join " " (r.map tstr)) = true ∧ (Str.join " " (r.map tstr)).length ≤ 12 ∧ PyData.strOk (lineT r) = true ∧ (lineT r).length ≤ 13 := by
  obtain ⟨a, b⟩ := join_ok (sep := (" " : Str)) (strOk_of _) (c := 3) (l := r.map tstr) (fun x hx => by
    obtain ⟨i, hi, rfl⟩ := List.mem_map.mp hx
    exact ⟨strOk_of _, (tstr_len (h.bd i hi)).2⟩)
  rw [List.length_map, show (Str.ofString " ").length = 1 by decide +kernel] at b
  have := h.len
  refine ⟨a, by omega, strOk_app a (strOk_of _), ?_⟩
  unfold lineT
  rw [len_app, show (Str.ofString "\n").length = 1 by decide +kernel]
  omega
theorem survey_text_ok (hr : ∀ r ∈ ss :: ps, RowS r) (hp : ps.length ≤ 8) (hn : 1 ≤ n) : callD tb n 248 [.sh (svD ss ps)] = .ok (.sh (.str (svT ss ps))) [] := by
  obtain ⟨n, rfl⟩ : ∃ m, n = m + 1 := ⟨n - 1, by omega⟩
  rw [callD_of (d := d_survey_text) rfl rfl]
  have hk1 : ∀ r, RowS r → ∀ x1, lcK (callD tb n) (.bi .str (.var 2)) [2] true .tt [2] false (r.map PyData.int) [some (.sh (svD ss ps)), x1, none, some (.sh (intT r))] = .ok (.t (ol ((r.map tstr).map PyData.str))) [some (.sh (svD ss ps)), x1, none, some (.sh (intT r))] := fun r h x1 => by
    rw [lcK_map _ (fun d => match d with | .int i => .str (tstr i) | d => d) (by have := h.len; simp; omega) fun d hd => ?_]
    · congr 3
      rw [List.map_map, List.map_map]
      rfl
    · obtain ⟨i, hi, rfl⟩ := List.mem_map.mp hd
      simp [bi_str_int (log_small (h.bd i hi))]
  have hk2 : ∀ x3, lcK (callD tb n) (.bin .add (.bi (.join " ") (.lc (.bi .str (.var 2)) [2] true (.seq (.var 3)) .tt [2] false)) (.text "\n")) [3] true .tt [3] false ((ss :: ps).map intT) [some (.sh (svD ss ps)), some (.sh (.list ((ss :: ps).map intT))), none, x3] = .ok (.t (ol (((ss :: ps).map lineT).map PyData.str))) [some (.sh (svD ss ps)), some (.sh (.list ((ss :: ps).map intT))), none, x3] := fun x3 => by
    rw [lcK_map _ (fun d => .str (lineT (szs d))) (by simp; omega) fun d hd => ?_]
    · congr 3
      rw [List.map_map, List.map_map]
      refine List.map_congr_left fun r _ => ?_
      show PyData.str (lineT (szs (intT r))) = _
      rw [szs_map]
      rfl
    · obtain ⟨r, hr', rfl⟩ := List.mem_map.mp hd
      have h := hr r hr'
      obtain ⟨a1, a2, a3, a4⟩ := row_ok h
      have hj := joinD_of (sep := (" " : Str)) (ys := r.map tstr) (c := 3) (fun y hy => by
        obtain ⟨i, hi, rfl⟩ := List.mem_map.mp hy
        exact (tstr_len (h.bd i hi)).2) (by
          have := h.len
          rw [List.length_map, show (Str.ofString " ").length = 1 by decide +kernel]
          omega)
      have hb : binT .add (.sh (.str (Str.join " " (r.map tstr)))) (.sh (.str "\n")) = some (.sh (.str (lineT r))) := binT_str (by rw [show (Str.ofString "\n").length = 1 by decide +kernel]; omega)
      have hk := hk1 r h
      rw [szs_map]
      generalize (r.map tstr).map PyData.str = Y at hk hj
      simp [spure, ev_lc, hk, hj, hb]
  have hj := joinD_of (sep := ("" : Str)) (ys := (ss :: ps).map lineT) (c := 13) (fun y hy => by
    obtain ⟨r, hr', rfl⟩ := List.mem_map.mp hy
    exact (row_ok (hr r hr')).2.2.2) (by
      rw [List.length_map, show (Str.ofString "").length = 0 by decide +kernel]
      simp
      omega)
  have hcat : binT .add (ol [intT ss]) (ol (ps.map intT)) = some (ol ((ss :: ps).map intT)) := binT_cat' (by simp; omega)
  have hcat' : binT .add (.sh (.list [intT ss])) (ol (ps.map intT)) = some (ol ((ss :: ps).map intT)) := binT_cat1 (by simp; omega)
  unfold svT
  generalize ((ss :: ps).map lineT).map PyData.str = Y at hk2 hj
  generalize (ss :: ps).map intT = R at hk2 hcat hcat'
  simp [d_survey_text, b_survey_text, startE, outsOf, ioIx, spure, hcat, hcat', ev_lc, hk2, hj]
theorem rows_sv (sv : SvOk ss ps 8) : ∀ r ∈ ss :: ps, RowS r := fun r hr => by
  rcases List.mem_cons.mp hr with rfl | hr
  · exact ⟨sv.s3, fun i hi => by have := sv.sz i hi; omega⟩
  · have hk := sv.kd r hr
    have h3 := sv.s3
    refine ⟨by rw [hk.1]; exact h3, fun i hi => ?_⟩
    obtain ⟨j, hj, rfl⟩ := List.mem_iff_getElem.mp hi
    have hz := hk.2 (r[j], ss[j]'(by rw [← hk.1]; exact hj)) (List.mem_of_getElem? (i := j) (by rw [List.getElem?_zip_eq_some]; exact ⟨List.getElem?_eq_getElem _, List.getElem?_eq_getElem _⟩))
    have := sv.sz (ss[j]'(by rw [← hk.1]; exact hj)) (List.getElem_mem _)
    simp only at hz
    omega
theorem format_survey_ok (sv : SvOk ss ps 8) (hn : 5 ≤ n) : callD tb n 249 [.sh (svD ss ps)] = .ok (.sh (.str (svT ss ps))) [] := by
  obtain ⟨n, rfl⟩ : ∃ m, n = m + 1 := ⟨n - 1, by omega⟩
  rw [callD_of (d := d_format_survey) rfl rfl]
  have e1 := require_survey_ok (tb := tb) (n := n) rfl rfl rfl rfl rfl (by omega) (isSurvey_sv sv (by omega))
  have e2 := survey_text_ok (n := n) (rows_sv sv) sv.pm (by omega)
  simp [d_format_survey, b_format_survey, startE, outsOf, ioIx, e1, e2]
/-! what is refused -/
theorem fw_no {c d : D} (hc : isSurvey c = false) (hn : 6 ≤ n) : callD tb n 254 [.sh c, .sh d] = .ok (.sh (.str "InvalidSurvey")) [] := by
  obtain ⟨n, rfl⟩ : ∃ m, n = m + 2 := ⟨n - 2, by omega⟩
  have e1 := require_survey_no (tb := tb) (n := n) (c := c) rfl rfl rfl rfl rfl (by omega) hc
  have e2 : callD tb (n + 1) 253 [.sh c, .sh d] = .ex 1 [] := by
    rw [callD_of (d := d_format_weights) rfl rfl]
    simp [d_format_weights, b_format_weights, startE, outsOf, ioIx, e1]
  rw [callD_of (d := d__law_format_weights_or) rfl rfl]
  simp [d__law_format_weights_or, b__law_format_weights_or, startE, outsOf, ioIx, e2]
theorem fw_ws {d : D} (sv : SvOk ss ps 8) (hd : areNums ps.length d = false) (hn : 7 ≤ n) : callD tb n 254 [.sh (svD ss ps), .sh d] = .ok (.sh (.str "InvalidWeights")) [] := by
  obtain ⟨n, rfl⟩ : ∃ m, n = m + 2 := ⟨n - 2, by omega⟩
  have e1 := require_survey_ok (tb := tb) (n := n) rfl rfl rfl rfl rfl (by omega) (isSurvey_sv sv (by omega))
  have e0 := require_numbers_ok (n := n) (c := d) sv (by omega)
  rw [hd] at e0
  simp at e0
  have e2 : callD tb (n + 1) 253 [.sh (svD ss ps), .sh d] = .ex 4 [] := by
    rw [callD_of (d := d_format_weights) rfl rfl]
    simp [d_format_weights, b_format_weights, startE, outsOf, ioIx, e1, e0]
  rw [callD_of (d := d__law_format_weights_or) rfl rfl]
  simp [d__law_format_weights_or, b__law_format_weights_or, startE, outsOf, ioIx, e2]
theorem fw_or (sv : SvOk ss ps 8) (hl : ws.length = ps.length) (hw : ws.any longQ = false → ∀ w ∈ ws, TxQ w) (hn : 7 ≤ n) : callD tb n 254 [.sh (svD ss ps), .sh (wsD ws)] = .ok (.sh (.str (if ws.any longQ then "TooLarge" else Str.join " " (ws.map wtext)))) [] := by
  obtain ⟨n, rfl⟩ : ∃ m, n = m + 1 := ⟨n - 1, by omega⟩
  have e := format_weights_ok (n := n) sv hl hw (by omega)
  rw [callD_of (d := d__law_format_weights_or) rfl rfl]
  cases hany : ws.any longQ with
  | true => rw [hany] at e; simp at e; simp [d__law_format_weights_or, b__law_format_weights_or, startE, outsOf, ioIx, e]
  | false => rw [hany] at e; simp at e; simp [d__law_format_weights_or, b__law_format_weights_or, startE, outsOf, ioIx, e]
theorem ef_no {c d : D} (hc : isSurvey c = false) (hn : 6 ≤ n) : callD tb n 255 [.sh c, .sh d] = .ok (.sh (.str "InvalidSurvey")) [] := by
  obtain ⟨n, rfl⟩ : ∃ m, n = m + 2 := ⟨n - 2, by omega⟩
  have e1 := require_survey_no (tb := tb) (n := n) (c := c) rfl rfl rfl rfl rfl (by omega) hc
  have e2 : callD tb (n + 1) 247 [.sh c, .sh d] = .ex 1 [] := by
    rw [callD_of (d := d_effective_size) rfl rfl]
    simp [d_effective_size, b_effective_size, startE, outsOf, ioIx, e1]
  rw [callD_of (d := d__law_effective_size_or) rfl rfl]
  simp [d__law_effective_size_or, b__law_effective_size_or, startE, outsOf, ioIx, e2]
theorem ef_ws {d : D} (sv : SvOk ss ps 8) (hd : arePos ps.length d = false) (hn : 7 ≤ n) : callD tb n 255 [.sh (svD ss ps), .sh d] = .ok (.sh (.str "InvalidWeights")) [] := by
  obtain ⟨n, rfl⟩ : ∃ m, n = m + 2 := ⟨n - 2, by omega⟩
  have e1 := require_survey_ok (tb := tb) (n := n) rfl rfl rfl rfl rfl (by omega) (isSurvey_sv sv (by omega))
  have e0 := require_positive_ok (tb := tb) (n := n) (a := intT ss) (ps := ps.map intT) (c := d) (by simp; have := sv.pm; omega) ⟨rfl, rfl, rfl, rfl⟩ rfl (by omega)
  rw [List.length_map, hd] at e0
  simp at e0
  have e2 : callD tb (n + 1) 247 [.sh (svD ss ps), .sh d] = .ex 4 [] := by
    rw [callD_of (d := d_effective_size) rfl rfl]
    simp [d_effective_size, b_effective_size, startE, outsOf, ioIx, e1, e0]
  rw [callD_of (d := d__law_effective_size_or) rfl rfl]
  simp [d__law_effective_size_or, b__law_effective_size_or, startE, outsOf, ioIx, e2]
theorem fs_no {c : D} (hc : isSurvey c = false) (hn : 6 ≤ n) : callD tb n 256 [.sh c] = .ok (.sh (.str "InvalidSurvey")) [] := by
  obtain ⟨n, rfl⟩ : ∃ m, n = m + 2 := ⟨n - 2, by omega⟩
  have e1 := require_survey_no (tb := tb) (n := n) (c := c) rfl rfl rfl rfl rfl (by omega) hc
  have e2 : callD tb (n + 1) 249 [.sh c] = .ex 1 [] := by
    rw [callD_of (d := d_format_survey) rfl rfl]
    simp [d_format_survey, b_format_survey, startE, outsOf, ioIx, e1]
  rw [callD_of (d := d__law_format_survey_or) rfl rfl]
  simp [d__law_format_survey_or, b__law_format_survey_or, startE, outsOf, ioIx, e2]
theorem smq_of {w : Rat} (h : Ov 12 72 w) : SmQ w := by
  obtain ⟨a, b⟩ := h.le (by omega)
  exact ⟨a, b⟩
theorem txq_of {w : Rat} (h : SmQ w) : TxQ w := by
  have a := tstr_len h.n
  have b := tstr_len (i := (w.den : Int)) (by have := h.d; omega)
  have c := log_small (i := (w.den : Int)) (by have := h.d; omega)
  simp only [Int.natAbs_natCast] at c
  exact ⟨log_small h.n, c, by omega, by omega⟩
theorem not_long {w : Rat} (h : SmQ w) : longQ w = false := by
  have h1 := h.n
  have h2 := h.d
  unfold longQ lng
  rw [decide_eq_false (by omega), decide_eq_false (by omega)]
  rfl
def qL : Rat := ⟨1, 100000000000000000000000000000000000000000000000000, by decide, Nat.gcd_one_left _⟩
def rfB : Ss := .cons (.iff (.cmp .ne (.call 254 (.cons (.var 0) (.cons (.bin .add (.tup (.cons (.var 3) .nil)) (.sl (.var 1) (.num 1) .non)) .nil))) (.text "TooLarge")) (.cons (.ret (.bl false)) .nil) .nil) .nil
theorem refused_ok (sv : SvOk ss ps 8) (h : DW ps ws) (hn : 9 ≤ n) : callD tb n 257 [.sh (svD ss ps), .sh (wsD ws)] = .ok (.sh (.bool true)) [] := by
  obtain ⟨n, rfl⟩ : ∃ m, n = m + 1 := ⟨n - 1, by omega⟩
  rw [callD_of (d := d__law_refused_8) rfl rfl]
  have hp1 := sv.p1
  have hpm := sv.pm
  have hwl := h.len
  obtain ⟨w0, ws', rfl⟩ : ∃ w0 ws', ws = w0 :: ws' := by
    cases ws with
    | nil => simp at hwl; omega
    | cons x y => exact ⟨x, y, rfl⟩
  have hwl' : ws'.length ≤ 7 := by simp at hwl; omega
  have hq : ∀ q : Rat, (q :: ws').length = ps.length := fun q => by simpa using hwl
  have hsm : ∀ w ∈ ws', SmQ w := fun w hw => smq_of (h.ok w (List.mem_cons_of_mem _ hw)).2
  have k1 : cut (fr w0 :: ws'.map fr) (some 1) none = ws'.map fr := cut_from (v := 1)
  have c1 : cmpD .ne (.str "TooLarge") (.str "TooLarge") = some false := by decide +kernel
  have c2 : cmpD .ne (.str "InvalidWeights") (.str "InvalidWeights") = some false := by decide +kernel
  have c3 : cmpD .ne (.str "InvalidSurvey") (.str "InvalidSurvey") = some false := by decide +kernel
  have c4 : cmpD .eq (.str "InvalidSurvey") (.str "InvalidSurvey") = some true := by decide +kernel
  have bt : ∀ x : D, binT .add (.sh (.tuple [x])) (.sh (.tuple (ws'.map fr))) = some (.sh (.tuple (x :: ws'.map fr))) := fun x => binT_tup (by simp; omega)
  have long_or : ∀ q : Rat, longQ q = true → callD tb n 254 [.sh (svD ss ps), .sh (.tuple (fr q :: ws'.map fr))] = .ok (.sh (.str "TooLarge")) [] := fun q hq' => by
    have ha : (q :: ws').any longQ = true := by rw [List.any_cons, hq', Bool.true_or]
    have e := fw_or (n := n) (ws := q :: ws') sv (hq q) (fun z => by rw [ha] at z; cases z) (by omega)
    rw [ha] at e
    exact e
  have l1 := long_or (lng : Rat) (by decide +kernel)
  have l2 := long_or ((-lng : Int) : Rat) (by decide +kernel)
  have l3 := long_or qL (by decide +kernel)
  have f1 : fr (lng : Rat) = .tuple [.int lng, .int 1] := rfl
  have f2 : fr ((-lng : Int) : Rat) = .tuple [.int (-lng), .int 1] := rfl
  have f3 : fr qL = .tuple [.int 1, .int lng] := rfl
  rw [f1] at l1
  rw [f2] at l2
  rw [f3] at l3
  -- one less is no more too long
  have f4 : fr ((lng - 1 : Int) : Rat) = .tuple [.int (lng - 1), .int 1] := rfl
  have hna : (((lng - 1 : Int) : Rat) :: ws').any longQ = false := by
    rw [List.any_cons, show longQ ((lng - 1 : Int) : Rat) = false by decide +kernel, Bool.false_or]
    rw [List.any_eq_false]
    intro w hw
    rw [not_long (hsm w hw)]
    exact Bool.false_ne_true
  have htx : TxQ ((lng - 1 : Int) : Rat) := ⟨by decide +kernel, by decide +kernel, by decide +kernel, by decide +kernel⟩
  have l4 := fw_or (n := n) (ws := ((lng - 1 : Int) : Rat) :: ws') sv (hq _) (fun _ w hw => by
    rcases List.mem_cons.mp hw with rfl | hw
    · exact htx
    · exact txq_of (hsm w hw)) (by omega)
  rw [hna] at l4
  simp only [Bool.false_eq_true, if_false] at l4
  have hcX : cmpD .eq (.str (Str.join " " ((((lng - 1 : Int) : Rat) :: ws').map wtext))) (.str "TooLarge") = some false := by
    have hok := join_ok (sep := (" " : Str)) (strOk_of _) (c := 201) (l := (((lng - 1 : Int) : Rat) :: ws').map wtext) (fun x hx => by
      obtain ⟨w, hw, rfl⟩ := List.mem_map.mp hx
      rcases List.mem_cons.mp hw with rfl | hw
      · exact ⟨by decide +kernel, wtext_len htx⟩
      · exact ⟨(wtext_ok (hsm w hw)).1, wtext_len (txq_of (hsm w hw))⟩)
    rw [cmpD_eq (fine_str hok.1) (fine_str (strOk_of _))]
    show some (Str.join " " _ == ("TooLarge" : Str)) = _
    congr 1
    have hlen : 50 ≤ (Str.join " " ((((lng - 1 : Int) : Rat) :: ws').map wtext)).length := by
      have h50 : (wtext ((lng - 1 : Int) : Rat)).length = 50 := by decide +kernel
      cases hz : ws' with
      | nil => show 50 ≤ (wtext ((lng - 1 : Int) : Rat)).length; omega
      | cons y zs =>
        show 50 ≤ (wtext ((lng - 1 : Int) : Rat) ++ (" " : Str) ++ Str.join " " ((y :: zs).map wtext)).length
        rw [len_app, len_app]
        omega
    cases q : (Str.join " " ((((lng - 1 : Int) : Rat) :: ws').map wtext) == ("TooLarge" : Str)) with
    | false => rfl
    | true =>
      rw [eq_of_beq q] at hlen
      exact absurd hlen (by decide +kernel)
  generalize Str.join " " ((((lng - 1 : Int) : Rat) :: ws').map wtext) = X at l4 hcX
  have l4 : callD tb n 254 [.sh (svD ss ps), .sh (.tuple (.tuple [.int (lng - 1), .int 1] :: ws'.map fr))] = .ok (.sh (.str X)) [] := l4
  have l5 := ef_ws (n := n) (d := .tuple (.tuple [.int (-1), .int 2] :: ws'.map fr)) sv (by
    show ((decide (_ = ps.length) && _) && ((topNN (.tuple [.int (-1), .int 2])) && _)) = false
    rw [show topNN (.tuple [.int (-1), .int 2]) = false from rfl, Bool.false_and, Bool.and_false]) (by omega)
  have l6 := fw_ws (n := n) (d := .tuple (ws'.map fr)) sv (by
    show (decide ((ws'.map fr).length = ps.length) && _) = false
    rw [List.length_map, decide_eq_false (by simp at hwl; omega)]
    rfl) (by omega)
  have l7 := fs_no (n := n) (c := .tuple (ps.map intT)) isSurvey_people (by omega)
  have l8 := ef_no (n := n) (c := .tuple []) (d := .int 1) rfl (by omega)
  have l9 := fw_no (n := n) (c := .int 1) (d := .int 1) rfl (by omega)
  have hf : ∀ x3, ∃ x3', forRun (bindTg true [3]) (exSs (callD tb n) rfB) [.tuple [.int lng, .int 1], .tuple [.int (-lng), .int 1], .tuple [.int 1, .int lng]] [some (.sh (svD ss ps)), some (.sh (wsD (w0 :: ws'))), some (.sh (.int lng)), x3] = .nx [some (.sh (svD ss ps)), some (.sh (wsD (w0 :: ws'))), some (.sh (.int lng)), x3'] := fun x3 => by
    refine ⟨some (.sh (.tuple [.int 1, .int lng])), ?_⟩
    generalize lng = g at l1 l2 l3
    simp [forRun_cons, rfB, spure, k1, bt, l1, l2, l3, c1]
  obtain ⟨x3', e⟩ := hf none
  simp only [rfB] at e
  have hm := mul_lng
  have ha := add_lng
  have hi := int_lng
  generalize lng = g at e hi l4
  simp [d__law_refused_8, b__law_refused_8, startE, outsOf, ioIx, spure, hm, ha, hi, sFor, e, k1, bt, l4, hcX, l5, l6, l7, l8, l9, c2, c3, c4]
/-! the law -/
def body : Ss := match b_law_29 with
  | .cons _ (.cons (.forS _ _ _ b) _) => b
  | _ => .nil
def txB : Ss := .cons (.asg true [10] (.bin .add (.bin .add (.var 10) (.bin .mul (.text " ") (.bi .int (.bool (.cmp .ne (.var 10) (.text "")))))) (.bi .str (.ix (.var 7) (.num 0)))))
  (.cons (.iff (.cmp .gt (.ix (.var 7) (.num 1)) (.num 1)) (.cons (.asg true [10] (.bin .add (.bin .add (.var 10) (.text "/")) (.bi .str (.ix (.var 7) (.num 1))))) .nil) .nil)
  .nil)
def nmB : Ss := .cons (.asg true [12] (.bin .add (.bin .add (.var 12) (.bin .mul (.text " ") (.bi .int (.bool (.cmp .ne (.var 12) (.text "")))))) (.bi .str (.var 13)))) .nil
def rwB : Ss := .cons (.asg true [12] (.text ""))
  (.cons (.forS true [13] (.seq (.var 11)) nmB)
  (.cons (.asg true [10] (.bin .add (.bin .add (.var 10) (.var 12)) (.text "\n")))
  .nil))
theorem ne_empty {x : Str} (h : PyData.strOk x = true) : cmpD .ne (.str x) (.str "") = some (!(x == "")) := by
  rw [cmpD_ne (fine_str h) (fine_str (strOk_of _))]
  rfl
theorem int_bool {b : Bool} : biT .int (.sh (.bool b)) = some (.sh (.int (if b then 1 else 0))) := rfl
theorem rep_len {b : Bool} : (strRep " " (if b then 1 else 0)).length ≤ 1 := by cases b <;> decide +kernel
theorem mul_sp {b : Bool} : binT .mul (.sh (.str " ")) (.sh (.int (if b then 1 else 0))) = some (.sh (.str (strRep " " (if b then 1 else 0)))) := by
  refine binT_strRep ?_ ?_ (by decide +kernel) <;> cases b <;> decide
theorem join_nil : ("" : Str) = Str.join " " [] := by decide +kernel
/-- the law's text of weights -/
theorem tx_ok {t : T} {i : Int} {sg : List Rat} {x3 x4 x5 x6 x7 x8 x11 x12 x13 : Option T} (hs : ∀ w ∈ sg, SmQ w) (hl : sg.length ≤ 8) :
    ∃ x7', forRun (bindTg true [7]) (exSs (callD tb n) txB) (sg.map fr) [some (script ns), some t, some (.sh (.int i)), x3, x4, x5, x6, x7, x8, some (.sh (wsD sg)), some (.sh (.str "")), x11, x12, x13] = .nx [some (script ns), some t, some (.sh (.int i)), x3, x4, x5, x6, x7', x8, some (.sh (wsD sg)), some (.sh (.str (Str.join " " (sg.map wtext)))), x11, x12, x13] := by
  obtain ⟨Γ, e, x7', rfl⟩ := for_inv (bind := bindTg true [7]) (body := exSs (callD tb n) txB) (fun j Γ => ∃ x7, Γ = [some (script ns), some t, some (.sh (.int i)), x3, x4, x5, x6, x7, x8, some (.sh (wsD sg)), some (.sh (.str (Str.join " " ((sg.take j).map wtext)))), x11, x12, x13]) (sg.map fr) 0 [some (script ns), some t, some (.sh (.int i)), x3, x4, x5, x6, x7, x8, some (.sh (wsD sg)), some (.sh (.str "")), x11, x12, x13]
    ⟨x7, by rw [List.take_zero, List.map_nil, ← join_nil]⟩ (fun j d Γ hd hI => by
      obtain ⟨x7, rfl⟩ := hI
      rw [Nat.zero_add]
      rw [List.getElem?_map] at hd
      cases hq : sg[j]? with
      | none => rw [hq] at hd; cases hd
      | some q =>
        rw [hq] at hd
        cases hd
        have hsq := hs q (List.mem_of_getElem? hq)
        have hpre : ∀ x ∈ (sg.take j).map wtext, PyData.strOk x = true ∧ x.length ≤ 7 := fun x hx => by
          obtain ⟨w, hw, rfl⟩ := List.mem_map.mp hx
          have := wtext_ok (hs w (List.mem_of_mem_take hw))
          exact ⟨this.1, this.2.2⟩
        have hpre1 : ∀ x ∈ (sg.take j).map wtext, 1 ≤ x.length := fun x hx => by
          obtain ⟨w, hw, rfl⟩ := List.mem_map.mp hx
          exact (wtext_ok (hs w (List.mem_of_mem_take hw))).2.1
        obtain ⟨ok, len⟩ := join_ok (sep := (" " : Str)) (strOk_of _) hpre
        rw [List.length_map, show (Str.ofString " ").length = 1 by decide +kernel] at len
        have htk : (sg.take j).length ≤ 8 := by rw [List.length_take]; omega
        have hg := glue (l := (sg.take j).map wtext) (y := wtext q) hpre1
        have hnext : (sg.take (j + 1)).map wtext = (sg.take j).map wtext ++ [wtext q] := by
          rw [List.take_add_one, hq]
          simp
        rw [hnext, ← hg]
        generalize Str.join " " ((sg.take j).map wtext) = tx at ok len
        have hne := ne_empty ok
        have t1 := tstr_len hsq.n
        have t2 := tstr_len (i := (q.den : Int)) (by have := hsq.d; omega)
        have s1 := bi_str_int (log_small hsq.n)
        have s2 := bi_str_int (log_small (i := (q.den : Int)) (by have := hsq.d; omega))
        generalize (!(tx == "")) = b at hne
        have hm := mul_sp (b := b)
        have hrl := rep_len (b := b)
        generalize strRep " " (if b then 1 else 0) = rp at hm hrl
        have b1 : binT .add (.sh (.str tx)) (.sh (.str rp)) = some (.sh (.str (tx ++ rp))) := binT_str (by omega)
        have b2 : binT .add (.sh (.str (tx ++ rp))) (.sh (.str (tstr q.num))) = some (.sh (.str (tx ++ rp ++ tstr q.num))) := binT_str (by rw [len_app]; omega)
        have hdp := q.den_pos
        by_cases hd1 : q.den = 1
        · have hw : wtext q = tstr q.num := by unfold wtext; rw [if_pos hd1]
          rw [hw]
          refine ⟨[some (script ns), some t, some (.sh (.int i)), x3, x4, x5, x6, some (.sh (fr q)), x8, some (.sh (wsD sg)), some (.sh (.str (tx ++ rp ++ tstr q.num))), x11, x12, x13], ?_, _, rfl⟩
          simp [txB, spure, hne, int_bool, hm, b1, b2, s1, hd1]
        · have hw : wtext q = tstr q.num ++ "/" ++ tstr q.den := by unfold wtext; rw [if_neg hd1]
          have b3 : binT .add (.sh (.str (tx ++ rp ++ tstr q.num))) (.sh (.str "/")) = some (.sh (.str (tx ++ rp ++ tstr q.num ++ "/"))) := binT_str (by rw [len_app, len_app, show (Str.ofString "/").length = 1 by decide +kernel]; omega)
          have b4 : binT .add (.sh (.str (tx ++ rp ++ tstr q.num ++ "/"))) (.sh (.str (tstr q.den))) = some (.sh (.str (tx ++ rp ++ tstr q.num ++ "/" ++ tstr q.den))) := binT_str (by rw [len_app, len_app, len_app, show (Str.ofString "/").length = 1 by decide +kernel]; omega)
          have hres : tx ++ rp ++ wtext q = tx ++ rp ++ tstr q.num ++ "/" ++ tstr q.den := by rw [hw]; simp only [Str.append_assoc]
          rw [hres]
          refine ⟨[some (script ns), some t, some (.sh (.int i)), x3, x4, x5, x6, some (.sh (fr q)), x8, some (.sh (wsD sg)), some (.sh (.str (tx ++ rp ++ tstr q.num ++ "/" ++ tstr q.den))), x11, x12, x13], ?_, _, rfl⟩
          simp [txB, spure, hne, int_bool, hm, b1, b2, s1, show (1 : Int) < q.den by omega, s2, b3, b4])
  rw [List.length_map, Nat.zero_add, List.take_length] at e
  exact ⟨x7', e⟩
/-- the law's text of a survey -/
theorem rw_ok {t : T} {i : Int} {x3 x4 x5 x6 x7 x8 x9 x11 x12 x13 : Option T} (hr : ∀ r ∈ ss :: ps, RowS r) (hp : ps.length ≤ 8) :
    ∃ x11' x12' x13', forRun (bindTg true [11]) (exSs (callD tb n) rwB) ((ss :: ps).map intT) [some (script ns), some t, some (.sh (.int i)), x3, x4, x5, x6, x7, x8, x9, some (.sh (.str "")), x11, x12, x13] = .nx [some (script ns), some t, some (.sh (.int i)), x3, x4, x5, x6, x7, x8, x9, some (.sh (.str (svT ss ps))), x11', x12', x13'] := by
  have hlen9 : (ss :: ps).length ≤ 9 := by simp; omega
  generalize hR : ss :: ps = R at hr hlen9
  obtain ⟨Γ, e, x11', x12', x13', rfl⟩ := for_inv (bind := bindTg true [11]) (body := exSs (callD tb n) rwB) (fun j Γ => ∃ x11 x12 x13, Γ = [some (script ns), some t, some (.sh (.int i)), x3, x4, x5, x6, x7, x8, x9, some (.sh (.str (Str.join "" ((R.take j).map lineT)))), x11, x12, x13]) (R.map intT) 0 [some (script ns), some t, some (.sh (.int i)), x3, x4, x5, x6, x7, x8, x9, some (.sh (.str "")), x11, x12, x13]
    ⟨x11, x12, x13, by rw [List.take_zero, List.map_nil, show Str.join "" [] = ("" : Str) by decide +kernel]⟩ (fun j d Γ hd hI => by
      obtain ⟨x11, x12, x13, rfl⟩ := hI
      rw [Nat.zero_add]
      rw [List.getElem?_map] at hd
      cases hq : R[j]? with
      | none => rw [hq] at hd; cases hd
      | some r =>
        rw [hq] at hd
        cases hd
        have hrr := hr r (List.mem_of_getElem? hq)
        obtain ⟨ro1, ro2, ro3, ro4⟩ := row_ok hrr
        have hpre : ∀ x ∈ (R.take j).map lineT, PyData.strOk x = true ∧ x.length ≤ 13 := fun x hx => by
          obtain ⟨w, hw, rfl⟩ := List.mem_map.mp hx
          have := row_ok (hr w (List.mem_of_mem_take hw))
          exact ⟨this.2.2.1, this.2.2.2⟩
        obtain ⟨ok, len⟩ := join_ok (sep := ("" : Str)) (strOk_of _) hpre
        rw [List.length_map, show (Str.ofString "").length = 0 by decide +kernel] at len
        have htk : (R.take j).length ≤ 9 := by rw [List.length_take]; omega
        have hnext : Str.join "" ((R.take (j + 1)).map lineT) = Str.join "" ((R.take j).map lineT) ++ lineT r := by
          rw [List.take_add_one, hq]
          simp only [Option.toList_some, List.map_append, List.map_cons, List.map_nil]
          rw [join_snoc]
          cases hz : (R.take j).map lineT with
          | nil => exact (empty_app _).symm
          | cons a b =>
            simp only [List.isEmpty_cons, Bool.false_eq_true, if_false]
            rw [show ("" : Str) = Str.empty by decide +kernel, app_empty]
        rw [hnext]
        generalize Str.join "" ((R.take j).map lineT) = tx at ok len
        -- the line
        obtain ⟨Γ2, e2, x13', rfl⟩ := for_inv (bind := bindTg true [13]) (body := exSs (callD tb n) nmB) (fun k Γ => ∃ x13, Γ = [some (script ns), some t, some (.sh (.int i)), x3, x4, x5, x6, x7, x8, x9, some (.sh (.str tx)), some (.sh (intT r)), some (.sh (.str (Str.join " " ((r.take k).map tstr)))), x13]) (r.map PyData.int) 0 [some (script ns), some t, some (.sh (.int i)), x3, x4, x5, x6, x7, x8, x9, some (.sh (.str tx)), some (.sh (intT r)), some (.sh (.str "")), x13]
          ⟨x13, by rw [List.take_zero, List.map_nil, ← join_nil]⟩ (fun k d Γ hd hI => by
            obtain ⟨x13, rfl⟩ := hI
            rw [Nat.zero_add]
            rw [List.getElem?_map] at hd
            cases hv : r[k]? with
            | none => rw [hv] at hd; cases hd
            | some v =>
              rw [hv] at hd
              cases hd
              have hvb := hrr.bd v (List.mem_of_getElem? hv)
              have hpre : ∀ x ∈ (r.take k).map tstr, PyData.strOk x = true ∧ x.length ≤ 3 := fun x hx => by
                obtain ⟨w, hw, rfl⟩ := List.mem_map.mp hx
                exact ⟨strOk_of _, (tstr_len (hrr.bd w (List.mem_of_mem_take hw))).2⟩
              have hpre1 : ∀ x ∈ (r.take k).map tstr, 1 ≤ x.length := fun x hx => by
                obtain ⟨w, hw, rfl⟩ := List.mem_map.mp hx
                exact (tstr_len (hrr.bd w (List.mem_of_mem_take hw))).1
              obtain ⟨ok, len⟩ := join_ok (sep := (" " : Str)) (strOk_of _) hpre
              rw [List.length_map, show (Str.ofString " ").length = 1 by decide +kernel] at len
              have htk : (r.take k).length ≤ 3 := by rw [List.length_take]; have := hrr.len; omega
              have hg := glue (l := (r.take k).map tstr) (y := tstr v) hpre1
              have hnx : (r.take (k + 1)).map tstr = (r.take k).map tstr ++ [tstr v] := by
                rw [List.take_add_one, hv]
                simp
              rw [hnx, ← hg]
              generalize Str.join " " ((r.take k).map tstr) = ln at ok len
              have hne := ne_empty ok
              have t1 := tstr_len hvb
              have s1 := bi_str_int (log_small hvb)
              generalize (!(ln == "")) = b at hne
              have hm := mul_sp (b := b)
              have hrl := rep_len (b := b)
              generalize strRep " " (if b then 1 else 0) = rp at hm hrl
              have b1 : binT .add (.sh (.str ln)) (.sh (.str rp)) = some (.sh (.str (ln ++ rp))) := binT_str (by omega)
              have b2 : binT .add (.sh (.str (ln ++ rp))) (.sh (.str (tstr v))) = some (.sh (.str (ln ++ rp ++ tstr v))) := binT_str (by rw [len_app]; omega)
              refine ⟨[some (script ns), some t, some (.sh (.int i)), x3, x4, x5, x6, x7, x8, x9, some (.sh (.str tx)), some (.sh (intT r)), some (.sh (.str (ln ++ rp ++ tstr v))), some (.sh (.int v))], ?_, _, rfl⟩
              simp [nmB, spure, hne, int_bool, hm, b1, b2, s1])
        rw [List.length_map, Nat.zero_add, List.take_length] at e2
        have b1 : binT .add (.sh (.str tx)) (.sh (.str (Str.join " " (r.map tstr)))) = some (.sh (.str (tx ++ Str.join " " (r.map tstr)))) := binT_str (by omega)
        have b2 : binT .add (.sh (.str (tx ++ Str.join " " (r.map tstr)))) (.sh (.str "\n")) = some (.sh (.str (tx ++ Str.join " " (r.map tstr) ++ "\n"))) := binT_str (by rw [len_app, show (Str.ofString "\n").length = 1 by decide +kernel]; omega)
        have hres : tx ++ lineT r = tx ++ Str.join " " (r.map tstr) ++ "\n" := by unfold lineT; rw [Str.append_assoc]
        rw [hres]
        refine ⟨[some (script ns), some t, some (.sh (.int i)), x3, x4, x5, x6, x7, x8, x9, some (.sh (.str (tx ++ Str.join " " (r.map tstr) ++ "\n"))), some (.sh (intT r)), some (.sh (.str (Str.join " " (r.map tstr)))), x13'], ?_, _, _, _, rfl⟩
        generalize Str.join " " (r.map tstr) = ln at e2 b1 b2
        simp [rwB, spure, sFor, e2, b1, b2])
  rw [List.length_map, Nat.zero_add, List.take_length] at e
  refine ⟨x11', x12', x13', ?_⟩
  rw [e]
  unfold svT
  rw [hR]
theorem turn_ok {t : T} {i : Int} {x3 x4 x5 x6 x7 x8 x9 x10 x11 x12 x13 : Option T} {L : Nat} (hn : 14 ≤ n) (hns : ns.length ≤ 63) (st : StOk L t) (hL : L + 300 ≤ 10000) :
    ∃ t' y3 y4 y5 y6 y7 y8 y9 y10 y11 y12 y13, exSs (callD tb n) body [some (script ns), some t, some (.sh (.int i)), x3, x4, x5, x6, x7, x8, x9, x10, x11, x12, x13] = .nx [some (script ns), some t', some (.sh (.int i)), y3, y4, y5, y6, y7, y8, y9, y10, y11, y12, y13] ∧ StOk (L + 300) t' := by
  obtain ⟨ss, ps, t1, e1, sv, s1⟩ := survey_ok (tb := tb) (n := n) (ns := ns) (most := 8) (t := t) rfl rfl (by omega) hns st (by omega) (by omega) (by omega)
  have e1 : callD tb n 8 [script ns, t, .sh (.int 8)] = .ok (.sh (svD ss ps)) [t1] := e1
  have hpm := sv.pm
  obtain ⟨ws, t2, e2, l2, w2, s2⟩ := law_weights_rat (tb := tb) (n := n) (ns := ns) (ss := ss) (ps := ps) (t := t1) rfl rfl rfl (by omega) hns s1 (by omega) (by omega)
  have dw : DW ps ws := ⟨l2, w2⟩
  -- the effective size
  have e3 := law_total_okT (tb := tb) (n := n) (dw.b1 (by omega)) (by omega) rfl rfl rfl (by omega)
  have e4 := law_total_ok (tb := tb) (n := n) (dw.b2 (by omega)) (by omega) rfl rfl rfl (by omega)
  have k1 : ∀ x5 x6 x7 x8 x9 x10 x11 x12 x13, lcK (callD tb n) (.call 71 (.cons (.var 7) (.cons (.var 7) .nil))) [7] true .tt [7] false (ws.map fr) [some (script ns), some t2, some (.sh (.int i)), some (.sh (svD ss ps)), some (.sh (wsD ws)), x5, x6, x7, x8, x9, x10, x11, x12, x13] = .ok (.t (ol ((ws.map fun w => w * w).map fr))) [some (script ns), some t2, some (.sh (.int i)), some (.sh (svD ss ps)), some (.sh (wsD ws)), x5, x6, x7, x8, x9, x10, x11, x12, x13] := fun x5 x6 x7 x8 x9 x10 x11 x12 x13 => by
    rw [lcK_map _ (fun d => match d with | .tuple [.int a, .int b] => fr (Rat.divInt a b * Rat.divInt a b) | d => d) (by simp; omega) fun d hd => ?_]
    · congr 3
      rw [List.map_map, List.map_map]
      refine List.map_congr_left fun w _ => ?_
      show fr (Rat.divInt w.num w.den * Rat.divInt w.num w.den) = _
      rw [Rat.num_divInt_den]
      rfl
    · obtain ⟨w, hw', rfl⟩ := List.mem_map.mp hd
      have hb := (dw.b1 (by omega)).1 w hw'
      have e := law_times_ok (tb := tb) (n := n) hb hb (by omega) rfl rfl (by omega)
      simp [e, Rat.num_divInt_den]
  have e5 := effective_ok (n := n) sv dw (by omega)
  have e6 : callD tb n 48 [.sh (fr (effQ ws)), .sh (fr (effQ ws))] = .ok (.sh (.bool true)) [] := by
    obtain ⟨m, rfl⟩ : ∃ m, n = m + 2 := ⟨n - 2, by omega⟩
    exact same_fr rfl
  have bo := BtS.all (dw.b1 (by omega))
  have bs := BtS.all (dw.b2 (by omega))
  have hsn : 0 ≤ qsum (ws.map fun w => w * w) := qsum_nonneg fun q hq => by
    obtain ⟨w, hw, rfl⟩ := List.mem_map.mp hq
    exact Rat.mul_nonneg (w2 w hw).1 (w2 w hw).1
  have due : ∀ Γ8 : Z.Env, (qsum (ws.map fun w => w * w) = 0 → fr (effQ ws) = .tuple [.int 0, .int 1]) ∧ (qsum (ws.map fun w => w * w) ≠ 0 → callD tb n 29 [.sh (.int ((qsum ws).num * (qsum ws).num * (qsum (ws.map fun w => w * w)).den)), .sh (.int ((qsum ws).den * (qsum ws).den * (qsum (ws.map fun w => w * w)).num))] = .ok (.sh (fr (effQ ws))) []) := fun _ => by
    refine ⟨fun hz => ?_, fun hz => ?_⟩
    · unfold effQ
      rw [if_pos hz]
      rfl
    · unfold effQ
      rw [if_neg hz]
      generalize qsum (ws.map fun w => w * w) = s at *
      generalize qsum ws = o at *
      have hb : (o.num * o.num * s.den).natAbs < 2 ^ (10 + 10 + 16) := by
        rw [Int.natAbs_mul, Int.natAbs_mul, Nat.pow_add, Nat.pow_add]
        exact Nat.mul_lt_mul'' (Nat.mul_lt_mul'' bo.1 bo.1) (by simpa using bs.2)
      have hnz : (o.den : Int) * (o.den : Int) * s.num ≠ 0 := Int.mul_ne_zero (den_ne o o) (num_ne hz)
      have e := law_fraction_ok (tb := tb) (n := n) (a := o.num * o.num * s.den) (b := (o.den : Int) * (o.den : Int) * s.num) hnz hb (by omega) rfl (by omega)
      rw [fr_low hnz] at e
      have hq : Rat.divInt (o.num * o.num * s.den) ((o.den : Int) * (o.den : Int) * s.num) = o * o / s := by
        rw [← Rat.divInt_mul_divInt, mul_low, Rat.div_def, Rat.inv_def]
      rw [hq] at e
      exact e
  -- signs
  obtain ⟨xs, Γ2, e7, l7, r7, t3, rfl, s3⟩ := lcK_inv (callD tb n) (elt := .ite (.cmp .eq (.call 5 (.cons (.var 0) (.cons (.io 1) (.cons (.num 3) .nil)))) (.num 0)) (.tup (.cons (.neg (.ix (.var 7) (.num 0))) (.cons (.ix (.var 7) (.num 1)) .nil))) (.var 7)) (tg := [7]) (one := true) (c := .tt) (vs := [7]) (ds := ws.map fr) (Γ := [some (script ns), some t2, some (.sh (.int i)), some (.sh (svD ss ps)), some (.sh (wsD ws)), some (.sh (fr (qsum ws))), some (.sh (fr (qsum (ws.map fun w => w * w)))), x7, some (.sh (fr (effQ ws))), x9, x10, x11, x12, x13])
    (fun j Γ => ∃ t', Γ = [some (script ns), some t', some (.sh (.int i)), some (.sh (svD ss ps)), some (.sh (wsD ws)), some (.sh (fr (qsum ws))), some (.sh (fr (qsum (ws.map fun w => w * w)))), none, some (.sh (fr (effQ ws))), x9, x10, x11, x12, x13] ∧ StOk (L + 100 + 2 * j) t') (fun _ x => ∃ q : Rat, x = fr q ∧ SmQ q) (by simp; omega) ⟨t2, rfl, s2.mono (by omega)⟩ (fun j d Γ hj hi => by
      obtain ⟨t', rfl, st⟩ := hi
      have hj2 : j < ws.length := by simpa using (List.getElem?_eq_some_iff.mp hj).1
      obtain ⟨w, hw, rfl⟩ := List.mem_map.mp (List.mem_of_getElem? hj)
      have hsw := smq_of (w2 w hw).2
      obtain ⟨v, t'', e, a, b, s'⟩ := ev_draw (tb := tb) (n := n) (ns := ns) (Γ := [some (script ns), some t', some (.sh (.int i)), some (.sh (svD ss ps)), some (.sh (wsD ws)), some (.sh (fr (qsum ws))), some (.sh (fr (qsum (ws.map fun w => w * w)))), some (.sh (fr w)), some (.sh (fr (effQ ws))), x9, x10, x11, x12, x13]) (e := .num 3) (k0 := 0) (k1 := 1) (many := 3) rfl (by omega) hns rfl rfl (by simp) rfl st (by omega) (by omega)
      simp at e
      by_cases hv : v = 0
      · subst hv
        refine ⟨fr (-w), [some (script ns), some t'', some (.sh (.int i)), some (.sh (svD ss ps)), some (.sh (wsD ws)), some (.sh (fr (qsum ws))), some (.sh (fr (qsum (ws.map fun w => w * w)))), none, some (.sh (fr (effQ ws))), x9, x10, x11, x12, x13], ?_, ⟨-w, rfl, ⟨by rw [Rat.neg_num, Int.natAbs_neg]; exact hsw.n, by rw [Rat.neg_den]; exact hsw.d⟩⟩, t'', rfl, s'⟩
        simp [e, spure, Rat.neg_num, Rat.neg_den]
      · refine ⟨fr w, [some (script ns), some t'', some (.sh (.int i)), some (.sh (svD ss ps)), some (.sh (wsD ws)), some (.sh (fr (qsum ws))), some (.sh (fr (qsum (ws.map fun w => w * w)))), none, some (.sh (fr (effQ ws))), x9, x10, x11, x12, x13], ?_, ⟨w, rfl, hsw⟩, t'', rfl, s'⟩
        simp [e, spure, hv])
  have hsg : ∀ (xs : List D), (∀ x ∈ xs, ∃ q : Rat, x = fr q ∧ SmQ q) → ∃ sg : List Rat, xs = sg.map fr ∧ ∀ q ∈ sg, SmQ q := by
    intro xs
    induction xs with
    | nil => intro _; exact ⟨[], rfl, fun w h => by cases h⟩
    | cons x xs ih =>
      intro h
      obtain ⟨q, rfl, hq⟩ := h x List.mem_cons_self
      obtain ⟨sg, rfl, hsg⟩ := ih fun y hy => h y (List.mem_cons_of_mem _ hy)
      refine ⟨q :: sg, rfl, fun w hw => ?_⟩
      rcases List.mem_cons.mp hw with rfl | hw
      · exact hq
      · exact hsg w hw
  obtain ⟨sg, rfl, hq⟩ := hsg xs fun x hx => by
    obtain ⟨d, _, r⟩ := rel_all (by simpa using l7) r7 x hx
    exact r
  rw [List.length_map, List.length_map] at l7
  rw [List.length_map] at s3
  obtain ⟨x7', e8⟩ := tx_ok (n := n) (ns := ns) (t := t3) (i := i) (sg := sg) (x3 := some (.sh (svD ss ps))) (x4 := some (.sh (wsD ws))) (x5 := some (.sh (fr (qsum ws)))) (x6 := some (.sh (fr (qsum (ws.map fun w => w * w))))) (x7 := x7) (x8 := some (.sh (fr (effQ ws)))) (x11 := x11) (x12 := x12) (x13 := x13) hq (by omega)
  have e9 := format_weights_ok (n := n) (ws := sg) sv (by omega) (fun _ w hw => txq_of (hq w hw)) (by omega)
  have hnl : sg.any longQ = false := by
    rw [List.any_eq_false]
    intro w hw
    rw [not_long (hq w hw)]
    exact Bool.false_ne_true
  rw [hnl] at e9
  simp only [Bool.false_eq_true, if_false] at e9
  have hX := (join_ok (sep := (" " : Str)) (strOk_of _) (c := 7) (l := sg.map wtext) fun x hx => by
    obtain ⟨w, hw, rfl⟩ := List.mem_map.mp hx
    have := wtext_ok (hq w hw)
    exact ⟨this.1, this.2.2⟩).1
  have ne_self : ∀ x : Str, PyData.strOk x = true → cmpD .ne (.str x) (.str x) = some false := fun x h => by
    rw [cmpD_ne (fine_str h) (fine_str h)]
    show some (!(x == x)) = _
    rw [beq_self_eq_true]
    rfl
  have n1 := ne_self _ hX
  generalize Str.join " " (sg.map wtext) = X at e8 e9 n1
  obtain ⟨y11, y12, y13, e10⟩ := rw_ok (n := n) (ns := ns) (t := t3) (i := i) (x3 := some (.sh (svD ss ps))) (x4 := some (.sh (wsD ws))) (x5 := some (.sh (fr (qsum ws)))) (x6 := some (.sh (fr (qsum (ws.map fun w => w * w))))) (x7 := x7') (x8 := some (.sh (fr (effQ ws)))) (x9 := some (.sh (wsD sg))) (x11 := x11) (x12 := x12) (x13 := x13) (rows_sv sv) sv.pm
  have e11 := format_survey_ok (n := n) sv (by omega)
  have hY := (join_ok (sep := ("" : Str)) (strOk_of _) (c := 13) (l := (ss :: ps).map lineT) fun x hx => by
    obtain ⟨r, hr, rfl⟩ := List.mem_map.mp hx
    have := row_ok (rows_sv sv r hr)
    exact ⟨this.2.2.1, this.2.2.2⟩).1
  have n2 := ne_self _ hY
  have n2 : cmpD .ne (.str (svT ss ps)) (.str (svT ss ps)) = some false := n2
  generalize svT ss ps = Y at e10 e11 n2
  have e12 := refused_ok (n := n) sv dw (by omega)
  have hcat : binT .add (.sh (.tuple [intT ss])) (.sh (.tuple (ps.map intT))) = some (.sh (.tuple (intT ss :: ps.map intT))) := binT_tup (by simp; omega)
  simp only [List.map_cons] at e10
  obtain ⟨d1, d2⟩ := due []
  simp only [txB] at e8
  simp only [rwB, nmB] at e10
  obtain ⟨m1, m2, m3, m4, m5⟩ := mulOk_num bo bo (by omega)
  have o1 : (qsum ws).num.natAbs < 2 ^ 10 := bo.1
  have mm1 : mulOk ((qsum ws).num * (qsum ws).num) (qsum (ws.map fun w => w * w)).den = true := mulOk_lt (k := 10 + 10) (l := 16) (by rw [Int.natAbs_mul, Nat.pow_add]; exact Nat.mul_lt_mul'' bo.1 bo.1) (by simpa using bs.2) (by omega)
  have mm2 : mulOk ((qsum ws).den * (qsum ws).den) (qsum (ws.map fun w => w * w)).num = true := mulOk_lt (k := 10 + 10) (l := 16) (by rw [Int.natAbs_mul, Nat.pow_add]; exact Nat.mul_lt_mul'' (by simpa using bo.2) (by simpa using bo.2)) bs.1 (by omega)
  have hnn := Rat.num_nonneg.mpr hsn
  refine ⟨t3, some (.sh (svD ss ps)), some (.sh (wsD ws)), some (.sh (fr (qsum ws))), some (.sh (fr (qsum (ws.map fun w => w * w)))), x7', some (.sh (fr (effQ ws))), some (.sh (wsD sg)), some (.sh (.str Y)), y11, y12, y13, ?_, s3.mono (by omega)⟩
  generalize hqs : (ws.map fun w => w * w) = qs at *
  generalize qsum qs = s at *
  generalize qsum ws = o at *
  generalize hE : effQ ws = E at *
  simp at e7
  by_cases hz : s = 0
  · have hnum : s.num = 0 := by rw [hz]; rfl
    have hd := d1 hz
    simp only [hd] at e5 e6 e7 e8 e10 ⊢
    simp [body, b_law_29, e1, e2, e3, ev_lc, k1, e4, spure, hnum, e5, e6, e7, sFor, e8, e9, n1, hcat, e10, e11, n2, e12]
  · have hpos : 0 < s.num := by have := num_ne hz; omega
    have hd := d2 hz
    simp [body, b_law_29, e1, e2, e3, ev_lc, k1, e4, spure, hpos, binI_mul, m3, m4, mm1, mm2, hd, e5, e6, e7, sFor, e8, e9, n1, hcat, e10, e11, n2, e12]
theorem law_ok (hn : 15 ≤ n) (hns : ns.length ≤ 63) : callD tb n 258 [script ns] = .ok (.sh (.bool true)) [] := by
  obtain ⟨n, rfl⟩ : ∃ m, n = m + 1 := ⟨n - 1, by omega⟩
  rw [callD_of (d := d_law_29) rfl rfl]
  obtain ⟨Γ', e, t', x2, y3, y4, y5, y6, y7, y8, y9, y10, y11, y12, y13, rfl, st⟩ := for_inv (bind := bindTg true [2]) (body := exSs (callD tb n) body) (fun j Γ => ∃ t' x2 y3 y4 y5 y6 y7 y8 y9 y10 y11 y12 y13, Γ = [some (script ns), some t', x2, y3, y4, y5, y6, y7, y8, y9, y10, y11, y12, y13] ∧ StOk (300 * j) t') (rngD 0 9) 0 [some (script ns), some (ol []), none, none, none, none, none, none, none, none, none, none, none, none]
    ⟨_, none, none, none, none, none, none, none, none, none, none, none, none, rfl, stOk_nil⟩ (fun j d Γ hj hi => by
      obtain ⟨t', x2, y3, y4, y5, y6, y7, y8, y9, y10, y11, y12, y13, rfl, st⟩ := hi
      obtain ⟨rfl, hj2⟩ := rng_get' hj
      rw [Nat.zero_add] at st ⊢
      obtain ⟨t'', z3, z4, z5, z6, z7, z8, z9, z10, z11, z12, z13, e, s'⟩ := turn_ok (n := n) (ns := ns) (i := 0 + j) (x3 := y3) (x4 := y4) (x5 := y5) (x6 := y6) (x7 := y7) (x8 := y8) (x9 := y9) (x10 := y10) (x11 := y11) (x12 := y12) (x13 := y13) (by omega) hns st (by omega)
      exact ⟨_, by simpa using e, t'', some (.sh (.int (0 + j))), z3, z4, z5, z6, z7, z8, z9, z10, z11, z12, z13, by simp, s'.mono (by omega)⟩)
  simp only [body, b_law_29] at e
  simp [d_law_29, b_law_29, startE, outsOf, ioIx, sFor, e]
end K29
theorem PySem.Challenge.cw_surveyweights_k29_sizes_and_texts_by_han_holds : PySem.Challenge.rw_surveyweights_k29_sizes_and_texts_by_han.Holds :=
  K29.holds fun ns h => K29.law_ok (by omega) h
