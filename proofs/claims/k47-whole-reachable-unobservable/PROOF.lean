import PyProof.Rows.All
import Wide.All
import OpenK.AllK
import Wide.FinOn
import HandS.ForMost
import HandS.Defaults
import KE.KStateDown
import HandS.Exc
import HandS.Codes
import HandS.Head0
import HandS.Head1
import HandS.Head2
import HandS.Head3
import HandS.HeadEnd
import HandS.HeadHook1
import HandS.HeadHook2
import HandS.EndBits
import HandS.OwnEq
import HandS.IsInst
import HandS.Walk
import HandS.Zip
import HandS.TupAny
import HandS.Conv
import HandS.Deep
import KE.GoesNew
import KE.GoesMore
import HandS.CallRecv
import HandS.DictTup
import HandS.TupSets
import HandS.SortOrd
import KE.KDictDisplayH
import PySem.Challenge.RW_similarforms_k47_whole_reachable_and_uno
set_option Elab.async false
set_option linter.all false
set_option maxRecDepth 100000
set_option maxHeartbeats 0
/-! text M1 -/
namespace K47
/-- a finite field, as far as it is wanted -/
class Fld (F : Type) extends Lean.Grind.CommRing F where
  inv : F → F
  inv_mul : ∀ x : F, x ≠ 0 → inv x * x = 1
  all : List F
  all_nodup : all.Nodup
  mem_all : ∀ x, x ∈ all
  one_ne : (1 : F) ≠ 0
section
variable {F : Type} [Fld F]
abbrev Vec (F : Type) := Nat → F
inductive Span (S : List (Vec F)) : Vec F → Prop where
  | zero {v : Vec F} (h : ∀ i, v i = 0) : Span S v
  | step {v r u : Vec F} (a : F) (hv : Span S v) (hr : r ∈ S) (h : ∀ i, u i = v i + a * r i) : Span S u
theorem Span.congr {S : List (Vec F)} {u v : Vec F} (h : Span S v) (e : ∀ i, u i = v i) : Span S u := by
  have : u = v := funext e
  rw [this]; exact h
theorem Span.lin {S : List (Vec F)} {u v w : Vec F} (a : F) (hu : Span S u) (hv : Span S v) (h : ∀ i, w i = u i + a * v i) : Span S w := by
  induction hv generalizing w with
  | zero hz => exact hu.congr fun i => by rw [h i, hz i]; grind
  | @step v r x b _ hr hx ih =>
    have h1 : Span S (fun i => u i + a * v i) := ih fun _ => rfl
    exact .step (a * b) h1 hr fun i => by rw [h i, hx i]; grind
theorem Span.mem {S : List (Vec F)} {r : Vec F} (h : r ∈ S) : Span S r :=
  .step 1 (.zero (v := fun _ => 0) fun _ => rfl) h fun i => by grind
theorem Span.smul {S : List (Vec F)} {u w : Vec F} (a : F) (hu : Span S u) (h : ∀ i, w i = a * u i) : Span S w :=
  Span.lin a (.zero (v := fun _ => 0) fun _ => rfl) hu fun i => by rw [h i]; grind
theorem Span.trans {S T : List (Vec F)} {v : Vec F} (h : ∀ r ∈ S, Span T r) (hv : Span S v) : Span T v := by
  induction hv with
  | zero hz => exact .zero hz
  | step a _ hr hx ih => exact Span.lin a ih (h _ hr) hx
theorem Span.mono {S T : List (Vec F)} {v : Vec F} (h : ∀ r ∈ S, r ∈ T) (hv : Span S v) : Span T v := Span.trans (fun r hr => .mem (h r hr)) hv
/-- a linear map -/
structure Lin (T : Vec F → Vec F) : Prop where
  zero : ∀ u, (∀ i, u i = 0) → ∀ i, T u i = 0
  lin : ∀ (a : F) (u v w : Vec F), (∀ i, w i = u i + a * v i) → ∀ i, T w i = T u i + a * T v i
theorem Span.map {S R : List (Vec F)} {T : Vec F → Vec F} (hT : Lin T) {v : Vec F} (h : ∀ r ∈ S, Span R (T r)) (hv : Span S v) : Span R (T v) := by
  induction hv with
  | zero hz => exact .zero (hT.zero _ hz)
  | step a _ hr hx ih => exact Span.lin a ih (h _ hr) (hT.lin a _ _ _ hx)
theorem Span.cons_iff {S : List (Vec F)} {r v : Vec F} : Span (r :: S) v ↔ ∃ a u, Span S u ∧ ∀ i, v i = u i + a * r i := by
  constructor
  · intro h
    induction h with
    | @zero v hz => exact ⟨0, fun _ => 0, .zero fun _ => rfl, fun i => by rw [hz i]; grind⟩
    | @step v x u b _ hr hx ih =>
      obtain ⟨a, y, hy, e⟩ := ih
      rcases List.mem_cons.mp hr with z | z
      · subst z
        exact ⟨a + b, y, hy, fun i => by rw [hx i, e i]; grind⟩
      · exact ⟨a, fun i => y i + b * x i, Span.step b hy z fun _ => rfl, fun i => by rw [hx i, e i]; grind⟩
  · rintro ⟨a, u, hu, e⟩
    exact .step a (hu.mono fun r hr => List.mem_cons_of_mem _ hr) List.mem_cons_self e
theorem Span.nil_iff {v : Vec F} : Span ([] : List (Vec F)) v ↔ ∀ i, v i = 0 := by
  constructor
  · intro h
    cases h with
    | zero h => exact h
    | step a hv hr h => cases hr
  · exact .zero
/-- what vanishes on all of S vanishes on its span -/
theorem Span.vanish {S : List (Vec F)} {v : Vec F} (hv : Span S v) {j : Nat} (h : ∀ r ∈ S, r j = 0) : v j = 0 := by
  induction hv with
  | zero hz => exact hz j
  | step a _ hr hx ih => rw [hx j, ih, h _ hr]; grind

/-! ### rows -/
abbrev Row (F : Type) := List F
def tl (l : Row F) : Vec F := fun i => l.getD i 0
theorem tl_def (l : Row F) (i : Nat) : tl l i = l.getD i 0 := rfl
theorem tl_out {l : Row F} {i : Nat} (h : l.length ≤ i) : tl l i = 0 := by
  unfold tl
  rw [List.getD_eq_getElem?_getD, List.getElem?_eq_none h]; rfl
theorem tl_inj {l m : Row F} (hl : l.length = m.length) (h : ∀ i, tl l i = tl m i) : l = m := by
  refine List.ext_getElem hl fun i h1 h2 => ?_
  have := h i
  unfold tl at this
  rw [List.getD_eq_getElem?_getD, List.getD_eq_getElem?_getD, List.getElem?_eq_getElem h1, List.getElem?_eq_getElem h2] at this
  exact this
theorem tl_zip {f : F → F → F} (hf : f 0 0 = 0) : ∀ {l m : Row F}, l.length = m.length → ∀ i, tl (List.zipWith f l m) i = f (tl l i) (tl m i)
  | [], [], _, i => by simp [tl, hf]
  | a :: l, b :: m, h, 0 => by simp [tl]
  | a :: l, b :: m, h, i + 1 => by
    have := tl_zip (f := f) hf (l := l) (m := m) (by simpa using h) i
    simpa [tl] using this
theorem tl_map {f : F → F} (hf : f 0 = 0) : ∀ {l : Row F} (i : Nat), tl (l.map f) i = f (tl l i)
  | [], i => by simp [tl, hf]
  | a :: l, 0 => by simp [tl]
  | a :: l, i + 1 => by
    have := tl_map (f := f) hf (l := l) i
    simpa [tl] using this
theorem tl_range {n : Nat} (f : Nat → F) (i : Nat) : tl ((List.range n).map f) i = if i < n then f i else 0 := by
  unfold tl
  rw [List.getD_eq_getElem?_getD, List.getElem?_map]
  by_cases h : i < n
  · rw [if_pos h, List.getElem?_range h]; rfl
  · rw [if_neg h, List.getElem?_eq_none (by simpa using h)]; rfl
theorem tl_app (l m : Row F) (i : Nat) : tl (l ++ m) i = if i < l.length then tl l i else tl m (i - l.length) := by
  unfold tl
  rw [List.getD_eq_getElem?_getD, List.getD_eq_getElem?_getD, List.getD_eq_getElem?_getD]
  split
  · rename_i h
    rw [List.getElem?_append_left h]
  · rename_i h
    rw [List.getElem?_append_right (by omega)]
theorem tl_drop (l : Row F) (k i : Nat) : tl (l.drop k) i = tl l (k + i) := by
  unfold tl
  rw [List.getD_eq_getElem?_getD, List.getD_eq_getElem?_getD, List.getElem?_drop]
/-- the span of rows -/
abbrev RSpan (S : List (Row F)) (v : Vec F) : Prop := Span (S.map tl) v
theorem RSpan.mem {S : List (Row F)} {r : Row F} (h : r ∈ S) : RSpan S (tl r) := Span.mem (List.mem_map_of_mem h)
theorem RSpan.trans {S : List (Row F)} {T : List (Vec F)} {v : Vec F} (h : ∀ r ∈ S, Span T (tl r)) (hv : RSpan S v) : Span T v :=
  Span.trans (fun r hr => by obtain ⟨x, hx, e⟩ := List.mem_map.mp hr; rw [← e]; exact h x hx) hv
theorem RSpan.out {S : List (Row F)} {v : Vec F} {L : Nat} (hl : ∀ r ∈ S, r.length = L) (hv : RSpan S v) {j : Nat} (hj : L ≤ j) : v j = 0 :=
  Span.vanish hv fun r hr => by obtain ⟨x, hx, e⟩ := List.mem_map.mp hr; rw [← e]; exact tl_out (by rw [hl x hx]; exact hj)

/-! ### reduced rows, with their pivots -/
abbrev PRow (F : Type) := Row F × Nat
structure Rr (ps : List (PRow F)) : Prop where
  lead : ∀ a ∈ ps, tl a.1 a.2 = 1 ∧ ∀ j, j < a.2 → tl a.1 j = 0
  pw : ps.Pairwise fun a b => a.2 < b.2 ∧ tl a.1 b.2 = 0
def expd : List (PRow F) → Vec F → Vec F
  | [], _ => fun _ => 0
  | a :: ps, v => fun i => v a.2 * tl a.1 i + expd ps v i
theorem expd_lin (a : F) (u v w : Vec F) (h : ∀ i, w i = u i + a * v i) : ∀ (ps : List (PRow F)) (i : Nat), expd ps w i = expd ps u i + a * expd ps v i
  | [], i => by simp only [expd]; grind
  | p :: ps, i => by simp only [expd]; rw [expd_lin a u v w h ps i, h p.2]; grind
theorem expd_zero {v : Vec F} : ∀ (ps : List (PRow F)), (∀ a ∈ ps, v a.2 = 0) → ∀ i, expd ps v i = 0
  | [], _, i => rfl
  | p :: ps, h, i => by
    simp only [expd]
    rw [expd_zero ps (fun a ha => h a (List.mem_cons_of_mem _ ha)) i, h p List.mem_cons_self]
    grind
theorem Rr.tail {p : PRow F} {ps : List (PRow F)} (h : Rr (p :: ps)) : Rr ps := ⟨fun a ha => h.lead a (List.mem_cons_of_mem _ ha), (List.pairwise_cons.mp h.pw).2⟩
theorem Rr.head {p : PRow F} {ps : List (PRow F)} (h : Rr (p :: ps)) : ∀ b ∈ ps, p.2 < b.2 ∧ tl p.1 b.2 = 0 ∧ tl b.1 p.2 = 0 := fun b hb =>
  have z := (List.pairwise_cons.mp h.pw).1 b hb
  ⟨z.1, z.2, (h.lead b (List.mem_cons_of_mem _ hb)).2 _ z.1⟩
theorem expd_self : ∀ {ps : List (PRow F)}, Rr ps → ∀ b ∈ ps, ∀ i, expd ps (tl b.1) i = tl b.1 i
  | [], _, b, hb, i => by cases hb
  | p :: ps, h, b, hb, i => by
    simp only [expd]
    rcases List.mem_cons.mp hb with z | z
    · subst z
      rw [(h.lead b List.mem_cons_self).1, expd_zero ps (fun a ha => (h.head a ha).2.1) i]
      grind
    · rw [(h.head b z).2.2, expd_self h.tail b z i]
      grind
theorem expd_span {ps : List (PRow F)} (h : Rr ps) {v : Vec F} (hv : RSpan (ps.map (·.1)) v) : ∀ i, v i = expd ps v i := by
  induction hv with
  | @zero v hz => exact fun i => by rw [hz i, expd_zero ps (fun a _ => hz _) i]
  | @step v r u a _ hr hx ih =>
    intro i
    obtain ⟨x, hx', e⟩ := List.mem_map.mp hr
    obtain ⟨b, hb, e'⟩ := List.mem_map.mp hx'
    subst e'; subst e
    rw [expd_lin a _ _ _ hx ps i, ← ih i, expd_self h b hb i, hx i]
theorem expd_in {S : List (Vec F)} {v : Vec F} : ∀ {ps : List (PRow F)}, (∀ a ∈ ps, v a.2 = 0 ∨ Span S (tl a.1)) → Span S (expd ps v)
  | [], _ => .zero fun _ => rfl
  | p :: ps, h => by
    have ih := expd_in (ps := ps) fun a ha => h a (List.mem_cons_of_mem _ ha)
    rcases h p List.mem_cons_self with z | z
    · exact ih.congr fun i => by simp only [expd]; rw [z]; grind
    · exact Span.lin (v p.2) ih z fun i => by simp only [expd]; grind
theorem expd_ne {v : Vec F} {i : Nat} : ∀ {ps : List (PRow F)}, expd ps v i ≠ 0 → ∃ b ∈ ps, v b.2 ≠ 0 ∧ tl b.1 i ≠ 0
  | [], h => (h rfl).elim
  | p :: ps, h => by
    by_cases e : expd ps v i = 0
    · refine ⟨p, List.mem_cons_self, fun z => h ?_, fun z => h ?_⟩
      · simp only [expd]; rw [e, z]; grind
      · simp only [expd]; rw [e, z]; grind
    · obtain ⟨b, hb, z⟩ := expd_ne e
      exact ⟨b, List.mem_cons_of_mem _ hb, z⟩
theorem Rr.nodup {ps : List (PRow F)} (h : Rr ps) : ps.Nodup := h.pw.imp fun {a b} z e => by subst e; exact Nat.lt_irrefl _ z.1
/-- another row has 0 at a pivot -/
theorem Rr.other : ∀ {ps : List (PRow F)}, Rr ps → ∀ a ∈ ps, ∀ b ∈ ps, a.2 ≠ b.2 → tl a.1 b.2 = 0
  | p :: ps, h, a, ha, b, hb, ne => by
    rcases List.mem_cons.mp ha with z | z
    · rcases List.mem_cons.mp hb with y | y
      · subst z; subst y; exact (ne rfl).elim
      · subst z; exact (h.head b y).2.1
    · rcases List.mem_cons.mp hb with y | y
      · subst y; exact (h.head a z).2.2
      · exact Rr.other h.tail a z b y ne
theorem pivot_in {ps qs : List (PRow F)} (h : Rr ps) (g : Rr qs) (e : ∀ v : Vec F, RSpan (ps.map (·.1)) v → RSpan (qs.map (·.1)) v) : ∀ a ∈ ps, ∃ b ∈ qs, b.2 = a.2 := fun a ha => by
  have h1 := expd_span g (e _ (RSpan.mem (List.mem_map_of_mem (f := (·.1)) ha))) a.2
  have ⟨l1, l2⟩ := h.lead a ha
  obtain ⟨b, hb, n1, n2⟩ := expd_ne (ps := qs) (v := tl a.1) (i := a.2) (by rw [← h1, l1]; exact Fld.one_ne)
  refine ⟨b, hb, ?_⟩
  rcases Nat.lt_trichotomy b.2 a.2 with z | z | z
  · exact (n1 (l2 _ z)).elim
  · exact z
  · exact (n2 ((g.lead b hb).2 _ z)).elim
theorem rr_sub {ps qs : List (PRow F)} {L : Nat} (h : Rr ps) (g : Rr qs) (hl : ∀ a ∈ ps, a.1.length = L) (gl : ∀ a ∈ qs, a.1.length = L) (e : ∀ v : Vec F, RSpan (ps.map (·.1)) v ↔ RSpan (qs.map (·.1)) v) : ∀ a ∈ ps, a ∈ qs := fun a ha => by
  obtain ⟨b, hb, eb⟩ := pivot_in h g (fun v => (e v).mp) a ha
  have ea : a = b := by
    refine Prod.ext (tl_inj (by rw [hl a ha, gl b hb]) fun i => ?_) eb.symm
    have hd : RSpan (ps.map (·.1)) (fun i => tl a.1 i + (-1) * tl b.1 i) :=
      Span.lin (-1) (RSpan.mem (List.mem_map_of_mem (f := (·.1)) ha)) ((e _).mpr (RSpan.mem (List.mem_map_of_mem (f := (·.1)) hb))) fun _ => rfl
    have hx := expd_span h hd i
    rw [expd_zero ps (fun c hc => ?_) i] at hx
    · grind
    · show tl a.1 c.2 + (-1) * tl b.1 c.2 = 0
      by_cases ec : a.2 = c.2
      · rw [← ec, (h.lead a ha).1, ← eb, (g.lead b hb).1]; grind
      · obtain ⟨c', hc', ec'⟩ := pivot_in h g (fun v => (e v).mp) c hc
        rw [h.other a ha c hc ec, ← ec', g.other b hb c' hc' (by rw [eb, ec']; exact ec)]; grind
  rw [ea]; exact hb
/-- a span has one reduced form -/
theorem rr_unique {ps qs : List (PRow F)} {L : Nat} (h : Rr ps) (g : Rr qs) (hl : ∀ a ∈ ps, a.1.length = L) (gl : ∀ a ∈ qs, a.1.length = L) (e : ∀ v : Vec F, RSpan (ps.map (·.1)) v ↔ RSpan (qs.map (·.1)) v) : ps = qs := by
  have pm : ps.Perm qs := (List.perm_ext_iff_of_nodup h.nodup g.nodup).mpr fun a => ⟨rr_sub h g hl gl e a, rr_sub g h gl hl (fun v => (e v).symm) a⟩
  exact List.Perm.eq_of_pairwise (le := fun a b => a.2 < b.2) (fun a b _ _ x y => (Nat.lt_irrefl _ (Nat.lt_trans x y)).elim) (h.pw.imp fun z => z.1) (g.pw.imp fun z => z.1) pm
end
end K47

/-! text M2 -/
namespace K47
section
variable {F : Type} [Fld F] [DecidableEq F]
/-- a row less the multiple of another one -/
def lessR (row own : Row F) (c : Nat) : Row F := if tl row c = 0 then row else List.zipWith (fun x y => x - tl row c * y) row own
def placesR (rest : List (Row F)) (c : Nat) : List Nat := (List.range rest.length).filter fun i => !decide (tl (rest.getD i []) c = 0)
structure RedSt (F : Type) where
  rest : List (Row F)
  fp : List (PRow F)
def redStep (st : RedSt F) (c : Nat) : RedSt F :=
  match placesR st.rest c with
  | [] => st
  | at_ :: _ =>
    let own0 := st.rest.getD at_ []
    let own := own0.map fun x => Fld.inv (tl own0 c) * x
    ⟨(st.rest.take at_ ++ st.rest.drop (at_ + 1)).map fun r => lessR r own c, st.fp.map (fun a => (lessR a.1 own c, a.2)) ++ [(own, c)]⟩
def redGo (rows : List (Row F)) (w : Nat) : RedSt F := (List.range w).foldl redStep ⟨rows, []⟩
def redR (rows : List (Row F)) (w : Nat) : List (PRow F) := (redGo rows w).fp

structure RedInv (L : Nat) (rows : List (Row F)) (st : RedSt F) (c : Nat) : Prop where
  lenR : ∀ r ∈ st.rest, r.length = L
  lenF : ∀ a ∈ st.fp, a.1.length = L
  span : ∀ v, RSpan (st.rest ++ st.fp.map (·.1)) v ↔ RSpan rows v
  zero : ∀ r ∈ st.rest, ∀ j, j < c → tl r j = 0
  rr : Rr st.fp
  lt : ∀ a ∈ st.fp, a.2 < c
  cnt : st.rest.length + st.fp.length = rows.length

theorem tl_less {row own : Row F} {c : Nat} (h : row.length = own.length) (i : Nat) : tl (lessR row own c) i = tl row i - tl row c * tl own i := by
  unfold lessR
  split
  · rename_i e; rw [e]; grind
  · exact tl_zip (f := fun x y => x - tl row c * y) (by grind) h i
theorem len_less {row own : Row F} {c : Nat} (h : row.length = own.length) : (lessR row own c).length = row.length := by
  unfold lessR
  split
  · rfl
  · rw [List.length_zipWith, h, Nat.min_self]
theorem redStep_nil {st : RedSt F} {c : Nat} (h : placesR st.rest c = []) : redStep st c = st := by
  unfold redStep; rw [h]
theorem redStep_cons {st : RedSt F} {c at_ : Nat} {m : List Nat} (h : placesR st.rest c = at_ :: m) : redStep st c =
    ⟨(st.rest.take at_ ++ st.rest.drop (at_ + 1)).map fun r => lessR r ((st.rest.getD at_ []).map fun x => Fld.inv (tl (st.rest.getD at_ []) c) * x) c,
     st.fp.map (fun a => (lessR a.1 ((st.rest.getD at_ []).map fun x => Fld.inv (tl (st.rest.getD at_ []) c) * x) c, a.2)) ++ [((st.rest.getD at_ []).map fun x => Fld.inv (tl (st.rest.getD at_ []) c) * x, c)]⟩ := by
  unfold redStep; rw [h]
theorem placesR_nil {rest : List (Row F)} {c : Nat} (h : placesR rest c = []) : ∀ r ∈ rest, tl r c = 0 := fun r hr => by
  obtain ⟨i, hi, e⟩ := List.getElem_of_mem hr
  have := List.filter_eq_nil_iff.mp h i (List.mem_range.mpr hi)
  rw [List.getD_eq_getElem?_getD, List.getElem?_eq_getElem hi] at this
  simp only [Option.getD_some, e] at this
  simpa using this
theorem placesR_head {rest : List (Row F)} {c at_ : Nat} {m : List Nat} (h : placesR rest c = at_ :: m) : at_ < rest.length ∧ tl (rest.getD at_ []) c ≠ 0 := by
  have hm : at_ ∈ placesR rest c := by rw [h]; exact List.mem_cons_self
  have := List.mem_filter.mp hm
  exact ⟨List.mem_range.mp this.1, by simpa using this.2⟩
theorem take_get_drop {α : Type} {l : List α} {i : Nat} (h : i < l.length) (d : α) : l = l.take i ++ l.getD i d :: l.drop (i + 1) := by
  rw [List.getD_eq_getElem?_getD, List.getElem?_eq_getElem h, Option.getD_some, ← List.drop_eq_getElem_cons h, List.take_append_drop]
theorem span_congr {S T : List (Vec F)} (h1 : ∀ r ∈ S, Span T r) (h2 : ∀ r ∈ T, Span S r) (v : Vec F) : Span S v ↔ Span T v := ⟨Span.trans h1, Span.trans h2⟩
theorem redStep_inv {L : Nat} {rows : List (Row F)} {st : RedSt F} {c : Nat} (hc : c < L) (I : RedInv L rows st c) : RedInv L rows (redStep st c) (c + 1) := by
  cases hp : placesR st.rest c with
  | nil =>
    rw [redStep_nil hp]
    refine ⟨I.lenR, I.lenF, I.span, fun r hr j hj => ?_, I.rr, fun a ha => Nat.lt_succ_of_lt (I.lt a ha), I.cnt⟩
    rcases Nat.lt_or_eq_of_le (Nat.le_of_lt_succ hj) with z | z
    · exact I.zero r hr j z
    · rw [z]; exact placesR_nil hp r hr
  | cons at_ m =>
    rw [redStep_cons hp]
    obtain ⟨hat, hne⟩ := placesR_head hp
    generalize hown0 : st.rest.getD at_ [] = own0 at *
    have hsp := take_get_drop hat []
    rw [hown0] at hsp
    generalize hl : st.rest.take at_ = A at *
    generalize hr : st.rest.drop (at_ + 1) = B at *
    have m0 : own0 ∈ st.rest := by rw [hsp]; simp
    have mAB : ∀ r ∈ A ++ B, r ∈ st.rest := fun r hr => by
      rw [hsp]
      rcases List.mem_append.mp hr with z | z
      · exact List.mem_append_left _ z
      · exact List.mem_append_right _ (List.mem_cons_of_mem _ z)
    have hinv : Fld.inv (tl own0 c) * tl own0 c = 1 := Fld.inv_mul _ hne
    generalize hd : Fld.inv (tl own0 c) = d at *
    generalize how : own0.map (fun x => d * x) = own at *
    have tow : ∀ i, tl own i = d * tl own0 i := fun i => by rw [← how]; exact tl_map (f := fun x => d * x) (by grind) i
    have low : own.length = L := by rw [← how, List.length_map]; exact I.lenR _ m0
    have town : tl own c = 1 := by rw [tow, hinv]
    have lr : ∀ r, r ∈ st.rest → r.length = own.length := fun r hr => by rw [low]; exact I.lenR r hr
    have lf : ∀ a, a ∈ st.fp → a.1.length = own.length := fun a ha => by rw [low]; exact I.lenF a ha
    have ozero : ∀ j, j < c → tl own j = 0 := fun j hj => by rw [tow, I.zero _ m0 j hj]; grind
    refine ⟨fun r hr => ?_, fun a ha => ?_, fun v => ?_, fun r hr j hj => ?_, ⟨fun a ha => ?_, ?_⟩, fun a ha => ?_, ?_⟩
    · obtain ⟨x, hx, e⟩ := List.mem_map.mp hr
      rw [← e, len_less (lr x (mAB x hx))]; exact I.lenR x (mAB x hx)
    · rcases List.mem_append.mp ha with z | z
      · obtain ⟨x, hx, e⟩ := List.mem_map.mp z
        rw [← e]
        show (lessR x.1 own c).length = L
        rw [len_less (lf x hx)]; exact I.lenF x hx
      · rw [List.mem_singleton.mp z]; exact low
    · rw [← I.span v]
      refine span_congr (fun r hr => ?_) (fun r hr => ?_) v
      · obtain ⟨x, hx, e⟩ := List.mem_map.mp hr
        subst e
        have sown : RSpan (st.rest ++ st.fp.map (·.1)) (tl own) := Span.smul d (RSpan.mem (List.mem_append_left _ m0)) tow
        rcases List.mem_append.mp hx with z | z
        · obtain ⟨y, hy, e⟩ := List.mem_map.mp z
          subst e
          exact Span.lin (-(tl y c)) (RSpan.mem (List.mem_append_left _ (mAB y hy))) sown fun i => by rw [tl_less (lr y (mAB y hy))]; grind
        · rw [List.map_append, List.map_map] at z
          rcases List.mem_append.mp z with z | z
          · obtain ⟨a, ha, e⟩ := List.mem_map.mp z
            subst e
            exact Span.lin (-(tl a.1 c)) (RSpan.mem (List.mem_append_right _ (List.mem_map_of_mem ha))) sown fun i => by
              show tl (lessR a.1 own c) i = _
              rw [tl_less (lf a ha)]; grind
          · have := List.mem_singleton.mp z
            subst this
            exact sown
      · obtain ⟨x, hx, e⟩ := List.mem_map.mp hr
        subst e
        have mo : own ∈ (A ++ B).map (fun r => lessR r own c) ++ (st.fp.map (fun a => (lessR a.1 own c, a.2)) ++ [(own, c)]).map (·.1) := by simp
        have sown := RSpan.mem mo
        have fix : ∀ y : Row F, y.length = own.length → lessR y own c ∈ (A ++ B).map (fun r => lessR r own c) ++ (st.fp.map (fun a => (lessR a.1 own c, a.2)) ++ [(own, c)]).map (·.1) →
            RSpan ((A ++ B).map (fun r => lessR r own c) ++ (st.fp.map (fun a => (lessR a.1 own c, a.2)) ++ [(own, c)]).map (·.1)) (tl y) := fun y hy hm =>
          Span.lin (tl y c) (RSpan.mem hm) sown fun i => by rw [tl_less hy]; grind
        rcases List.mem_append.mp hx with z | z
        · by_cases e0 : x ∈ A ++ B
          · exact fix x (lr x z) (List.mem_append_left _ (List.mem_map_of_mem (f := fun r => lessR r own c) e0))
          · have : x = own0 := by
              rw [hsp] at z
              rcases List.mem_append.mp z with z | z
              · exact (e0 (List.mem_append_left _ z)).elim
              · rcases List.mem_cons.mp z with z | z
                · exact z
                · exact (e0 (List.mem_append_right _ z)).elim
            subst this
            exact Span.smul (tl x c) sown fun i => by rw [tow]; grind
        · obtain ⟨a, ha, e⟩ := List.mem_map.mp z
          subst e
          refine fix a.1 (lf a ha) (List.mem_append_right _ ?_)
          rw [List.map_append, List.map_map]
          exact List.mem_append_left _ (List.mem_map_of_mem (f := (fun a : PRow F => a.1) ∘ fun a => (lessR a.1 own c, a.2)) ha)
    · obtain ⟨x, hx, e⟩ := List.mem_map.mp hr
      subst e
      rw [tl_less (lr x (mAB x hx))]
      rcases Nat.lt_or_eq_of_le (Nat.le_of_lt_succ hj) with z | z
      · rw [I.zero x (mAB x hx) j z, ozero j z]; grind
      · rw [z, town]; grind
    · rcases List.mem_append.mp ha with z | z
      · obtain ⟨x, hx, e⟩ := List.mem_map.mp z
        subst e
        have ⟨l1, l2⟩ := I.rr.lead x hx
        have hxc := I.lt x hx
        refine ⟨?_, fun j hj => ?_⟩
        · show tl (lessR x.1 own c) x.2 = 1
          rw [tl_less (lf x hx), ozero _ hxc, l1]; grind
        · show tl (lessR x.1 own c) j = 0
          rw [tl_less (lf x hx), ozero _ (Nat.lt_trans hj hxc), l2 j hj]; grind
      · rw [List.mem_singleton.mp z]
        exact ⟨town, ozero⟩
    · refine List.pairwise_append.mpr ⟨?_, List.pairwise_singleton _ _, fun a ha b hb => ?_⟩
      · refine List.pairwise_map.mpr (List.Pairwise.imp_of_mem (fun {a b} ha hb z => ⟨z.1, ?_⟩) I.rr.pw)
        show tl (lessR a.1 own c) b.2 = 0
        rw [tl_less (lf a ha), z.2, ozero _ (I.lt b hb)]; grind
      · obtain ⟨x, hx, e⟩ := List.mem_map.mp ha
        rw [List.mem_singleton.mp hb, ← e]
        refine ⟨I.lt x hx, ?_⟩
        show tl (lessR x.1 own c) c = 0
        rw [tl_less (lf x hx), town]; grind
    · rcases List.mem_append.mp ha with z | z
      · obtain ⟨x, hx, e⟩ := List.mem_map.mp z
        subst e
        exact Nat.lt_succ_of_lt (I.lt x hx)
      · rw [List.mem_singleton.mp z]; exact Nat.lt_succ_self c
    · have h1 : st.rest.length = A.length + (B.length + 1) := by rw [hsp, List.length_append, List.length_cons]
      have := I.cnt
      simp only [List.length_map, List.length_append, List.length_singleton]
      omega
theorem redGo_inv {L : Nat} {rows : List (Row F)} (hl : ∀ r ∈ rows, r.length = L) : ∀ c, c ≤ L → RedInv L rows (redGo rows c) c
  | 0, _ =>
    have nn : ∀ a : PRow F, a ∈ ([] : List (PRow F)) → False := fun a ha => (nomatch ha)
    ⟨hl, fun a ha => (nn a ha).elim, fun v => by show RSpan (rows ++ []) v ↔ _; rw [List.append_nil], fun _ _ j hj => (Nat.not_lt_zero j hj).elim, ⟨fun a ha => (nn a ha).elim, List.Pairwise.nil⟩, fun a ha => (nn a ha).elim, rfl⟩
  | c + 1, h => by
    have := redStep_inv (Nat.lt_of_succ_le h) (redGo_inv hl c (Nat.le_of_succ_le h))
    unfold redGo at *
    rw [List.range_succ, List.foldl_append]
    exact this
structure RedOk (L : Nat) (rows : List (Row F)) (ps : List (PRow F)) : Prop where
  len : ∀ a ∈ ps, a.1.length = L
  span : ∀ v, RSpan (ps.map (·.1)) v ↔ RSpan rows v
  rr : Rr ps
  lt : ∀ a ∈ ps, a.2 < L
  cnt : ps.length ≤ rows.length
theorem redR_ok {L : Nat} {rows : List (Row F)} (hl : ∀ r ∈ rows, r.length = L) : RedOk L rows (redR rows L) := by
  have I := redGo_inv hl L (Nat.le_refl L)
  refine ⟨I.lenF, fun v => ?_, I.rr, I.lt, by have := I.cnt; unfold redR; omega⟩
  rw [← I.span v]
  refine span_congr (fun r hr => Span.mem ?_) (fun r hr => ?_) v
  · rw [List.map_append]; exact List.mem_append_right _ hr
  · rw [List.map_append] at hr
    rcases List.mem_append.mp hr with z | z
    · obtain ⟨x, hx, e⟩ := List.mem_map.mp z
      refine .zero fun i => ?_
      rw [← e]
      by_cases hi : i < L
      · exact I.zero x hx i hi
      · exact tl_out (by rw [I.lenR x hx]; omega)
    · exact .mem z
end
end K47

/-! text K0 -/
namespace K47
open PySem PySem.Spec PyProof.Rows L2
/-! the text by places -/
def topS (i : Nat) : Stmt := PySem.Challenge.pw_similarforms_k47_whole_reachable_and_uno.main.body.getD i (.Pass ⟨0, 0, 0, 0⟩)
abbrev s_is_integer : Stmt := topS 11
abbrev s_is_small_prime : Stmt := topS 15
abbrev s_Residue_init : Stmt := inClass (topS 16) 0
abbrev s_Residue_eq : Stmt := inClass (topS 16) 1
abbrev s_Residue_add : Stmt := inClass (topS 16) 2
abbrev s_Residue_sub : Stmt := inClass (topS 16) 3
abbrev s_Residue_mul : Stmt := inClass (topS 16) 4
abbrev s_Residue_neg : Stmt := inClass (topS 16) 5
abbrev s_Residue_is_zero : Stmt := inClass (topS 16) 7
abbrev s_Residue_inverse : Stmt := inClass (topS 16) 8
abbrev s_Residue_over : Stmt := inClass (topS 16) 9
abbrev s_Ground_init : Stmt := inClass (topS 21) 0
abbrev s_Ground_eq : Stmt := inClass (topS 21) 1
abbrev s_Ground_number : Stmt := inClass (topS 21) 2
abbrev s_Ground_zero : Stmt := inClass (topS 21) 3
abbrev s_Ground_is_member : Stmt := inClass (topS 21) 5
abbrev s_taken : Stmt := topS 22
abbrev s_taken_rows : Stmt := topS 26
abbrev s_row_times : Stmt := topS 27
abbrev s_Matrix_init : Stmt := inClass (topS 28) 0
abbrev s_Matrix_len : Stmt := inClass (topS 28) 1
abbrev s_Matrix_eq : Stmt := inClass (topS 28) 2
abbrev s_Matrix_add : Stmt := inClass (topS 28) 3
abbrev s_Matrix_before : Stmt := inClass (topS 28) 8
abbrev s_Matrix_transposed : Stmt := inClass (topS 28) 9
abbrev s_check_alike : Stmt := topS 29
abbrev s_check_square : Stmt := topS 30
abbrev s_reduce_rows : Stmt := topS 34
abbrev s_less : Stmt := topS 35
abbrev s_kernel_rows : Stmt := topS 36
abbrev s_reduced : Stmt := topS 37
abbrev s_kernel : Stmt := topS 38
abbrev s_solve : Stmt := topS 39
abbrev s_own_row : Stmt := topS 41
abbrev s_krylov_rows : Stmt := topS 42
abbrev s_krylov : Stmt := topS 43
abbrev s_reachable_space : Stmt := topS 45
abbrev s_unobservable_space : Stmt := topS 46
abbrev s_is_reachable : Stmt := topS 47
abbrev s_is_observable : Stmt := topS 48
abbrev s_four_sizes : Stmt := topS 49
abbrev s_taken_row : Stmt := topS 51
abbrev s_Plant_init : Stmt := inClass (topS 52) 0
abbrev s_Plant_size : Stmt := inClass (topS 52) 2
abbrev s_Plant_fed : Stmt := inClass (topS 52) 7
abbrev s_law_state : Stmt := topS 54
abbrev s_law_take : Stmt := topS 55
abbrev s_law_rest : Stmt := topS 57
abbrev s_law_row : Stmt := topS 58
abbrev s_law_rows : Stmt := topS 59
abbrev s_law_before : Stmt := topS 60
abbrev s_law_dot : Stmt := topS 61
abbrev s_law_is : Stmt := topS 62
abbrev s_law_reached : Stmt := topS 63
abbrev s_law_states : Stmt := topS 64
abbrev s_law_is_dark : Stmt := topS 65
abbrev s_law_span : Stmt := topS 66
abbrev s_law_in_form : Stmt := topS 67
abbrev s_law_shows : Stmt := topS 68
abbrev s_law_dimension : Stmt := topS 69
abbrev s_law : Stmt := topS 70
abbrev FnP (K : PySem.W.Frag) (x q : Str) (st : Stmt) (dvs : List V) (f : Addr) (fd : FuncData) : Prop := FunD K x q (defArgs st) (defBody st) (defScope st) dvs [] f fd
end K47

/-! text K1 -/
namespace K47
open PySem PySem.Spec PyProof.Rows L2
def d_is_integer : He.DefD := ⟨("is_integer", none), "is_integer", "is_integer", defArgs s_is_integer, defBody s_is_integer, defScope s_is_integer, [], []⟩
def d_is_small_prime : He.DefD := ⟨("is_small_prime", none), "is_small_prime", "is_small_prime", defArgs s_is_small_prime, defBody s_is_small_prime, defScope s_is_small_prime, [], []⟩
def d_Residue_init : He.DefD := ⟨("Residue", some "__init__"), "__init__", "Residue.__init__", defArgs s_Residue_init, defBody s_Residue_init, defScope s_Residue_init, [], []⟩
def d_Residue_eq : He.DefD := ⟨("Residue", some "__eq__"), "__eq__", "Residue.__eq__", defArgs s_Residue_eq, defBody s_Residue_eq, defScope s_Residue_eq, [], []⟩
def d_Residue_add : He.DefD := ⟨("Residue", some "__add__"), "__add__", "Residue.__add__", defArgs s_Residue_add, defBody s_Residue_add, defScope s_Residue_add, [], []⟩
def d_Residue_sub : He.DefD := ⟨("Residue", some "__sub__"), "__sub__", "Residue.__sub__", defArgs s_Residue_sub, defBody s_Residue_sub, defScope s_Residue_sub, [], []⟩
def d_Residue_mul : He.DefD := ⟨("Residue", some "__mul__"), "__mul__", "Residue.__mul__", defArgs s_Residue_mul, defBody s_Residue_mul, defScope s_Residue_mul, [], []⟩
def d_Residue_neg : He.DefD := ⟨("Residue", some "__neg__"), "__neg__", "Residue.__neg__", defArgs s_Residue_neg, defBody s_Residue_neg, defScope s_Residue_neg, [], []⟩
def d_Residue_is_zero : He.DefD := ⟨("Residue", some "is_zero"), "is_zero", "Residue.is_zero", defArgs s_Residue_is_zero, defBody s_Residue_is_zero, defScope s_Residue_is_zero, [], []⟩
def d_Residue_inverse : He.DefD := ⟨("Residue", some "inverse"), "inverse", "Residue.inverse", defArgs s_Residue_inverse, defBody s_Residue_inverse, defScope s_Residue_inverse, [], []⟩
def d_Residue_over : He.DefD := ⟨("Residue", some "over"), "over", "Residue.over", defArgs s_Residue_over, defBody s_Residue_over, defScope s_Residue_over, [], []⟩
def d_Ground_init : He.DefD := ⟨("Ground", some "__init__"), "__init__", "Ground.__init__", defArgs s_Ground_init, defBody s_Ground_init, defScope s_Ground_init, [.int 0], []⟩
def d_Ground_eq : He.DefD := ⟨("Ground", some "__eq__"), "__eq__", "Ground.__eq__", defArgs s_Ground_eq, defBody s_Ground_eq, defScope s_Ground_eq, [], []⟩
def d_Ground_number : He.DefD := ⟨("Ground", some "number"), "number", "Ground.number", defArgs s_Ground_number, defBody s_Ground_number, defScope s_Ground_number, [.int 1], []⟩
def d_Ground_zero : He.DefD := ⟨("Ground", some "zero"), "zero", "Ground.zero", defArgs s_Ground_zero, defBody s_Ground_zero, defScope s_Ground_zero, [], []⟩
def d_Ground_is_member : He.DefD := ⟨("Ground", some "is_member"), "is_member", "Ground.is_member", defArgs s_Ground_is_member, defBody s_Ground_is_member, defScope s_Ground_is_member, [], []⟩
def d_taken : He.DefD := ⟨("taken", none), "taken", "taken", defArgs s_taken, defBody s_taken, defScope s_taken, [], []⟩
def d_taken_rows : He.DefD := ⟨("taken_rows", none), "taken_rows", "taken_rows", defArgs s_taken_rows, defBody s_taken_rows, defScope s_taken_rows, [], []⟩
def d_row_times : He.DefD := ⟨("row_times", none), "row_times", "row_times", defArgs s_row_times, defBody s_row_times, defScope s_row_times, [], []⟩
def d_Matrix_init : He.DefD := ⟨("Matrix", some "__init__"), "__init__", "Matrix.__init__", defArgs s_Matrix_init, defBody s_Matrix_init, defScope s_Matrix_init, [.non], []⟩
def d_Matrix_len : He.DefD := ⟨("Matrix", some "__len__"), "__len__", "Matrix.__len__", defArgs s_Matrix_len, defBody s_Matrix_len, defScope s_Matrix_len, [], []⟩
def d_Matrix_eq : He.DefD := ⟨("Matrix", some "__eq__"), "__eq__", "Matrix.__eq__", defArgs s_Matrix_eq, defBody s_Matrix_eq, defScope s_Matrix_eq, [], []⟩
def d_Matrix_add : He.DefD := ⟨("Matrix", some "__add__"), "__add__", "Matrix.__add__", defArgs s_Matrix_add, defBody s_Matrix_add, defScope s_Matrix_add, [], []⟩
def d_Matrix_before : He.DefD := ⟨("Matrix", some "before"), "before", "Matrix.before", defArgs s_Matrix_before, defBody s_Matrix_before, defScope s_Matrix_before, [], []⟩
def d_Matrix_transposed : He.DefD := ⟨("Matrix", some "transposed"), "transposed", "Matrix.transposed", defArgs s_Matrix_transposed, defBody s_Matrix_transposed, defScope s_Matrix_transposed, [], []⟩
def d_check_alike : He.DefD := ⟨("check_alike", none), "check_alike", "check_alike", defArgs s_check_alike, defBody s_check_alike, defScope s_check_alike, [], []⟩
def d_check_square : He.DefD := ⟨("check_square", none), "check_square", "check_square", defArgs s_check_square, defBody s_check_square, defScope s_check_square, [], []⟩
def d_reduce_rows : He.DefD := ⟨("reduce_rows", none), "reduce_rows", "reduce_rows", defArgs s_reduce_rows, defBody s_reduce_rows, defScope s_reduce_rows, [], []⟩
def d_less : He.DefD := ⟨("less", none), "less", "less", defArgs s_less, defBody s_less, defScope s_less, [], []⟩
def d_kernel_rows : He.DefD := ⟨("kernel_rows", none), "kernel_rows", "kernel_rows", defArgs s_kernel_rows, defBody s_kernel_rows, defScope s_kernel_rows, [], []⟩
def d_reduced : He.DefD := ⟨("reduced", none), "reduced", "reduced", defArgs s_reduced, defBody s_reduced, defScope s_reduced, [], []⟩
def d_kernel : He.DefD := ⟨("kernel", none), "kernel", "kernel", defArgs s_kernel, defBody s_kernel, defScope s_kernel, [], []⟩
def d_solve : He.DefD := ⟨("solve", none), "solve", "solve", defArgs s_solve, defBody s_solve, defScope s_solve, [], []⟩
def d_own_row : He.DefD := ⟨("own_row", none), "own_row", "own_row", defArgs s_own_row, defBody s_own_row, defScope s_own_row, [], []⟩
def d_krylov_rows : He.DefD := ⟨("krylov_rows", none), "krylov_rows", "krylov_rows", defArgs s_krylov_rows, defBody s_krylov_rows, defScope s_krylov_rows, [], []⟩
def d_krylov : He.DefD := ⟨("krylov", none), "krylov", "krylov", defArgs s_krylov, defBody s_krylov, defScope s_krylov, [], []⟩
def d_reachable_space : He.DefD := ⟨("reachable_space", none), "reachable_space", "reachable_space", defArgs s_reachable_space, defBody s_reachable_space, defScope s_reachable_space, [], []⟩
def d_unobservable_space : He.DefD := ⟨("unobservable_space", none), "unobservable_space", "unobservable_space", defArgs s_unobservable_space, defBody s_unobservable_space, defScope s_unobservable_space, [], []⟩
def d_is_reachable : He.DefD := ⟨("is_reachable", none), "is_reachable", "is_reachable", defArgs s_is_reachable, defBody s_is_reachable, defScope s_is_reachable, [], []⟩
def d_is_observable : He.DefD := ⟨("is_observable", none), "is_observable", "is_observable", defArgs s_is_observable, defBody s_is_observable, defScope s_is_observable, [], []⟩
def d_four_sizes : He.DefD := ⟨("four_sizes", none), "four_sizes", "four_sizes", defArgs s_four_sizes, defBody s_four_sizes, defScope s_four_sizes, [], []⟩
def d_taken_row : He.DefD := ⟨("taken_row", none), "taken_row", "taken_row", defArgs s_taken_row, defBody s_taken_row, defScope s_taken_row, [], []⟩
def d_Plant_init : He.DefD := ⟨("Plant", some "__init__"), "__init__", "Plant.__init__", defArgs s_Plant_init, defBody s_Plant_init, defScope s_Plant_init, [], []⟩
def d_Plant_size : He.DefD := ⟨("Plant", some "size"), "size", "Plant.size", defArgs s_Plant_size, defBody s_Plant_size, defScope s_Plant_size, [], []⟩
def d_Plant_fed : He.DefD := ⟨("Plant", some "fed"), "fed", "Plant.fed", defArgs s_Plant_fed, defBody s_Plant_fed, defScope s_Plant_fed, [], []⟩
def d_law_state : He.DefD := ⟨("_law_state", none), "_law_state", "_law_state", defArgs s_law_state, defBody s_law_state, defScope s_law_state, [], []⟩
def d_law_take : He.DefD := ⟨("_law_take", none), "_law_take", "_law_take", defArgs s_law_take, defBody s_law_take, defScope s_law_take, [], []⟩
def d_law_rest : He.DefD := ⟨("_law_rest", none), "_law_rest", "_law_rest", defArgs s_law_rest, defBody s_law_rest, defScope s_law_rest, [], []⟩
def d_law_row : He.DefD := ⟨("_law_row", none), "_law_row", "_law_row", defArgs s_law_row, defBody s_law_row, defScope s_law_row, [], []⟩
def d_law_rows : He.DefD := ⟨("_law_rows", none), "_law_rows", "_law_rows", defArgs s_law_rows, defBody s_law_rows, defScope s_law_rows, [], []⟩
def d_law_before : He.DefD := ⟨("_law_before", none), "_law_before", "_law_before", defArgs s_law_before, defBody s_law_before, defScope s_law_before, [], []⟩
def d_law_dot : He.DefD := ⟨("_law_dot", none), "_law_dot", "_law_dot", defArgs s_law_dot, defBody s_law_dot, defScope s_law_dot, [], []⟩
def d_law_is : He.DefD := ⟨("_law_is", none), "_law_is", "_law_is", defArgs s_law_is, defBody s_law_is, defScope s_law_is, [], []⟩
def d_law_reached : He.DefD := ⟨("_law_reached", none), "_law_reached", "_law_reached", defArgs s_law_reached, defBody s_law_reached, defScope s_law_reached, [], []⟩
def d_law_states : He.DefD := ⟨("_law_states", none), "_law_states", "_law_states", defArgs s_law_states, defBody s_law_states, defScope s_law_states, [], []⟩
def d_law_is_dark : He.DefD := ⟨("_law_is_dark", none), "_law_is_dark", "_law_is_dark", defArgs s_law_is_dark, defBody s_law_is_dark, defScope s_law_is_dark, [], []⟩
def d_law_span : He.DefD := ⟨("_law_span", none), "_law_span", "_law_span", defArgs s_law_span, defBody s_law_span, defScope s_law_span, [], []⟩
def d_law_in_form : He.DefD := ⟨("_law_in_form", none), "_law_in_form", "_law_in_form", defArgs s_law_in_form, defBody s_law_in_form, defScope s_law_in_form, [], []⟩
def d_law_shows : He.DefD := ⟨("_law_shows", none), "_law_shows", "_law_shows", defArgs s_law_shows, defBody s_law_shows, defScope s_law_shows, [], []⟩
def d_law_dimension : He.DefD := ⟨("_law_dimension", none), "_law_dimension", "_law_dimension", defArgs s_law_dimension, defBody s_law_dimension, defScope s_law_dimension, [], []⟩
def d_law : He.DefD := ⟨("law", none), "law", "law", defArgs s_law, defBody s_law, defScope s_law, [], []⟩
def fnL0 : List He.DefD := [d_is_integer, d_is_small_prime, d_Residue_init, d_Residue_eq, d_Residue_add, d_Residue_sub, d_Residue_mul, d_Residue_neg, d_Residue_is_zero, d_Residue_inverse, d_Residue_over, d_Ground_init, d_Ground_eq, d_Ground_number, d_Ground_zero, d_Ground_is_member, d_taken, d_taken_rows, d_row_times, d_Matrix_init, d_Matrix_len, d_Matrix_eq, d_Matrix_add, d_Matrix_before, d_Matrix_transposed, d_check_alike, d_check_square, d_reduce_rows, d_less, d_kernel_rows]
def fnL1 : List He.DefD := [d_reduced, d_kernel, d_solve, d_own_row, d_krylov_rows, d_krylov, d_reachable_space, d_unobservable_space, d_is_reachable, d_is_observable, d_four_sizes, d_taken_row, d_Plant_init, d_Plant_size, d_Plant_fed, d_law_state, d_law_take, d_law_rest, d_law_row, d_law_rows, d_law_before, d_law_dot, d_law_is, d_law_reached, d_law_states, d_law_is_dark, d_law_span, d_law_in_form, d_law_shows, d_law_dimension]
def fnL2 : List He.DefD := [d_law]
def fnL : List He.DefD := fnL0 ++ fnL1 ++ fnL2
def faL0 : List He.Fa := [.glo "is_integer", .glo "is_small_prime", .glo "taken", .glo "taken_rows", .glo "row_times", .glo "check_alike", .glo "check_square", .glo "reduce_rows", .glo "less", .glo "kernel_rows", .glo "reduced", .glo "kernel", .glo "solve", .glo "own_row", .glo "krylov_rows", .glo "krylov", .glo "reachable_space", .glo "unobservable_space", .glo "is_reachable", .glo "is_observable", .glo "four_sizes", .glo "taken_row", .glo "_law_state", .glo "_law_take", .glo "_law_rest", .glo "_law_row", .glo "_law_rows", .glo "_law_before", .glo "_law_dot", .glo "_law_is"]
def faL1 : List He.Fa := [.glo "_law_reached", .glo "_law_states", .glo "_law_is_dark", .glo "_law_span", .glo "_law_in_form", .glo "_law_shows", .glo "_law_dimension", .glo "law", .glo "Residue", .glo "Ground", .glo "Matrix", .glo "Plant", .glo "PRIMES", .free "isinstance", .free "int", .free "bool", .free "list", .free "tuple", .free "zip", .free "range", .free "len", .free "abs", .free "sum", .free "sorted", .int "MOST_ROWS" 8, .int "MOST_WIDTH" 64, .cls "Residue", .mkr "Residue", .noat "Residue" "p", .noat "Residue" "n"]
def faL2 : List He.Fa := [.meth "Residue" "__eq__", .meth "Residue" "__add__", .meth "Residue" "__sub__", .meth "Residue" "__mul__", .meth "Residue" "__neg__", .meth "Residue" "is_zero", .meth "Residue" "inverse", .meth "Residue" "over", .cls "Ground", .mkr "Ground", .noat "Ground" "p", .meth "Ground" "__eq__", .meth "Ground" "number", .meth "Ground" "zero", .meth "Ground" "is_member", .cls "Matrix", .mkr "Matrix", .noat "Matrix" "ground", .noat "Matrix" "rows", .noat "Matrix" "width", .meth "Matrix" "__len__", .meth "Matrix" "__eq__", .meth "Matrix" "__add__", .meth "Matrix" "before", .meth "Matrix" "transposed", .cls "Plant", .mkr "Plant", .noat "Plant" "a", .noat "Plant" "b", .noat "Plant" "c"]
def faL3 : List He.Fa := [.meth "Plant" "size", .meth "Plant" "fed"]
def faL : List He.Fa := faL0 ++ faL1 ++ faL2 ++ faL3
def looseL0 : List PySem.Str := ["gcd", "_wall", "Fault", "ZeroDivisor", "Malformed", "Refused", "NoText", "PIECE", "written_integer", "is_integer", "Ratio", "PRIMES", "is_small_prime", "Residue", "DIGITS", "whole_number", "read_ratio", "Ground", "taken", "MOST_ROWS", "MOST_WIDTH", "taken_rows", "row_times", "Matrix", "check_alike", "check_square", "unit", "nothing", "reduce_rows", "less"]
def looseL1 : List PySem.Str := ["kernel_rows", "reduced", "kernel", "solve", "own_row", "krylov_rows", "krylov", "reachable_space", "unobservable_space", "is_reachable", "is_observable", "four_sizes", "taken_row", "Plant", "_law_state", "_law_take", "_law_ground", "_law_rest", "_law_row", "_law_rows", "_law_before", "_law_dot", "_law_is", "_law_reached", "_law_states", "_law_is_dark", "_law_span", "_law_in_form", "_law_shows", "_law_dimension"]
def looseL : List PySem.Str := looseL0 ++ looseL1

/-- isinstance of an own class's instance, by what stands in K -/
def isiB (K : PySem.W.Frag) (x : Str) : Bool := He.eqO (PySem.W.findIn K (.ref (He.ga K x)) "__class__") (some (some (.builtin "object.__class__"))) &&
  (He.eqO (PySem.W.specialIn K (.builtin "object.__class__") "__get__") (some (some (.builtin "getset_descriptor.__get__"))) &&
  (decide (PySem.W.takesIn K (.builtin "object.__class__") = some true) && decide (PySem.W.mroIn K (He.ga K x) (.type "object") = some true)))
def kitC (K : PySem.W.Frag) (x : Str) (c : Value) (b : Bool) : Bool := decide (PySem.W.kitOne K (.ref (He.ga K x)) c = some b)
def neB (K : PySem.W.Frag) (x : Str) : Bool := He.eqO (PySem.W.findIn K (.ref (He.ga K x)) "__ne__") (some (some (.builtin "object.__ne__")))
def exB (K : PySem.W.Frag) : Bool := He.tupB K "PRIMES" [.int 2, .int 3, .int 5, .int 7, .int 11, .int 13, .int 17, .int 19, .int 23, .int 29, .int 31] &&
  (isiB K "Residue" && (isiB K "Ground" && (isiB K "Matrix" && (kitC K "Residue" (.type "int") false && (kitC K "Residue" (.ref (He.ga K "Residue")) true &&
  (kitC K "Ground" (.ref (He.ga K "Ground")) true && (kitC K "Matrix" (.ref (He.ga K "Matrix")) true && (PySem.W.selfFirst K (He.ga K "Residue") && (PySem.W.selfFirst K (He.ga K "Matrix") && neB K "Ground")))))))))
abbrev R : PySem.W.OpenRow := PySem.W.OpenLaw.row PySem.Challenge.rw_similarforms_k47_whole_reachable_and_uno
/-! the part of the heap that the walk looks at, by names -/
def nsA (g : Addr → Option Obj) (d : Addr) (x : Str) : Addr := match g d with
  | some o => (match o.data with
    | .dict es _ => (match es.toList.find? (fun e => match e.key with | .str y _ => decide (y = x) | _ => false) with
      | some e => (match e.val with | .ref a => a | _ => 0)
      | none => 0)
    | _ => 0)
  | none => 0
def fnAs (g : Addr → Option Obj) (a : Addr) : List Addr := HandSHeadRun.frNat a fun a => match g a with
  | some o => (match o.data with
    | .func fd => a :: (He.refV fd.code ++ He.refV fd.defaults)
    | _ => [a])
  | none => []
def clsAs (g : Addr → Option Obj) (c : Addr) (ms : List Str) : List Addr := HandSHeadRun.frNat c fun c => match g c with
  | some o => (match o.data with
    | .cls cd => HandSHeadRun.frNat cd.ns fun d => c :: d :: ms.flatMap fun m => fnAs g (nsA g d m)
    | _ => [c])
  | none => []
def asK (fs : List Str) (cs : List (Str × List Str)) (os : List Str) (g : Addr → Option Obj) : List Addr :=
  mainGlobals :: (fs.flatMap (fun x => fnAs g (nsA g mainGlobals x)) ++ (cs.flatMap (fun c => clsAs g (nsA g mainGlobals c.1) c.2) ++ os.map fun x => nsA g mainGlobals x))
def fnNames : List Str := fnL.filterMap fun d => match d.at_.2 with | none => some d.at_.1 | some _ => none
def clsNames : List (Str × List Str) := [("Residue", ["__init__", "__eq__", "__add__", "__sub__", "__mul__", "__neg__", "is_zero", "inverse", "over"]), ("Ground", ["__init__", "__eq__", "number", "zero", "is_member"]), ("Matrix", ["__init__", "__len__", "__eq__", "__add__", "before", "transposed"]), ("Plant", ["__init__", "size", "fed"])]
def asR (g : Addr → Option Obj) : List Addr := asK fnNames clsNames ["PRIMES"] g
abbrev AlR : Type := He.AlD × Bool
def obsR (g : Addr → Option Obj) : AlR := (He.obsD faL fnL (He.frG g (asR g)), exB (He.frG g (asR g)))
structure SaysR (K : PySem.W.Frag) : Prop where
  d : He.SaysD faL fnL K
  more : exB K = true

/-- what the walk leans on -/
structure Tx (K : PySem.W.Frag) (mg : Str → Option Value) : Prop where
  s : SaysR K
  glo : ∀ x : Str, (He.Fa.glo x).ok K = true → mg x = some (.ref (He.ga K x))
  free : ∀ x : Str, (He.Fa.free x).ok K = true → mg x = none
  int : ∀ (x : Str) (i : Int), (He.Fa.int x i).ok K = true → ∃ t, mg x = some (.int i t)
theorem tx_of {K : PySem.W.Frag} {mg : Str → Option Value} {h : Heap} (X : K.In h) (G : h.Ns mainGlobals mg) (c : SaysR K) : Tx K mg :=
  ⟨c, fun _ z => He.glo_ok X G z, fun _ z => He.free_ok X G z, fun _ _ z => He.int_ok X G z⟩
abbrev cR (K : PySem.W.Frag) : Addr := He.ga K "Residue"
abbrev cG (K : PySem.W.Frag) : Addr := He.ga K "Ground"
abbrev cM (K : PySem.W.Frag) : Addr := He.ga K "Matrix"
abbrev cP (K : PySem.W.Frag) : Addr := He.ga K "Plant"
section
variable {K : PySem.W.Frag} {mg : Str → Option Value} (T : Tx K mg)
include T
theorem Tx.g_is_integer : mg "is_integer" = some (.ref (He.ga K "is_integer")) := T.glo "is_integer" (T.s.d.fact 0 (f := .glo "is_integer") rfl)
theorem Tx.g_is_small_prime : mg "is_small_prime" = some (.ref (He.ga K "is_small_prime")) := T.glo "is_small_prime" (T.s.d.fact 1 (f := .glo "is_small_prime") rfl)
theorem Tx.g_taken : mg "taken" = some (.ref (He.ga K "taken")) := T.glo "taken" (T.s.d.fact 2 (f := .glo "taken") rfl)
theorem Tx.g_taken_rows : mg "taken_rows" = some (.ref (He.ga K "taken_rows")) := T.glo "taken_rows" (T.s.d.fact 3 (f := .glo "taken_rows") rfl)
theorem Tx.g_row_times : mg "row_times" = some (.ref (He.ga K "row_times")) := T.glo "row_times" (T.s.d.fact 4 (f := .glo "row_times") rfl)
theorem Tx.g_check_alike : mg "check_alike" = some (.ref (He.ga K "check_alike")) := T.glo "check_alike" (T.s.d.fact 5 (f := .glo "check_alike") rfl)
theorem Tx.g_check_square : mg "check_square" = some (.ref (He.ga K "check_square")) := T.glo "check_square" (T.s.d.fact 6 (f := .glo "check_square") rfl)
theorem Tx.g_reduce_rows : mg "reduce_rows" = some (.ref (He.ga K "reduce_rows")) := T.glo "reduce_rows" (T.s.d.fact 7 (f := .glo "reduce_rows") rfl)
theorem Tx.g_less : mg "less" = some (.ref (He.ga K "less")) := T.glo "less" (T.s.d.fact 8 (f := .glo "less") rfl)
theorem Tx.g_kernel_rows : mg "kernel_rows" = some (.ref (He.ga K "kernel_rows")) := T.glo "kernel_rows" (T.s.d.fact 9 (f := .glo "kernel_rows") rfl)
theorem Tx.g_reduced : mg "reduced" = some (.ref (He.ga K "reduced")) := T.glo "reduced" (T.s.d.fact 10 (f := .glo "reduced") rfl)
theorem Tx.g_kernel : mg "kernel" = some (.ref (He.ga K "kernel")) := T.glo "kernel" (T.s.d.fact 11 (f := .glo "kernel") rfl)
theorem Tx.g_solve : mg "solve" = some (.ref (He.ga K "solve")) := T.glo "solve" (T.s.d.fact 12 (f := .glo "solve") rfl)
theorem Tx.g_own_row : mg "own_row" = some (.ref (He.ga K "own_row")) := T.glo "own_row" (T.s.d.fact 13 (f := .glo "own_row") rfl)
theorem Tx.g_krylov_rows : mg "krylov_rows" = some (.ref (He.ga K "krylov_rows")) := T.glo "krylov_rows" (T.s.d.fact 14 (f := .glo "krylov_rows") rfl)
theorem Tx.g_krylov : mg "krylov" = some (.ref (He.ga K "krylov")) := T.glo "krylov" (T.s.d.fact 15 (f := .glo "krylov") rfl)
theorem Tx.g_reachable_space : mg "reachable_space" = some (.ref (He.ga K "reachable_space")) := T.glo "reachable_space" (T.s.d.fact 16 (f := .glo "reachable_space") rfl)
theorem Tx.g_unobservable_space : mg "unobservable_space" = some (.ref (He.ga K "unobservable_space")) := T.glo "unobservable_space" (T.s.d.fact 17 (f := .glo "unobservable_space") rfl)
theorem Tx.g_is_reachable : mg "is_reachable" = some (.ref (He.ga K "is_reachable")) := T.glo "is_reachable" (T.s.d.fact 18 (f := .glo "is_reachable") rfl)
theorem Tx.g_is_observable : mg "is_observable" = some (.ref (He.ga K "is_observable")) := T.glo "is_observable" (T.s.d.fact 19 (f := .glo "is_observable") rfl)
theorem Tx.g_four_sizes : mg "four_sizes" = some (.ref (He.ga K "four_sizes")) := T.glo "four_sizes" (T.s.d.fact 20 (f := .glo "four_sizes") rfl)
theorem Tx.g_taken_row : mg "taken_row" = some (.ref (He.ga K "taken_row")) := T.glo "taken_row" (T.s.d.fact 21 (f := .glo "taken_row") rfl)
theorem Tx.g_law_state : mg "_law_state" = some (.ref (He.ga K "_law_state")) := T.glo "_law_state" (T.s.d.fact 22 (f := .glo "_law_state") rfl)
theorem Tx.g_law_take : mg "_law_take" = some (.ref (He.ga K "_law_take")) := T.glo "_law_take" (T.s.d.fact 23 (f := .glo "_law_take") rfl)
theorem Tx.g_law_rest : mg "_law_rest" = some (.ref (He.ga K "_law_rest")) := T.glo "_law_rest" (T.s.d.fact 24 (f := .glo "_law_rest") rfl)
theorem Tx.g_law_row : mg "_law_row" = some (.ref (He.ga K "_law_row")) := T.glo "_law_row" (T.s.d.fact 25 (f := .glo "_law_row") rfl)
theorem Tx.g_law_rows : mg "_law_rows" = some (.ref (He.ga K "_law_rows")) := T.glo "_law_rows" (T.s.d.fact 26 (f := .glo "_law_rows") rfl)
theorem Tx.g_law_before : mg "_law_before" = some (.ref (He.ga K "_law_before")) := T.glo "_law_before" (T.s.d.fact 27 (f := .glo "_law_before") rfl)
theorem Tx.g_law_dot : mg "_law_dot" = some (.ref (He.ga K "_law_dot")) := T.glo "_law_dot" (T.s.d.fact 28 (f := .glo "_law_dot") rfl)
theorem Tx.g_law_is : mg "_law_is" = some (.ref (He.ga K "_law_is")) := T.glo "_law_is" (T.s.d.fact 29 (f := .glo "_law_is") rfl)
theorem Tx.g_law_reached : mg "_law_reached" = some (.ref (He.ga K "_law_reached")) := T.glo "_law_reached" (T.s.d.fact 30 (f := .glo "_law_reached") rfl)
theorem Tx.g_law_states : mg "_law_states" = some (.ref (He.ga K "_law_states")) := T.glo "_law_states" (T.s.d.fact 31 (f := .glo "_law_states") rfl)
theorem Tx.g_law_is_dark : mg "_law_is_dark" = some (.ref (He.ga K "_law_is_dark")) := T.glo "_law_is_dark" (T.s.d.fact 32 (f := .glo "_law_is_dark") rfl)
theorem Tx.g_law_span : mg "_law_span" = some (.ref (He.ga K "_law_span")) := T.glo "_law_span" (T.s.d.fact 33 (f := .glo "_law_span") rfl)
theorem Tx.g_law_in_form : mg "_law_in_form" = some (.ref (He.ga K "_law_in_form")) := T.glo "_law_in_form" (T.s.d.fact 34 (f := .glo "_law_in_form") rfl)
theorem Tx.g_law_shows : mg "_law_shows" = some (.ref (He.ga K "_law_shows")) := T.glo "_law_shows" (T.s.d.fact 35 (f := .glo "_law_shows") rfl)
theorem Tx.g_law_dimension : mg "_law_dimension" = some (.ref (He.ga K "_law_dimension")) := T.glo "_law_dimension" (T.s.d.fact 36 (f := .glo "_law_dimension") rfl)
theorem Tx.g_law : mg "law" = some (.ref (He.ga K "law")) := T.glo "law" (T.s.d.fact 37 (f := .glo "law") rfl)
theorem Tx.g_Residue : mg "Residue" = some (.ref (He.ga K "Residue")) := T.glo "Residue" (T.s.d.fact 38 (f := .glo "Residue") rfl)
theorem Tx.g_Ground : mg "Ground" = some (.ref (He.ga K "Ground")) := T.glo "Ground" (T.s.d.fact 39 (f := .glo "Ground") rfl)
theorem Tx.g_Matrix : mg "Matrix" = some (.ref (He.ga K "Matrix")) := T.glo "Matrix" (T.s.d.fact 40 (f := .glo "Matrix") rfl)
theorem Tx.g_Plant : mg "Plant" = some (.ref (He.ga K "Plant")) := T.glo "Plant" (T.s.d.fact 41 (f := .glo "Plant") rfl)
theorem Tx.g_PRIMES : mg "PRIMES" = some (.ref (He.ga K "PRIMES")) := T.glo "PRIMES" (T.s.d.fact 42 (f := .glo "PRIMES") rfl)
theorem Tx.b_isinstance : mg "isinstance" = none := T.free "isinstance" (T.s.d.fact 43 (f := .free "isinstance") rfl)
theorem Tx.b_int : mg "int" = none := T.free "int" (T.s.d.fact 44 (f := .free "int") rfl)
theorem Tx.b_bool : mg "bool" = none := T.free "bool" (T.s.d.fact 45 (f := .free "bool") rfl)
theorem Tx.b_list : mg "list" = none := T.free "list" (T.s.d.fact 46 (f := .free "list") rfl)
theorem Tx.b_tuple : mg "tuple" = none := T.free "tuple" (T.s.d.fact 47 (f := .free "tuple") rfl)
theorem Tx.b_zip : mg "zip" = none := T.free "zip" (T.s.d.fact 48 (f := .free "zip") rfl)
theorem Tx.b_range : mg "range" = none := T.free "range" (T.s.d.fact 49 (f := .free "range") rfl)
theorem Tx.b_len : mg "len" = none := T.free "len" (T.s.d.fact 50 (f := .free "len") rfl)
theorem Tx.b_abs : mg "abs" = none := T.free "abs" (T.s.d.fact 51 (f := .free "abs") rfl)
theorem Tx.b_sum : mg "sum" = none := T.free "sum" (T.s.d.fact 52 (f := .free "sum") rfl)
theorem Tx.b_sorted : mg "sorted" = none := T.free "sorted" (T.s.d.fact 53 (f := .free "sorted") rfl)
theorem Tx.i_MOST_ROWS : ∃ t, mg "MOST_ROWS" = some (.int 8 t) := T.int "MOST_ROWS" 8 (T.s.d.fact 54 (f := .int "MOST_ROWS" 8) rfl)
theorem Tx.i_MOST_WIDTH : ∃ t, mg "MOST_WIDTH" = some (.int 64 t) := T.int "MOST_WIDTH" 64 (T.s.d.fact 55 (f := .int "MOST_WIDTH" 64) rfl)
theorem Tx.c_Residue : Cls K (He.ga K "Residue") := He.cls_ok (T.s.d.fact 56 (f := .cls "Residue") rfl)
theorem Tx.mk_Residue : Mk K (He.ga K "Residue") (He.ma K (He.ga K "Residue") "__init__") := He.mkr_ok (T.s.d.fact 57 (f := .mkr "Residue") rfl)
theorem Tx.n_Residue_p : NoAttr K (He.ga K "Residue") "p" := He.noat_ok (T.s.d.fact 58 (f := .noat "Residue" "p") rfl)
theorem Tx.n_Residue_n : NoAttr K (He.ga K "Residue") "n" := He.noat_ok (T.s.d.fact 59 (f := .noat "Residue" "n") rfl)
theorem Tx.m_Residue_eq : Meth K (He.ga K "Residue") "__eq__" (He.ma K (He.ga K "Residue") "__eq__") := He.meth_ok (T.s.d.fact 60 (f := .meth "Residue" "__eq__") rfl)
theorem Tx.m_Residue_add : Meth K (He.ga K "Residue") "__add__" (He.ma K (He.ga K "Residue") "__add__") := He.meth_ok (T.s.d.fact 61 (f := .meth "Residue" "__add__") rfl)
theorem Tx.m_Residue_sub : Meth K (He.ga K "Residue") "__sub__" (He.ma K (He.ga K "Residue") "__sub__") := He.meth_ok (T.s.d.fact 62 (f := .meth "Residue" "__sub__") rfl)
theorem Tx.m_Residue_mul : Meth K (He.ga K "Residue") "__mul__" (He.ma K (He.ga K "Residue") "__mul__") := He.meth_ok (T.s.d.fact 63 (f := .meth "Residue" "__mul__") rfl)
theorem Tx.m_Residue_neg : Meth K (He.ga K "Residue") "__neg__" (He.ma K (He.ga K "Residue") "__neg__") := He.meth_ok (T.s.d.fact 64 (f := .meth "Residue" "__neg__") rfl)
theorem Tx.m_Residue_is_zero : Meth K (He.ga K "Residue") "is_zero" (He.ma K (He.ga K "Residue") "is_zero") := He.meth_ok (T.s.d.fact 65 (f := .meth "Residue" "is_zero") rfl)
theorem Tx.m_Residue_inverse : Meth K (He.ga K "Residue") "inverse" (He.ma K (He.ga K "Residue") "inverse") := He.meth_ok (T.s.d.fact 66 (f := .meth "Residue" "inverse") rfl)
theorem Tx.m_Residue_over : Meth K (He.ga K "Residue") "over" (He.ma K (He.ga K "Residue") "over") := He.meth_ok (T.s.d.fact 67 (f := .meth "Residue" "over") rfl)
theorem Tx.c_Ground : Cls K (He.ga K "Ground") := He.cls_ok (T.s.d.fact 68 (f := .cls "Ground") rfl)
theorem Tx.mk_Ground : Mk K (He.ga K "Ground") (He.ma K (He.ga K "Ground") "__init__") := He.mkr_ok (T.s.d.fact 69 (f := .mkr "Ground") rfl)
theorem Tx.n_Ground_p : NoAttr K (He.ga K "Ground") "p" := He.noat_ok (T.s.d.fact 70 (f := .noat "Ground" "p") rfl)
theorem Tx.m_Ground_eq : Meth K (He.ga K "Ground") "__eq__" (He.ma K (He.ga K "Ground") "__eq__") := He.meth_ok (T.s.d.fact 71 (f := .meth "Ground" "__eq__") rfl)
theorem Tx.m_Ground_number : Meth K (He.ga K "Ground") "number" (He.ma K (He.ga K "Ground") "number") := He.meth_ok (T.s.d.fact 72 (f := .meth "Ground" "number") rfl)
theorem Tx.m_Ground_zero : Meth K (He.ga K "Ground") "zero" (He.ma K (He.ga K "Ground") "zero") := He.meth_ok (T.s.d.fact 73 (f := .meth "Ground" "zero") rfl)
theorem Tx.m_Ground_is_member : Meth K (He.ga K "Ground") "is_member" (He.ma K (He.ga K "Ground") "is_member") := He.meth_ok (T.s.d.fact 74 (f := .meth "Ground" "is_member") rfl)
theorem Tx.c_Matrix : Cls K (He.ga K "Matrix") := He.cls_ok (T.s.d.fact 75 (f := .cls "Matrix") rfl)
theorem Tx.mk_Matrix : Mk K (He.ga K "Matrix") (He.ma K (He.ga K "Matrix") "__init__") := He.mkr_ok (T.s.d.fact 76 (f := .mkr "Matrix") rfl)
theorem Tx.n_Matrix_ground : NoAttr K (He.ga K "Matrix") "ground" := He.noat_ok (T.s.d.fact 77 (f := .noat "Matrix" "ground") rfl)
theorem Tx.n_Matrix_rows : NoAttr K (He.ga K "Matrix") "rows" := He.noat_ok (T.s.d.fact 78 (f := .noat "Matrix" "rows") rfl)
theorem Tx.n_Matrix_width : NoAttr K (He.ga K "Matrix") "width" := He.noat_ok (T.s.d.fact 79 (f := .noat "Matrix" "width") rfl)
theorem Tx.m_Matrix_len : Meth K (He.ga K "Matrix") "__len__" (He.ma K (He.ga K "Matrix") "__len__") := He.meth_ok (T.s.d.fact 80 (f := .meth "Matrix" "__len__") rfl)
theorem Tx.m_Matrix_eq : Meth K (He.ga K "Matrix") "__eq__" (He.ma K (He.ga K "Matrix") "__eq__") := He.meth_ok (T.s.d.fact 81 (f := .meth "Matrix" "__eq__") rfl)
theorem Tx.m_Matrix_add : Meth K (He.ga K "Matrix") "__add__" (He.ma K (He.ga K "Matrix") "__add__") := He.meth_ok (T.s.d.fact 82 (f := .meth "Matrix" "__add__") rfl)
theorem Tx.m_Matrix_before : Meth K (He.ga K "Matrix") "before" (He.ma K (He.ga K "Matrix") "before") := He.meth_ok (T.s.d.fact 83 (f := .meth "Matrix" "before") rfl)
theorem Tx.m_Matrix_transposed : Meth K (He.ga K "Matrix") "transposed" (He.ma K (He.ga K "Matrix") "transposed") := He.meth_ok (T.s.d.fact 84 (f := .meth "Matrix" "transposed") rfl)
theorem Tx.c_Plant : Cls K (He.ga K "Plant") := He.cls_ok (T.s.d.fact 85 (f := .cls "Plant") rfl)
theorem Tx.mk_Plant : Mk K (He.ga K "Plant") (He.ma K (He.ga K "Plant") "__init__") := He.mkr_ok (T.s.d.fact 86 (f := .mkr "Plant") rfl)
theorem Tx.n_Plant_a : NoAttr K (He.ga K "Plant") "a" := He.noat_ok (T.s.d.fact 87 (f := .noat "Plant" "a") rfl)
theorem Tx.n_Plant_b : NoAttr K (He.ga K "Plant") "b" := He.noat_ok (T.s.d.fact 88 (f := .noat "Plant" "b") rfl)
theorem Tx.n_Plant_c : NoAttr K (He.ga K "Plant") "c" := He.noat_ok (T.s.d.fact 89 (f := .noat "Plant" "c") rfl)
theorem Tx.m_Plant_size : Meth K (He.ga K "Plant") "size" (He.ma K (He.ga K "Plant") "size") := He.meth_ok (T.s.d.fact 90 (f := .meth "Plant" "size") rfl)
theorem Tx.m_Plant_fed : Meth K (He.ga K "Plant") "fed" (He.ma K (He.ga K "Plant") "fed") := He.meth_ok (T.s.d.fact 91 (f := .meth "Plant" "fed") rfl)
theorem Tx.d_is_integer : ∃ fd, FnP K "is_integer" "is_integer" s_is_integer [] (He.ga K "is_integer") fd := T.s.d.def_ 0 (d := K47.d_is_integer) rfl
theorem Tx.d_is_small_prime : ∃ fd, FnP K "is_small_prime" "is_small_prime" s_is_small_prime [] (He.ga K "is_small_prime") fd := T.s.d.def_ 1 (d := K47.d_is_small_prime) rfl
theorem Tx.d_Residue_init : ∃ fd, FnP K "__init__" "Residue.__init__" s_Residue_init [] (He.ma K (He.ga K "Residue") "__init__") fd := T.s.d.def_ 2 (d := K47.d_Residue_init) rfl
theorem Tx.d_Residue_eq : ∃ fd, FnP K "__eq__" "Residue.__eq__" s_Residue_eq [] (He.ma K (He.ga K "Residue") "__eq__") fd := T.s.d.def_ 3 (d := K47.d_Residue_eq) rfl
theorem Tx.d_Residue_add : ∃ fd, FnP K "__add__" "Residue.__add__" s_Residue_add [] (He.ma K (He.ga K "Residue") "__add__") fd := T.s.d.def_ 4 (d := K47.d_Residue_add) rfl
theorem Tx.d_Residue_sub : ∃ fd, FnP K "__sub__" "Residue.__sub__" s_Residue_sub [] (He.ma K (He.ga K "Residue") "__sub__") fd := T.s.d.def_ 5 (d := K47.d_Residue_sub) rfl
theorem Tx.d_Residue_mul : ∃ fd, FnP K "__mul__" "Residue.__mul__" s_Residue_mul [] (He.ma K (He.ga K "Residue") "__mul__") fd := T.s.d.def_ 6 (d := K47.d_Residue_mul) rfl
theorem Tx.d_Residue_neg : ∃ fd, FnP K "__neg__" "Residue.__neg__" s_Residue_neg [] (He.ma K (He.ga K "Residue") "__neg__") fd := T.s.d.def_ 7 (d := K47.d_Residue_neg) rfl
theorem Tx.d_Residue_is_zero : ∃ fd, FnP K "is_zero" "Residue.is_zero" s_Residue_is_zero [] (He.ma K (He.ga K "Residue") "is_zero") fd := T.s.d.def_ 8 (d := K47.d_Residue_is_zero) rfl
theorem Tx.d_Residue_inverse : ∃ fd, FnP K "inverse" "Residue.inverse" s_Residue_inverse [] (He.ma K (He.ga K "Residue") "inverse") fd := T.s.d.def_ 9 (d := K47.d_Residue_inverse) rfl
theorem Tx.d_Residue_over : ∃ fd, FnP K "over" "Residue.over" s_Residue_over [] (He.ma K (He.ga K "Residue") "over") fd := T.s.d.def_ 10 (d := K47.d_Residue_over) rfl
theorem Tx.d_Ground_init : ∃ fd, FnP K "__init__" "Ground.__init__" s_Ground_init [V.int 0] (He.ma K (He.ga K "Ground") "__init__") fd := T.s.d.def_ 11 (d := K47.d_Ground_init) rfl
theorem Tx.d_Ground_eq : ∃ fd, FnP K "__eq__" "Ground.__eq__" s_Ground_eq [] (He.ma K (He.ga K "Ground") "__eq__") fd := T.s.d.def_ 12 (d := K47.d_Ground_eq) rfl
theorem Tx.d_Ground_number : ∃ fd, FnP K "number" "Ground.number" s_Ground_number [V.int 1] (He.ma K (He.ga K "Ground") "number") fd := T.s.d.def_ 13 (d := K47.d_Ground_number) rfl
theorem Tx.d_Ground_zero : ∃ fd, FnP K "zero" "Ground.zero" s_Ground_zero [] (He.ma K (He.ga K "Ground") "zero") fd := T.s.d.def_ 14 (d := K47.d_Ground_zero) rfl
theorem Tx.d_Ground_is_member : ∃ fd, FnP K "is_member" "Ground.is_member" s_Ground_is_member [] (He.ma K (He.ga K "Ground") "is_member") fd := T.s.d.def_ 15 (d := K47.d_Ground_is_member) rfl
theorem Tx.d_taken : ∃ fd, FnP K "taken" "taken" s_taken [] (He.ga K "taken") fd := T.s.d.def_ 16 (d := K47.d_taken) rfl
theorem Tx.d_taken_rows : ∃ fd, FnP K "taken_rows" "taken_rows" s_taken_rows [] (He.ga K "taken_rows") fd := T.s.d.def_ 17 (d := K47.d_taken_rows) rfl
theorem Tx.d_row_times : ∃ fd, FnP K "row_times" "row_times" s_row_times [] (He.ga K "row_times") fd := T.s.d.def_ 18 (d := K47.d_row_times) rfl
theorem Tx.d_Matrix_init : ∃ fd, FnP K "__init__" "Matrix.__init__" s_Matrix_init [V.non] (He.ma K (He.ga K "Matrix") "__init__") fd := T.s.d.def_ 19 (d := K47.d_Matrix_init) rfl
theorem Tx.d_Matrix_len : ∃ fd, FnP K "__len__" "Matrix.__len__" s_Matrix_len [] (He.ma K (He.ga K "Matrix") "__len__") fd := T.s.d.def_ 20 (d := K47.d_Matrix_len) rfl
theorem Tx.d_Matrix_eq : ∃ fd, FnP K "__eq__" "Matrix.__eq__" s_Matrix_eq [] (He.ma K (He.ga K "Matrix") "__eq__") fd := T.s.d.def_ 21 (d := K47.d_Matrix_eq) rfl
theorem Tx.d_Matrix_add : ∃ fd, FnP K "__add__" "Matrix.__add__" s_Matrix_add [] (He.ma K (He.ga K "Matrix") "__add__") fd := T.s.d.def_ 22 (d := K47.d_Matrix_add) rfl
theorem Tx.d_Matrix_before : ∃ fd, FnP K "before" "Matrix.before" s_Matrix_before [] (He.ma K (He.ga K "Matrix") "before") fd := T.s.d.def_ 23 (d := K47.d_Matrix_before) rfl
theorem Tx.d_Matrix_transposed : ∃ fd, FnP K "transposed" "Matrix.transposed" s_Matrix_transposed [] (He.ma K (He.ga K "Matrix") "transposed") fd := T.s.d.def_ 24 (d := K47.d_Matrix_transposed) rfl
theorem Tx.d_check_alike : ∃ fd, FnP K "check_alike" "check_alike" s_check_alike [] (He.ga K "check_alike") fd := T.s.d.def_ 25 (d := K47.d_check_alike) rfl
theorem Tx.d_check_square : ∃ fd, FnP K "check_square" "check_square" s_check_square [] (He.ga K "check_square") fd := T.s.d.def_ 26 (d := K47.d_check_square) rfl
theorem Tx.d_reduce_rows : ∃ fd, FnP K "reduce_rows" "reduce_rows" s_reduce_rows [] (He.ga K "reduce_rows") fd := T.s.d.def_ 27 (d := K47.d_reduce_rows) rfl
theorem Tx.d_less : ∃ fd, FnP K "less" "less" s_less [] (He.ga K "less") fd := T.s.d.def_ 28 (d := K47.d_less) rfl
theorem Tx.d_kernel_rows : ∃ fd, FnP K "kernel_rows" "kernel_rows" s_kernel_rows [] (He.ga K "kernel_rows") fd := T.s.d.def_ 29 (d := K47.d_kernel_rows) rfl
theorem Tx.d_reduced : ∃ fd, FnP K "reduced" "reduced" s_reduced [] (He.ga K "reduced") fd := T.s.d.def_ 30 (d := K47.d_reduced) rfl
theorem Tx.d_kernel : ∃ fd, FnP K "kernel" "kernel" s_kernel [] (He.ga K "kernel") fd := T.s.d.def_ 31 (d := K47.d_kernel) rfl
theorem Tx.d_solve : ∃ fd, FnP K "solve" "solve" s_solve [] (He.ga K "solve") fd := T.s.d.def_ 32 (d := K47.d_solve) rfl
theorem Tx.d_own_row : ∃ fd, FnP K "own_row" "own_row" s_own_row [] (He.ga K "own_row") fd := T.s.d.def_ 33 (d := K47.d_own_row) rfl
theorem Tx.d_krylov_rows : ∃ fd, FnP K "krylov_rows" "krylov_rows" s_krylov_rows [] (He.ga K "krylov_rows") fd := T.s.d.def_ 34 (d := K47.d_krylov_rows) rfl
theorem Tx.d_krylov : ∃ fd, FnP K "krylov" "krylov" s_krylov [] (He.ga K "krylov") fd := T.s.d.def_ 35 (d := K47.d_krylov) rfl
theorem Tx.d_reachable_space : ∃ fd, FnP K "reachable_space" "reachable_space" s_reachable_space [] (He.ga K "reachable_space") fd := T.s.d.def_ 36 (d := K47.d_reachable_space) rfl
theorem Tx.d_unobservable_space : ∃ fd, FnP K "unobservable_space" "unobservable_space" s_unobservable_space [] (He.ga K "unobservable_space") fd := T.s.d.def_ 37 (d := K47.d_unobservable_space) rfl
theorem Tx.d_is_reachable : ∃ fd, FnP K "is_reachable" "is_reachable" s_is_reachable [] (He.ga K "is_reachable") fd := T.s.d.def_ 38 (d := K47.d_is_reachable) rfl
theorem Tx.d_is_observable : ∃ fd, FnP K "is_observable" "is_observable" s_is_observable [] (He.ga K "is_observable") fd := T.s.d.def_ 39 (d := K47.d_is_observable) rfl
theorem Tx.d_four_sizes : ∃ fd, FnP K "four_sizes" "four_sizes" s_four_sizes [] (He.ga K "four_sizes") fd := T.s.d.def_ 40 (d := K47.d_four_sizes) rfl
theorem Tx.d_taken_row : ∃ fd, FnP K "taken_row" "taken_row" s_taken_row [] (He.ga K "taken_row") fd := T.s.d.def_ 41 (d := K47.d_taken_row) rfl
theorem Tx.d_Plant_init : ∃ fd, FnP K "__init__" "Plant.__init__" s_Plant_init [] (He.ma K (He.ga K "Plant") "__init__") fd := T.s.d.def_ 42 (d := K47.d_Plant_init) rfl
theorem Tx.d_Plant_size : ∃ fd, FnP K "size" "Plant.size" s_Plant_size [] (He.ma K (He.ga K "Plant") "size") fd := T.s.d.def_ 43 (d := K47.d_Plant_size) rfl
theorem Tx.d_Plant_fed : ∃ fd, FnP K "fed" "Plant.fed" s_Plant_fed [] (He.ma K (He.ga K "Plant") "fed") fd := T.s.d.def_ 44 (d := K47.d_Plant_fed) rfl
theorem Tx.d_law_state : ∃ fd, FnP K "_law_state" "_law_state" s_law_state [] (He.ga K "_law_state") fd := T.s.d.def_ 45 (d := K47.d_law_state) rfl
theorem Tx.d_law_take : ∃ fd, FnP K "_law_take" "_law_take" s_law_take [] (He.ga K "_law_take") fd := T.s.d.def_ 46 (d := K47.d_law_take) rfl
theorem Tx.d_law_rest : ∃ fd, FnP K "_law_rest" "_law_rest" s_law_rest [] (He.ga K "_law_rest") fd := T.s.d.def_ 47 (d := K47.d_law_rest) rfl
theorem Tx.d_law_row : ∃ fd, FnP K "_law_row" "_law_row" s_law_row [] (He.ga K "_law_row") fd := T.s.d.def_ 48 (d := K47.d_law_row) rfl
theorem Tx.d_law_rows : ∃ fd, FnP K "_law_rows" "_law_rows" s_law_rows [] (He.ga K "_law_rows") fd := T.s.d.def_ 49 (d := K47.d_law_rows) rfl
theorem Tx.d_law_before : ∃ fd, FnP K "_law_before" "_law_before" s_law_before [] (He.ga K "_law_before") fd := T.s.d.def_ 50 (d := K47.d_law_before) rfl
theorem Tx.d_law_dot : ∃ fd, FnP K "_law_dot" "_law_dot" s_law_dot [] (He.ga K "_law_dot") fd := T.s.d.def_ 51 (d := K47.d_law_dot) rfl
theorem Tx.d_law_is : ∃ fd, FnP K "_law_is" "_law_is" s_law_is [] (He.ga K "_law_is") fd := T.s.d.def_ 52 (d := K47.d_law_is) rfl
theorem Tx.d_law_reached : ∃ fd, FnP K "_law_reached" "_law_reached" s_law_reached [] (He.ga K "_law_reached") fd := T.s.d.def_ 53 (d := K47.d_law_reached) rfl
theorem Tx.d_law_states : ∃ fd, FnP K "_law_states" "_law_states" s_law_states [] (He.ga K "_law_states") fd := T.s.d.def_ 54 (d := K47.d_law_states) rfl
theorem Tx.d_law_is_dark : ∃ fd, FnP K "_law_is_dark" "_law_is_dark" s_law_is_dark [] (He.ga K "_law_is_dark") fd := T.s.d.def_ 55 (d := K47.d_law_is_dark) rfl
theorem Tx.d_law_span : ∃ fd, FnP K "_law_span" "_law_span" s_law_span [] (He.ga K "_law_span") fd := T.s.d.def_ 56 (d := K47.d_law_span) rfl
theorem Tx.d_law_in_form : ∃ fd, FnP K "_law_in_form" "_law_in_form" s_law_in_form [] (He.ga K "_law_in_form") fd := T.s.d.def_ 57 (d := K47.d_law_in_form) rfl
theorem Tx.d_law_shows : ∃ fd, FnP K "_law_shows" "_law_shows" s_law_shows [] (He.ga K "_law_shows") fd := T.s.d.def_ 58 (d := K47.d_law_shows) rfl
theorem Tx.d_law_dimension : ∃ fd, FnP K "_law_dimension" "_law_dimension" s_law_dimension [] (He.ga K "_law_dimension") fd := T.s.d.def_ 59 (d := K47.d_law_dimension) rfl
theorem Tx.d_law : ∃ fd, FnP K "law" "law" s_law [] (He.ga K "law") fd := T.s.d.def_ 60 (d := K47.d_law) rfl
end

end K47

/-! text X0 -/
/-! rules of one's own: operators, unary minus, len, != of instances of own classes -/
namespace PySem.W
open PySem PySem.Calls PyProof.Rows Builtin
section
variable {prog : Program} {w : World} {A : Around} {E : Value → Shared → Prop} {s : Shared} {K : Frag} {x C L f : Addr} {h₀ : Heap} {m : Str → Option Value} {ox : Obj} {od : Option Obj} {b tb : Value}
def NeBk (Q : Value → Shared → Prop) (v : Value) (s' : Shared) : Prop := ∃ c, v = .bool c ∧ Q (.bool (!c)) s'
theorem ne_builtin {Q : Value → Shared → Prop} (hu : A.in1.units < cLine) (X : K.In s.heap) (I : InstAt s.heap x ox C od) (ho : mroIn K C (.type "object") = some true)
    (he : findIn K (.ref C) "__eq__" = some (some (.ref f))) (hf : isFn K (.ref f) = true)
    (h : wpAny (model prog w) A.in1 (call (.ref f) [.ref x, b]) (NeBk Q) E s) : wpAny (model prog w) A (call (.builtin "object.__ne__") [.ref x, b]) Q E s := by
  have sub : Looks (model prog w) s.heap (isInstance (.ref x) (.type "object")) true := I.type.andThen (looks_mroIn X ho)
  refine wpAny_call (codeAny_call_builtin PySem.F.cmp_object.ne.plain PySem.F.cmpEntry_ne (@check_slot (model prog w) _ _ s "object.__ne__" "object" "__ne__" (.ref x) [b] [] _ PySem.F.cmpKind_ne PySem.F.cmpSplit_ne sub (PySem.F.cmpArgs_ne _ _) ?_))
  obtain ⟨hp, g, d, t, os⟩ := s
  unfold Builtin.«object.__ne__»
  repeat (first
    | with_reducible refine wpAny_cRoomFor hu ?_
    | (refine wpAny_bind (m := callSpecialIfBound? (.ref x) (Str.ofString "__eq__") [b])
        (ifBound_K X I he hf (wpAny_mono h (fun r s' hr => by
          obtain ⟨c, rfl, hq⟩ := hr
          repeat (first | exact hq | exact wpAny_pure hq | exact wpAny_truthy_bool hq | (refine wpAny_bind (m := truthy (.bool _)) (wpAny_truthy_bool ?_)) | wp_step)) fun _ _ e => e)))
    | wp_step)
theorem ne_bound {Q : Option Value → Shared → Prop} {M : Model} (X : K.In s.heap) (I : InstAt s.heap x ox C od) (hs : findIn K (.ref C) "__ne__" = some (some (.builtin "object.__ne__")))
    (h : wpAny M A (call (.builtin "object.__ne__") [.ref x, b]) (fun v => Q (some v)) E s) : wpAny M A (callSpecialIfBound? (.ref x) "__ne__" [b]) Q E s := by
  simp only [callSpecialIfBound?, bindSpecialIfBound?]
  refine wpAny_holding (wpAny_bind (wpAny_bind (wpAny_bind (I.type.here ((looks_findIn X hs).here ?_)))))
  simp only [PySem.F.cmp_object.ne.bind]
  refine wpAny_bind (wpAny_askSetting (wpAny_ite ?_))
  have fin : wpAny M A (call (.builtin "object.__ne__") ([.ref x] ++ [b]) >>= fun v => pure (some v)) Q E s := wpAny_bind (wpAny_mono h (fun v s' h' => wpAny_pure h') fun _ _ h' => h')
  split
  · exact wpAny_bind (wpAny_pure (wpAny_pure fin))
  · exact wpAny_tryCatch (wpAny_bind (wpAny_pure (wpAny_pure fin)))
theorem ne_K {Q : Value → Shared → Prop} (hu : A.in1.units < cLine) (F : Fr h₀ L s.heap m) (X₀ : K.In h₀) (I : InstAt s.heap x ox C od) (hb : Looks (model prog w) s.heap (typeOf b) (.ref C)) (ho : mroIn K C (.type "object") = some true)
    (hs : findIn K (.ref C) "__ne__" = some (some (.builtin "object.__ne__"))) (he : findIn K (.ref C) "__eq__" = some (some (.ref f))) (hf : isFn K (.ref f) = true)
    (h : wpAny (model prog w) A.in1 (call (.ref f) [.ref x, b]) (NeBk Q) E s) : wpAny (model prog w) A (richCompare .NotEq (.ref x) b) Q E s := by
  have X := X₀.keeps F.keep
  have hu0 : A.units < cLine := Nat.lt_of_succ_lt (show A.units + 1 < cLine from hu)
  have one : wpAny (model prog w) A (tryCompare (.ref x) "__ne__" b) (fun r s' => ∃ v, r = some v ∧ Q v s') E s := by
    unfold tryCompare
    refine wpAny_bind (ne_bound X I hs (ne_builtin hu X I ho he hf (wpAny_mono h (fun v s' hv => ?_) fun _ _ e => e)))
    obtain ⟨c, rfl, hq⟩ := hv
    exact ⟨c, rfl, wpAny_pure ⟨_, rfl, hq⟩⟩
  unfold richCompare
  simp only [oneThing_ref]
  refine wpAny_holding (wpAny_bind (wpAny_cRoomFor hu0 ?_))
  rw [cmpInfo_NotEq]
  dsimp only
  refine wpAny_bind (I.type.here (wpAny_bind (hb.here ?_)))
  rw [show (Value.ref C != Value.ref C) = false from by simp]
  simp only [Bool.false_eq_true, if_false]
  refine wpAny_bind (wpAny_pure ?_)
  simp only [Bool.false_eq_true, if_false]
  refine wpAny_bind (wpAny_mono one (fun r s' z => ?_) fun _ _ e => e)
  obtain ⟨v, rfl, hq⟩ := z
  exact wpAny_pure hq
end
end PySem.W

namespace L2
open PySem PySem.Spec PyProof.Rows
section
variable {X : Cx} {CX : CXT} {n : Nat} {f C : Addr} {fd : FuncData} {ps : List Str} {sp : Sp} {E : XK}
theorem refs1 (a : Addr) : Vals [V.ref a] [Value.ref a] := .cons rfl .nil
theorem refs2 (a b : Addr) : Vals [V.ref a, V.ref b] [Value.ref a, Value.ref b] := .cons rfl (.cons rfl .nil)
/-- a callee runs somewhere below the body -/
theorem run_at (F : FnOk X.prog X.w X.K X.mg X.base CX n f fd ps sp) (hb : Binds X.K fd ps []) (hx : Passes CX X E) {A : Around} (sb : Sub X n A) {pins : List (Addr × Obj)} {σ : St} {H : Hp} {s : Shared} {Q : VK} {us : List Value} {vs : List V}
    (I : Inv X pins σ H s) (r : Vals vs us) (h : sp vs H Q E) : wpAny (model X.prog X.w) A (call (.ref f) us) (EP X pins σ Q) X.xe s := by
  have e0 : Env0 X.prog X.w X.K X.mg X.base A X.stack s H := by
    have e := I.env0
    exact ⟨by rw [sb.fr]; exact e.frames, e.mod, e.bs, e.bsz, e.funs, e.frf, e.hok, e.bare⟩
  have hl := F.len _ _ _ _ h
  refine wpAny_call (codeAny_mono (F.run A X.stack s H ⟨us, []⟩ us vs Q E sb.room e0 (by
    have := hb s us I.kIn (by simpa [← r.length] using hl)
    simpa using this) r h) fun r s' hq => ?_)
  cases r with
  | error e => exact hx pins σ H s e s' I hq
  | ok fl =>
    cases fl with
    | ret w => exact I.after hq
    | next => exact False.elim hq
    | brk => exact False.elim hq
    | cont => exact False.elim hq
theorem cmpBack_of {pins : List (Addr × Obj)} {σ : St} {Q : VK} {v : Value} {s : Shared} (h : EP X pins σ Q v s) : PySem.W.CmpBack (EP X pins σ Q) v s := by
  have h2 := h
  obtain ⟨x, H, I, r, q⟩ := h
  cases v <;> first | exact h2 | skip
  exfalso
  cases x with
  | non => cases r
  | bl _ => cases r
  | int _ => obtain ⟨t, e⟩ := r; cases e
  | str _ => obtain ⟨t, e⟩ := r; cases e
  | byt _ => obtain ⟨t, e⟩ := r; cases e
  | flt _ => obtain ⟨t, e⟩ := r; cases e
  | ref _ => cases r
  | ty _ => cases r
/-- x op y, both instances of the class at C, by C's own method -/
def rOwn (C : Addr) (sp : Sp) (E : XK) : R2 := fun x y H Q => ∃ a dx fs b dy gs, x = .ref a ∧ y = .ref b ∧ H a = some (.ins C dx fs) ∧ H b = some (.ins C dy gs) ∧ sp [.ref a, .ref b] H Q E
theorem op_own {op : Operator} (F : FnOk X.prog X.w X.K X.mg X.base CX n f fd ps sp) (hr : Room n X.A) (hs : PySem.W.findIn X.K (.ref C) (PySem.dunder op.info.2) = some (some (.ref f))) (hf : PySem.W.isFn X.K (.ref f) = true)
    (hc : PySem.W.selfFirst X.K C = true) (hb : Binds X.K fd ps []) (hx : Passes CX X E) : OpR X (binaryOp op) (rOwn C sp E) := by
  intro pins s σ H x y v u Q I rx ry h
  obtain ⟨a, dx, fs, b, dy, gs, rfl, rfl, ha, hb', h⟩ := h
  cases rx
  cases ry
  obtain ⟨mA, J, _⟩ := ins_get I.hok ha
  obtain ⟨mB, J', _⟩ := ins_get I.hok hb'
  obtain ⟨od, J, _⟩ := J.look
  obtain ⟨od', J', _⟩ := J'.look
  obtain ⟨m, hF⟩ := I.fr
  refine PySem.W.binop_K hF I.ok.mod.kin J J'.type hc hs hf (wpAny_mono (run_at F hb hx ⟨hr, rfl⟩ I (refs2 _ _) h) (fun v s' q => cmpBack_of q) fun _ _ e => e)
def rNegOwn (C : Addr) (sp : Sp) (E : XK) : V → Hp → VK → Prop := fun x H Q => ∃ a dx fs, x = .ref a ∧ H a = some (.ins C dx fs) ∧ sp [.ref a] H Q E
theorem un_negOwn (F : FnOk X.prog X.w X.K X.mg X.base CX n f fd ps sp) (hr : Room n X.A) (hs : PySem.W.findIn X.K (.ref C) "__neg__" = some (some (.ref f))) (hf : PySem.W.isFn X.K (.ref f) = true)
    (hb : Binds X.K fd ps []) (hx : Passes CX X E) : UnR X (unaryOp .USub) (rNegOwn C sp E) := by
  intro pins s σ H x v Q I rx h
  obtain ⟨a, dx, fs, rfl, ha, h⟩ := h
  cases rx
  obtain ⟨mA, J, _⟩ := ins_get I.hok ha
  obtain ⟨od, J, _⟩ := J.look
  obtain ⟨m, hF⟩ := I.fr
  exact PySem.W.ksp_neg hF I.ok.mod.kin J hs hf (run_at F hb hx ⟨hr, rfl⟩ I (refs1 _) h)
def rLenOwn (C : Addr) (sp : Sp) (E : XK) : List V → Hp → VK → Prop := fun xs H Q => ∃ a dx fs, xs = [.ref a] ∧ H a = some (.ins C dx fs) ∧ sp [.ref a] H (fun v H' => ∃ k : Int, v = .int k ∧ 0 ≤ k ∧ k < 2 ^ 63 ∧ Q (.int k) H') E
theorem call_lenOwn (F : FnOk X.prog X.w X.K X.mg X.base CX n f fd ps sp) (hr : Room (n + 1) X.A) (hs : PySem.W.findIn X.K (.ref C) "__len__" = some (some (.ref f))) (hf : PySem.W.isFn X.K (.ref f) = true)
    (hb : Binds X.K fd ps []) (hx : Passes CX X E) : CallR X (.builtin "len") (rLenOwn C sp E) := by
  intro pins s σ H xs us Q I r h
  obtain ⟨a, dx, fs, rfl, ha, h⟩ := h
  obtain ⟨u, rfl, ru⟩ := vals1 r
  cases ru
  obtain ⟨mA, J, _⟩ := ins_get I.hok ha
  obtain ⟨od, J, _⟩ := J.look
  obtain ⟨m, hF⟩ := I.fr
  refine PySem.W.len_K hF I.ok.mod.kin J hs hf (wpAny_mono (run_at F hb hx (A := X.A.in1) ⟨hr.in1, rfl⟩ I (refs1 _) h) (fun v s' q => ?_) fun _ _ e => e)
  obtain ⟨z, H', I', rz, k, rfl, h0, h1, q⟩ := q
  obtain ⟨t, rfl⟩ := rz
  exact ⟨⟨h0, h1⟩, ⟨.int k, H', I'.tok _, ⟨_, rfl⟩, q⟩⟩
/-- x != y where the own == gives True -/
def rNeG (D : Eqv) : R2 := fun x y H Q => D x y H ∧ ∀ H', Ext H H' → Q (.bl false) H'
theorem op_neOwn {R : Addr → Addr → Hp → Prop} (F : FnOk X.prog X.w X.K X.mg X.base CX n f fd ps (spEq R)) (hr : Room (n + 1) X.A) (ho : PySem.W.mroIn X.K C (.type "object") = some true)
    (hn : PySem.W.findIn X.K (.ref C) "__ne__" = some (some (.builtin "object.__ne__"))) (hs : PySem.W.findIn X.K (.ref C) "__eq__" = some (some (.ref f))) (hf : PySem.W.isFn X.K (.ref f) = true)
    (hb : Binds X.K fd ps []) (hx : Passes CX X E) : OpR X (compareOp .NotEq) (rNeG (DIns C R)) := by
  intro pins s σ H x y u v Q I rx ry h
  obtain ⟨⟨a, b, dx, dy, fs, gs, rfl, rfl, ha, hb', hR⟩, q⟩ := h
  cases rx
  cases ry
  obtain ⟨mA, J, _⟩ := ins_get I.hok ha
  obtain ⟨mB, J', _⟩ := ins_get I.hok hb'
  obtain ⟨od, J, _⟩ := J.look
  obtain ⟨od', J', _⟩ := J'.look
  obtain ⟨m, hF⟩ := I.fr
  show wpAny (model X.prog X.w) X.A (richCompare .NotEq (.ref a) (.ref b)) (EP X pins σ Q) X.xe s
  refine PySem.W.ne_K hr.in1.units0 hF I.ok.mod.kin J J'.type ho hn hs hf ?_
  have hsp : spEq R [.ref a, .ref b] H (fun v H' => v = .bl true ∧ Ext H H') E := ⟨a, b, rfl, hR, fun H' e => ⟨rfl, e⟩⟩
  refine wpAny_mono (run_at F hb hx (A := X.A.in1) ⟨hr.in1, rfl⟩ I (refs2 _ _) hsp) (fun v s' z => ?_) fun _ _ e => e
  obtain ⟨z, H', I', rz, rfl, ex⟩ := z
  cases rz
  exact ⟨true, rfl, ⟨.bl false, H', I', rfl, q H' ex⟩⟩
end
end L2

/-! text X1 -/
/-! what stands in the heap, told by data -/
namespace K47
open PySem PySem.Spec PyProof.Rows L2
class P23 (p : Nat) : Prop where
  h : p = 2 ∨ p = 3
instance instNZ {p : Nat} [h : P23 p] : NeZero p := ⟨by rcases h.h with e | e <;> omega⟩
theorem P23.pos (p : Nat) [h : P23 p] : 0 < p := by rcases h.h with e | e <;> omega
theorem P23.le (p : Nat) [h : P23 p] : p ≤ 3 := by rcases h.h with e | e <;> omega
theorem P23.two (p : Nat) [h : P23 p] : 2 ≤ p := by rcases h.h with e | e <;> omega
abbrev Zp (p : Nat) := _root_.Fin p
theorem inv2_ : ∀ x : Zp 2, x ≠ 0 → (if 2 = 2 then 1 else x) * x = 1 := by decide
theorem inv3_ : ∀ x : Zp 3, x ≠ 0 → (if 3 = 2 then 1 else x) * x = 1 := by decide
theorem one2_ : (1 : Zp 2) ≠ 0 := by decide
theorem one3_ : (1 : Zp 3) ≠ 0 := by decide
theorem inv23 {p : Nat} [h : P23 p] (x : Zp p) (hx : x ≠ 0) : (if p = 2 then 1 else x) * x = 1 := by
  rcases h.h with e | e
  · subst e; exact inv2_ x hx
  · subst e; exact inv3_ x hx
instance fldFin (p : Nat) [h : P23 p] : Fld (Zp p) where
  inv := fun x => if p = 2 then 1 else x
  inv_mul := fun x hx => inv23 x hx
  all := List.finRange p
  all_nodup := List.nodup_finRange p
  mem_all := fun x => List.mem_finRange x
  one_ne := by
    rcases h.h with e | e
    · subst e; exact one2_
    · subst e; exact one3_

/-! ### hiding one address -/
def hide (l : Addr) (H : Hp) : Hp := fun b => if b = l then none else H b
theorem hide_self {l : Addr} {H : Hp} : hide l H l = none := by unfold hide; rw [if_pos rfl]
theorem hide_ne {l b : Addr} {H : Hp} (h : b ≠ l) : hide l H b = H b := by unfold hide; rw [if_neg h]
theorem hide_le {l : Addr} {H : Hp} : Same (hide l H) H := fun b o h => by
  by_cases e : b = l
  · rw [e, hide_self] at h; cases h
  · rw [hide_ne e] at h; exact h
theorem hide_mono {l : Addr} {H H' : Hp} (s : Same H H') : Same (hide l H) (hide l H') := fun b o h => by
  by_cases e : b = l
  · rw [e, hide_self] at h; cases h
  · rw [hide_ne e] at h ⊢; exact s b o h
theorem hide_upd {l : Addr} {H : Hp} {o : HO} : hide l (upd H l o) = hide l H := by
  funext b
  by_cases e : b = l
  · rw [e, hide_self, hide_self]
  · rw [hide_ne e, hide_ne e, upd_ne e]
theorem same_hide {l : Addr} {H H' : Hp} (s : Same H H') (h : H l = none) : Same H (hide l H') := fun b o e => by
  rw [hide_ne (ne_of_none e h)]; exact s b o e
theorem same_upd {H : Hp} {l : Addr} {o : HO} (h : H l = none) : Same H (upd H l o) := fun b u e => by rw [upd_ne (ne_of_none e h)]; exact e
theorem same_upd' {H H' : Hp} {l : Addr} {o : HO} (s : Same H H') (h : H l = none) : Same H (upd H' l o) := fun b u e => by rw [upd_ne (ne_of_none e h)]; exact s b u e
/-- what may be hidden: a list, a dict -/
def Mu : HO → Prop
  | .lst _ => True
  | .dT _ => True
  | _ => False

/-! ### data -/
abbrev Dn := V → Hp → Prop
def Mon1 (D : Dn) : Prop := ∀ v H H', Same H H' → D v H → D v H'
def Imm (D : Dn) : Prop := ∀ v H l o, H l = some o → Mu o → D v H → D v (hide l H)
inductive Al {α : Type} (R : α → Dn) (H : Hp) : List α → List V → Prop where
  | nil : Al R H [] []
  | cons {x : α} {v : V} {xs : List α} {vs : List V} (h : R x v H) (t : Al R H xs vs) : Al R H (x :: xs) (v :: vs)
section
variable {α β : Type} {R : α → Dn} {H H' : Hp}
theorem Al.length : ∀ {xs : List α} {vs : List V}, Al R H xs vs → vs.length = xs.length
  | _, _, .nil => rfl
  | _, _, .cons _ t => by rw [List.length_cons, List.length_cons, Al.length t]
theorem Al.get : ∀ {xs : List α} {vs : List V} {i : Nat} {x : α}, Al R H xs vs → xs[i]? = some x → ∃ v, vs[i]? = some v ∧ R x v H
  | _, _, _, _, .nil, e => by simp at e
  | _, _, 0, _, .cons r _, e => by simp at e; subst e; exact ⟨_, rfl, r⟩
  | _, _, i + 1, x, .cons _ t, e => by
    obtain ⟨u, h1, h2⟩ := Al.get (i := i) (x := x) t (by simpa using e)
    exact ⟨u, by simpa using h1, h2⟩
theorem Al.get' {xs : List α} {vs : List V} {i : Nat} {v : V} (a : Al R H xs vs) (e : vs[i]? = some v) : ∃ x, xs[i]? = some x ∧ R x v H := by
  have hi : i < xs.length := by rw [← a.length]; exact (List.getElem?_eq_some_iff.mp e).1
  obtain ⟨u, h1, h2⟩ := a.get (List.getElem?_eq_getElem hi)
  rw [e] at h1; cases h1
  exact ⟨_, List.getElem?_eq_getElem hi, h2⟩
theorem Al.imp {S : α → Dn} (h : ∀ x v, R x v H → S x v H') : ∀ {xs : List α} {vs : List V}, Al R H xs vs → Al S H' xs vs
  | _, _, .nil => .nil
  | _, _, .cons r t => .cons (h _ _ r) (Al.imp h t)
theorem Al.mono (m : ∀ x, Mon1 (R x)) (s : Same H H') {xs : List α} {vs : List V} (a : Al R H xs vs) : Al R H' xs vs := a.imp fun x v r => m x v H H' s r
theorem Al.append : ∀ {xs ys : List α} {vs ws : List V}, Al R H xs vs → Al R H ys ws → Al R H (xs ++ ys) (vs ++ ws)
  | _, _, _, _, .nil, s => s
  | _, _, _, _, .cons r t, s => .cons r (Al.append t s)
theorem Al.snoc {xs : List α} {vs : List V} {x : α} {v : V} (a : Al R H xs vs) (r : R x v H) : Al R H (xs ++ [x]) (vs ++ [v]) := a.append (.cons r .nil)
theorem Al.take : ∀ {xs : List α} {vs : List V} (n : Nat), Al R H xs vs → Al R H (xs.take n) (vs.take n)
  | _, _, 0, _ => .nil
  | _, _, _ + 1, .nil => .nil
  | _, _, n + 1, .cons r t => .cons r (Al.take n t)
theorem Al.drop : ∀ {xs : List α} {vs : List V} (n : Nat), Al R H xs vs → Al R H (xs.drop n) (vs.drop n)
  | _, _, 0, r => r
  | _, _, _ + 1, .nil => .nil
  | _, _, n + 1, .cons _ t => Al.drop n t
theorem Al.map {S : β → Dn} (f : β → α) : ∀ {xs : List β} {vs : List V}, Al R H (xs.map f) vs → (∀ x v, R (f x) v H → S x v H) → Al S H xs vs
  | [], _, .nil, _ => .nil
  | _ :: _, _, .cons r t, h => .cons (h _ _ r) (Al.map f t h)
theorem Al.map' {S : β → Dn} (f : α → β) (h : ∀ x v, R x v H → S (f x) v H) : ∀ {xs : List α} {vs : List V}, Al R H xs vs → Al S H (xs.map f) vs
  | _, _, .nil => .nil
  | _, _, .cons r t => .cons (h _ _ r) (Al.map' f h t)
end
/-- a tuple of these; a list of these; either -/
def TupOf {α : Type} (R : α → Dn) (xs : List α) : Dn := fun v H => ∃ a vs, v = .ref a ∧ H a = some (.tup vs) ∧ Al R H xs vs
def LstOf {α : Type} (R : α → Dn) (xs : List α) : Dn := fun v H => ∃ a vs, v = .ref a ∧ H a = some (.lst vs) ∧ Al R H xs vs
def SeqOf {α : Type} (R : α → Dn) (xs : List α) : Dn := fun v H => LstOf R xs v H ∨ TupOf R xs v H
/-- an int -/
def In {p : Nat} (x : Zp p) : Dn := fun v _ => v = .int (x.val : Int)
def NatV (n : Nat) : Dn := fun v _ => v = .int (n : Int)
section
variable {α : Type} {R : α → Dn}
theorem mon_tup (m : ∀ x, Mon1 (R x)) (xs : List α) : Mon1 (TupOf R xs) := fun v H H' s ⟨a, vs, e, h, al⟩ => ⟨a, vs, e, s _ _ h, al.mono m s⟩
theorem mon_lst (m : ∀ x, Mon1 (R x)) (xs : List α) : Mon1 (LstOf R xs) := fun v H H' s ⟨a, vs, e, h, al⟩ => ⟨a, vs, e, s _ _ h, al.mono m s⟩
theorem mon_seq (m : ∀ x, Mon1 (R x)) (xs : List α) : Mon1 (SeqOf R xs) := fun v H H' s h => h.elim (fun h => .inl (mon_lst m xs v H H' s h)) fun h => .inr (mon_tup m xs v H H' s h)
theorem mon_in {p : Nat} (x : Zp p) : Mon1 (In x) := fun _ _ _ _ h => h
theorem mon_nat (n : Nat) : Mon1 (NatV n) := fun _ _ _ _ h => h
theorem imm_in {p : Nat} (x : Zp p) : Imm (In x) := fun _ _ _ _ _ _ h => h
theorem imm_nat (n : Nat) : Imm (NatV n) := fun _ _ _ _ _ _ h => h
theorem imm_tup (m : ∀ x, Imm (R x)) (xs : List α) : Imm (TupOf R xs) := fun v H l o hl hm ⟨a, vs, e, h, al⟩ => by
  have ne : a ≠ l := fun z => by rw [z, hl] at h; cases h; exact hm
  exact ⟨a, vs, e, by rw [hide_ne ne]; exact h, al.imp fun x v r => m x v H l o hl hm r⟩
/-- a list at another place -/
theorem lst_hide (m : ∀ x, Imm (R x)) {xs : List α} {v : V} {H : Hp} {l : Addr} {o : HO} (hl : H l = some o) (hm : Mu o) (h : LstOf R xs v H) (ne : v ≠ .ref l) : LstOf R xs v (hide l H) := by
  obtain ⟨a, vs, e, h, al⟩ := h
  have ne : a ≠ l := fun z => ne (by rw [e, z])
  exact ⟨a, vs, e, by rw [hide_ne ne]; exact h, al.imp fun x v r => m x v H l o hl hm r⟩
end

/-! ### the rules in short: a call of a method, an operator -/
section
variable {X : Cx} {k j : Nat} {C : Addr} {x m : Str} {sp : Sp}
theorem vals_nil {ds : List Value} (h : Vals [] ds) : ds = [] := by cases h; rfl
theorem op_met {op : Operator} (c : C8.Met X.prog X.w X.K X.mg X.base k C m sp []) (hm : m = PySem.dunder op.info.2) (hr : Room j X.A) (hk : k ≤ j) (hc : PySem.W.selfFirst X.K C = true) : OpR X (binaryOp op) (rOwn C sp C8.E0) := by
  obtain ⟨f, fd, ps, ds, hcl, hme, F, b, d⟩ := c.ex
  have e := vals_nil d
  subst e
  subst hm
  exact op_own F (hr.mono hk) hme.at_ hme.fn hc b C8.pass0
theorem neg_met (c : C8.Met X.prog X.w X.K X.mg X.base k C "__neg__" sp []) (hr : Room j X.A) (hk : k ≤ j) : UnR X (unaryOp .USub) (rNegOwn C sp C8.E0) := by
  obtain ⟨f, fd, ps, ds, hcl, hme, F, b, d⟩ := c.ex
  have e := vals_nil d
  subst e
  exact un_negOwn F (hr.mono hk) hme.at_ hme.fn b C8.pass0
theorem len_met (c : C8.Met X.prog X.w X.K X.mg X.base k C "__len__" sp []) (hr : Room j X.A) (hk : k + 1 ≤ j) : CallR X (.builtin "len") (rLenOwn C sp C8.E0) := by
  obtain ⟨f, fd, ps, ds, hcl, hme, F, b, d⟩ := c.ex
  have e := vals_nil d
  subst e
  exact call_lenOwn F (hr.mono hk) hme.at_ hme.fn b C8.pass0
end

/-! ### the objects of the program -/
def rf (p n : Int) : List (Str × V) := [("p", .int p), ("n", .int n)]
theorem rf_p (p n : Int) : (rf p n).lookup ("p" : Str) = some (.int p) := by kernel_rfl
theorem rf_n (p n : Int) : (rf p n).lookup ("n" : Str) = some (.int n) := by kernel_rfl
theorem rf_put (p n : Int) : putF "n" (.int n) (putF "p" (.int p) []) = rf p n := by kernel_rfl
def gf (p : Int) : List (Str × V) := [("p", .int p)]
theorem gf_p (p : Int) : (gf p).lookup ("p" : Str) = some (.int p) := by kernel_rfl
def mf (g t : V) (w : Int) : List (Str × V) := [("ground", g), ("rows", t), ("width", .int w)]
theorem mf_ground (g t : V) (w : Int) : (mf g t w).lookup ("ground" : Str) = some g := by kernel_rfl
theorem mf_rows (g t : V) (w : Int) : (mf g t w).lookup ("rows" : Str) = some t := by kernel_rfl
theorem mf_width (g t : V) (w : Int) : (mf g t w).lookup ("width" : Str) = some (.int w) := by kernel_rfl
theorem mf_put (g t : V) (w : Int) : putF "width" (.int w) (putF "rows" t (putF "ground" g [])) = mf g t w := by kernel_rfl
def pf (a b c : V) : List (Str × V) := [("a", a), ("b", b), ("c", c)]
theorem pf_a (a b c : V) : (pf a b c).lookup ("a" : Str) = some a := by kernel_rfl
theorem pf_b (a b c : V) : (pf a b c).lookup ("b" : Str) = some b := by kernel_rfl
theorem pf_c (a b c : V) : (pf a b c).lookup ("c" : Str) = some c := by kernel_rfl
theorem pf_put (a b c : V) : putF "c" c (putF "b" b (putF "a" a [])) = pf a b c := by kernel_rfl
section
variable (K : PySem.W.Frag)
def Rs {p : Nat} (x : Zp p) : Dn := fun v H => ∃ a dx, v = .ref a ∧ H a = some (.ins (cR K) dx (rf p x.val))
def Gr (p : Nat) : Dn := fun v H => ∃ a dx, v = .ref a ∧ H a = some (.ins (cG K) dx (gf p))
abbrev RowT {p : Nat} (xs : List (Zp p)) : Dn := TupOf (Rs K) xs
abbrev RowsT {p : Nat} (rs : List (List (Zp p))) : Dn := TupOf (TupOf (Rs K)) rs
def Mt {p : Nat} (rows : List (List (Zp p))) (w : Nat) : Dn := fun v H => ∃ a dx g t, v = .ref a ∧ H a = some (.ins (cM K) dx (mf g t w)) ∧ Gr K p g H ∧ RowsT K rows t H
def Pl {p : Nat} (n : Nat) (A : List (List (Zp p))) (b c : List (Zp p)) : Dn := fun v H => ∃ a dx m x y, v = .ref a ∧ H a = some (.ins (cP K) dx (pf m x y)) ∧ Mt K A n m H ∧ RowT K b x H ∧ RowT K c y H
/-- an int or a number of the ground -/
def Itm {p : Nat} (x : Zp p) : Dn := fun v H => In x v H ∨ Rs K x v H
end
section
variable {K : PySem.W.Frag} {p : Nat}
theorem mon_rs (x : Zp p) : Mon1 (Rs K x) := fun v H H' s ⟨a, dx, e, h⟩ => ⟨a, dx, e, s _ _ h⟩
theorem mon_gr : Mon1 (Gr K p) := fun v H H' s ⟨a, dx, e, h⟩ => ⟨a, dx, e, s _ _ h⟩
theorem mon_rowT (xs : List (Zp p)) : Mon1 (RowT K xs) := mon_tup mon_rs xs
theorem mon_rowsT (xs : List (List (Zp p))) : Mon1 (RowsT K xs) := mon_tup (mon_tup mon_rs) xs
theorem mon_mt (rows : List (List (Zp p))) (w : Nat) : Mon1 (Mt K rows w) := fun v H H' s ⟨a, dx, g, t, e, h, hg, ht⟩ => ⟨a, dx, g, t, e, s _ _ h, mon_gr g H H' s hg, mon_rowsT _ t H H' s ht⟩
theorem mon_pl (n : Nat) (A : List (List (Zp p))) (b c : List (Zp p)) : Mon1 (Pl K n A b c) := fun v H H' s ⟨a, dx, m, x, y, e, h, hm, hx, hy⟩ =>
  ⟨a, dx, m, x, y, e, s _ _ h, mon_mt _ _ m H H' s hm, mon_rowT _ x H H' s hx, mon_rowT _ y H H' s hy⟩
theorem mon_it (x : Zp p) : Mon1 (Itm K x) := fun v H H' s h => h.elim .inl fun h => .inr (mon_rs x v H H' s h)
theorem ins_hide {H : Hp} {a l : Addr} {o : HO} {C dx : Addr} {fs : List (Str × V)} (h : H a = some (.ins C dx fs)) (hl : H l = some o) (hm : Mu o) : hide l H a = some (.ins C dx fs) := by
  have ne : a ≠ l := fun z => by rw [z, hl] at h; cases h; exact hm
  rw [hide_ne ne]; exact h
theorem imm_rs (x : Zp p) : Imm (Rs K x) := fun v H l o hl hm ⟨a, dx, e, h⟩ => ⟨a, dx, e, ins_hide h hl hm⟩
theorem imm_gr : Imm (Gr K p) := fun v H l o hl hm ⟨a, dx, e, h⟩ => ⟨a, dx, e, ins_hide h hl hm⟩
theorem imm_rowT (xs : List (Zp p)) : Imm (RowT K xs) := imm_tup imm_rs xs
theorem imm_rowsT (xs : List (List (Zp p))) : Imm (RowsT K xs) := imm_tup (imm_tup imm_rs) xs
theorem imm_mt (rows : List (List (Zp p))) (w : Nat) : Imm (Mt K rows w) := fun v H l o hl hm ⟨a, dx, g, t, e, h, hg, ht⟩ => ⟨a, dx, g, t, e, ins_hide h hl hm, imm_gr g H l o hl hm hg, imm_rowsT _ t H l o hl hm ht⟩
theorem imm_it (x : Zp p) : Imm (Itm K x) := fun v H l o hl hm h => h.elim .inl fun h => .inr (imm_rs x v H l o hl hm h)
end

/-! ### comprehensions -/
section
variable {β : Type} {J : It} {n : Nat} {G : Hp → Prop} {Y : Nat → Hp → V → Hp → Prop}
theorem small1k {k n : Nat} (h : k < n) (hn : n ≤ 1000) : k < sizeLine := small1000 (by omega)
theorem lc_sel (w : Walk J n G Y) {g : TG} {tt : TT} {te : TE} {vs : List Nat} {σ : L2.St} {H1 : Hp} {D : Addr} {Qd : Hp → Prop} (keep : Nat → Bool) (f : Nat → β) (R : β → Dn) (hR : ∀ b, Mon1 (R b)) (hn : n ≤ 1000) (hD : H1 D = none)
    (hG : ∀ H, Same H1 H → G H)
    (hs : ∀ i x H H', i < n → Same H1 H → (∃ acc, H D = some (.lst acc)) → Y i H x H' → ∀ (Kk : V → Hp → Prop) (N : Hp → Prop),
      (keep i = true → ∀ y H4, Same H H4 → R (f i) y (hide D H4) → Kk y H4) → (keep i = false → ∀ H3, Same H H3 → N H3) →
      g x (wipe σ vs) H' fun σ2 H2 => wipe σ2 vs = wipe σ vs ∧ tt σ2 H2 fun b H3 => if b = true then te σ2 H3 Kk else N H3)
    (hd : ∀ H us, Same H1 H → H D = some (.lst us) → Al R (hide D H) (((List.range n).filter keep).map f) us → Qd H) :
    ∃ W : Nat → Nat → Hp → Prop, (∃ m, W 0 m (upd H1 D (.lst []))) ∧ ∀ i m H, W i m H →
      (J.stop i H ∧ Qd H) ∨ (J.go i H ∧ ∃ Nx : Hp → Prop, (∀ H', Nx H' → ∃ m', m' < m ∧ W (i + 1) m' H') ∧ ∀ x H', J.yld i H x H' → g x (wipe σ vs) H' fun σ2 H2 => wipe σ2 vs = wipe σ vs ∧ tt σ2 H2 fun b H3 =>
        if b = true then te σ2 H3 fun y H4 => ∃ acc, H4 D = some (.lst acc) ∧ acc.length < sizeLine ∧ Nx (upd H4 D (.lst (acc ++ [y]))) else Nx H3) := by
  refine lc_it w (fun i H => Same H1 H ∧ ∃ acc, H D = some (.lst acc) ∧ acc.length ≤ i ∧ Al R (hide D H) (((List.range i).filter keep).map f) acc)
    ⟨same_upd hD, [], upd_same, Nat.le_refl _, .nil⟩ (fun i H hi ⟨s, _⟩ => hG H s) (fun i x H H' hi ⟨s, acc, ha, hl, al⟩ y => ?_) (fun H ⟨s, acc, ha, hl, al⟩ => hd H acc s ha al)
  refine hs i x H H' hi s ⟨acc, ha⟩ y _ _ (fun hk z H4 s4 hz => ?_) (fun hk H3 s3 => ?_)
  · refine ⟨acc, s4 _ _ ha, small1k (Nat.lt_of_le_of_lt hl hi) hn, same_upd' (s.trans s4) hD, acc ++ [z], upd_same, by rw [List.length_append, List.length_singleton]; omega, ?_⟩
    rw [hide_upd, List.range_succ, List.filter_append, List.map_append]
    refine (al.mono hR (hide_mono s4)).append ?_
    rw [List.filter_cons_of_pos (by exact hk)]
    exact .cons hz .nil
  · refine ⟨s.trans s3, acc, s3 _ _ ha, by omega, ?_⟩
    rw [List.range_succ, List.filter_append, List.map_append, List.filter_cons_of_neg (by rw [hk]; exact Bool.false_ne_true)]
    rw [List.filter_nil, List.map_nil, List.append_nil]
    exact al.mono hR (hide_mono s3)
/-- .. with no test -/
theorem lc_map (w : Walk J n G Y) {g : TG} {te : TE} {vs : List Nat} {σ : L2.St} {H1 : Hp} {D : Addr} {Qd : Hp → Prop} (f : Nat → β) (R : β → Dn) (hR : ∀ b, Mon1 (R b)) (hn : n ≤ 1000) (hD : H1 D = none)
    (hG : ∀ H, Same H1 H → G H)
    (hs : ∀ i x H H', i < n → Same H1 H → (∃ acc, H D = some (.lst acc)) → Y i H x H' → ∀ (Kk : V → Hp → Prop),
      (∀ y H4, Same H H4 → R (f i) y (hide D H4) → Kk y H4) → g x (wipe σ vs) H' fun σ2 H2 => wipe σ2 vs = wipe σ vs ∧ te σ2 H2 Kk)
    (hd : ∀ H us, Same H1 H → H D = some (.lst us) → Al R (hide D H) ((List.range n).map f) us → Qd H) :
    ∃ W : Nat → Nat → Hp → Prop, (∃ m, W 0 m (upd H1 D (.lst []))) ∧ ∀ i m H, W i m H →
      (J.stop i H ∧ Qd H) ∨ (J.go i H ∧ ∃ Nx : Hp → Prop, (∀ H', Nx H' → ∃ m', m' < m ∧ W (i + 1) m' H') ∧ ∀ x H', J.yld i H x H' → g x (wipe σ vs) H' fun σ2 H2 => wipe σ2 vs = wipe σ vs ∧ tYes σ2 H2 fun b H3 =>
        if b = true then te σ2 H3 fun y H4 => ∃ acc, H4 D = some (.lst acc) ∧ acc.length < sizeLine ∧ Nx (upd H4 D (.lst (acc ++ [y]))) else Nx H3) :=
  lc_sel w (fun _ => true) f R hR hn hD hG (fun i x H H' hi s ha y Kk N h1 _ => hs i x H H' hi s ha y Kk (h1 rfl)) fun H us s h al => hd H us s h (by
    have e : (List.range n).filter (fun _ => true) = List.range n := List.filter_eq_self.mpr fun _ _ => rfl
    rw [e] at al; exact al)
end
end K47

/-! text X2 -/
/-! zip of a list and a tuple -/
namespace K47
open PySem PySem.Spec PyProof.Rows L2
/-- the list at a and the tuple at b as they stand at each turn, the items in new pairs -/
def ItzM (K : PySem.W.Frag) (a b : Addr) : L2.It where
  go := fun i H => ∃ (xs ys : List V) (x y : V), SqL K H a xs ∧ SqT K H b ys ∧ xs[i]? = some x ∧ ys[i]? = some y
  yld := fun i H v H' => ∃ T x y, v = .ref T ∧ H T = none ∧ H' = upd H T (.tup [x, y]) ∧ (∀ xs, SqL K H a xs → xs[i]? = some x) ∧ ∀ ys, SqT K H b ys → ys[i]? = some y
  stop := fun i H => ∃ xs ys : List V, SqL K H a xs ∧ SqT K H b ys ∧ xs.length = i ∧ ys.length = i
theorem sep_of {z TI TO i1 i2 a b : Addr} (D : ZipApart z TI TO i1 i2 a b) : ZipSep2 z TI TO i1 i2 [i1, a] [i2, b] where
  TIz := D.TIz
  TOz := D.TOz
  TITO := D.TITO
  TIi1 := D.TIi1
  mem1 := List.mem_cons_self
  zf1 := by simp [D.i1z.symm, D.l1z.symm]
  Tf1 := by simp [D.TOi1, D.l1TO.symm]
  TIi2 := D.TIi2
  mem2 := List.mem_cons_self
  zf2 := by simp [D.i2z.symm, D.l2z.symm]
  Tf2 := by simp [D.TOi2, D.l2TO.symm]
  sep1_2 := by simp [D.i12, D.l2i1.symm]
  sep2_1 := by simp [D.i12.symm, D.l1i2.symm]

def zSt (a b z TI TO i1 i2 : Addr) : Nat → Heap → Prop := fun i h =>
  IsZip h z TI TO .none ∧ IsTupOf2 h TI (.ref i1) (.ref i2) ∧ (∃ a1 a2, IsTupOf2 h TO a1 a2) ∧ h.IsListIter i1 a i ∧ h.IsTupleIter i2 b i
theorem turn_zipM {P : Program} {w : World} {K : PySem.W.Frag} {elts : List Expr} {kk : Nat} {tpos : Pos} {a b z TI TO i1 i2 : Addr} (D : ZipApart z TI TO i1 i2 a b) :
    Turn P w K (.Tuple elts kk tpos) (ItzM K a b) [z, TI, TO, i1, i2] z (zSt a b z TI TO i1 i2) where
  mem := List.mem_cons_self
  obj := fun i h st c hc => by
    obtain ⟨s1, s2, ⟨x, y, s3⟩, ⟨o1, e1, _, d1⟩, ⟨o2, e2, _, d2⟩⟩ := st
    simp only [List.mem_cons, List.not_mem_nil, or_false] at hc
    rcases hc with q | q | q | q | q <;> subst q
    · exact ⟨_, s1, fun v q => nomatch q⟩
    · exact ⟨_, s2, fun v q => nomatch q⟩
    · exact ⟨_, s3, fun v q => nomatch q⟩
    · exact ⟨o1, e1, fun v q => by rw [d1] at q; cases q⟩
    · exact ⟨o2, e2, fun v q => by rw [d2] at q; cases q⟩
  keep := fun i h h' st k => by
    obtain ⟨s1, s2, ⟨x, y, s3⟩, s4, s5⟩ := st
    exact ⟨k z (by simp) _ s1, k TI (by simp) _ s2, ⟨x, y, k TO (by simp) _ s3⟩, s4.at fun o q => k i1 (by simp) o q, s5.at fun o q => k i2 (by simp) o q⟩
  item := by
    intro X hP hw hK hc i pins s σ H E I hf st hg
    subst hP hw hK
    obtain ⟨xs, ys, x, y, qx, qy, hx, hy⟩ := hg
    obtain ⟨us, ru, pu, _⟩ := I.list qx
    obtain ⟨ws, rw_, pw, _⟩ := I.tuple qy
    have hh : X.A.in1.handled = none := I.ok.hd hc
    obtain ⟨s1, s2, s3, s4, s5⟩ := st
    have lz : z < s.heap.objs.size := Heap.lt_size s1
    have W := GoesN.zip2 (prog := X.prog) (w := X.w) (A := X.A) (elts := elts) (x1 := kk) (pos := tpos) (sep_of D) (Draws.list hh i1 a D.l1i1 us.toArray) (Draws.tuple hh i2 b D.l2i2 ws.toArray)
    have h1 : i < us.toArray.size := by
      have := (List.getElem?_eq_some_iff.mp hx).1
      rw [List.size_toArray, ← ru.length]; exact this
    have h2 : i < ws.toArray.size := by
      have := (List.getElem?_eq_some_iff.mp hy).1
      rw [List.size_toArray, ← rw_.length]; exact this
    refine W.goes i s _ _ (Nat.lt_min.mpr ⟨h1, h2⟩) ⟨s1, s2, s3, ⟨s4, pu.isList⟩, ⟨s5, pw⟩⟩ fun v h' tk hY st' hk _ => ?_
    obtain ⟨T, u, u2, rfl, hT, e1, e2, o, ho, hoc, n, hod⟩ := hY
    obtain ⟨t1, t2, t3, ⟨t4, _⟩, ⟨t5, _⟩⟩ := st'
    obtain ⟨u', eu, ru'⟩ := ru.get hx
    obtain ⟨w', ew, rw'⟩ := rw_.get hy
    have eu2 : u = u' := by
      have e1' : us[i]? = some u := by simpa using e1
      rw [e1'] at eu; exact Option.some.inj eu
    have ew2 : u2 = w' := by
      have e2' : ws[i]? = some u2 := by simpa using e2
      rw [e2'] at ew; exact Option.some.inj ew
    subst eu2 ew2
    have new : ObjOk X.prog X.w (upd H T (.tup [x, y])) h' T (.tup [x, y]) :=
      ⟨by show 2 ≤ sizeLine; decide, [u, u2], .cons ru' (.cons rw' .nil), ⟨o, ho, hoc, n, hod⟩⟩
    have I1 : Inv X pins σ (upd H T (.tup [x, y])) { s with heap := h', toks := tk } :=
      I.turnedNew (ch := [z, TI, TO, i1, i2]) (fun c ob hb q => hk c ob (fun q' => hb (by
        simp only [List.mem_cons, List.not_mem_nil, or_false] at q' ⊢
        rcases q' with e | e | e | e
        · exact .inl e
        · exact .inr (.inr (.inl e))
        · exact .inr (.inr (.inr (.inl e)))
        · exact .inr (.inr (.inr (.inr e))))) q) hf hT new
    refine ⟨.ref T, _, I1, rfl, ⟨T, x, y, rfl, I.hok.fresh hT, rfl, fun l hl => by rw [I.list_inj hl qx]; exact hx, fun l hl => by rw [I.tuple_inj hl qy]; exact hy⟩, ⟨t1, t2, t3, t4, t5⟩, fun c hcm => ?_⟩
    have hlt : c < s.heap.objs.size := by
      simp only [List.mem_cons, List.not_mem_nil, or_false] at hcm
      rcases hcm with q | q | q | q | q <;> subst q
      · exact lz
      · exact Heap.lt_size s2
      · obtain ⟨_, _, q⟩ := s3; exact Heap.lt_size q
      · obtain ⟨_, e1, _⟩ := s4; exact Heap.lt_size e1
      · obtain ⟨_, e2, _⟩ := s5; exact Heap.lt_size e2
    rw [upd_ne (Nat.ne_of_lt (Nat.lt_of_lt_of_le hlt hT))]
    exact (hf c hcm).1
  done := by
    intro X hP hw hK hc i pins s σ H E I hf st hg
    subst hP hw hK
    obtain ⟨xs, ys, qx, qy, l1, l2⟩ := hg
    obtain ⟨us, ru, pu, _⟩ := I.list qx
    obtain ⟨ws, rw_, pw, _⟩ := I.tuple qy
    have hh : X.A.in1.handled = none := I.ok.hd hc
    obtain ⟨s1, s2, s3, s4, s5⟩ := st
    have W := GoesN.zip2 (prog := X.prog) (w := X.w) (A := X.A) (elts := elts) (x1 := kk) (pos := tpos) (sep_of D) (Draws.list hh i1 a D.l1i1 us.toArray) (Draws.tuple hh i2 b D.l2i2 ws.toArray)
    have e : min us.toArray.size ws.toArray.size = i := by
      have := ru.length
      have := rw_.length
      rw [List.size_toArray, List.size_toArray]
      omega
    refine W.stops s _ _ (by rw [e]; exact ⟨s1, s2, s3, ⟨s4, pu.isList⟩, ⟨s5, pw⟩⟩) fun h' tk hk _ => ?_
    exact I.turnedL (ch := [z, TI, TO, i1, i2]) (fun c ob hb q => hk c ob (fun q' => hb (by
        simp only [List.mem_cons, List.not_mem_nil, or_false] at q' ⊢
        rcases q' with e | e | e | e
        · exact .inl e
        · exact .inr (.inr (.inl e))
        · exact .inr (.inr (.inr (.inl e)))
        · exact .inr (.inr (.inr (.inr e))))) q) hf
  self := fun A i s Q E st h => wpAny_pyIter_zip st.1 h
def iZipM (K : PySem.W.Frag) (ta : TA) : TI := fun σ H R => ta σ H fun vs H1 => ∃ a b xs ys, vs = [.ref a, .ref b] ∧ SqL K H1 a xs ∧ SqT K H1 b ys ∧ R (ItzM K a b) H1
theorem pi_zipM {X : Cx} {e e2 : Expr} {ta : TA} {p pos tpos : Pos} {elts : List Expr} {kk : Nat} (hg : Gl X "zip") (hm : X.mg "zip" = none) (ha : PA X [e, e2] ta)
    (hs : starEach [e, e2] X.env = (false, eval e X.env) :: starEach [e2] X.env := by rfl) (hpl : (backTo pos (starEach [e2] X.env)).any (·.1) = false := by rfl) :
    PI X (.Tuple elts kk tpos) (.Call (.Name "zip" p) [e, e2] [] pos) (iZipM X.K ta) := by
  refine ⟨fun pins s σ H R I h => ?_⟩
  refine Call_ (ld_blt I hg hm boot_zip (callWith_type1 (thn (ha.run pos pins s σ H _ I h) fun us s1 ⟨vs, H1, I1, r1, q1⟩ => ?_) hs hpl))
  obtain ⟨a, b, xs, ys, rfl, qx, qy, q⟩ := q1
  obtain ⟨u1, u2, rfl, r, r'⟩ := vals2 r1
  cases r
  cases r'
  obtain ⟨us, ru, pu, _⟩ := I1.list qx
  obtain ⟨ws, rw_, pw, _⟩ := I1.tuple qy
  obtain ⟨o2, ho2, _⟩ := id pw
  refine zip_begins2 (begins_list a us.toArray) (begins_tuple b ws.toArray) pu.isList pw fun h' hz hTI hTO h1 h2 hsz hk => wpAny_pyIter_zip hz ?_
  have I2 : Inv X pins σ H1 { s1 with heap := h' } := I1.kept (t' := s1.toks) hk
  refine ⟨s1.heap.objs.size + 4, [s1.heap.objs.size + 4, s1.heap.objs.size + 2, s1.heap.objs.size + 3, s1.heap.objs.size, s1.heap.objs.size + 1], _, _, H1, rfl, I2, turn_zipM (PySem.W.ktu_apart s1.heap.objs.size a b pu.lt (Heap.lt_size ho2)),
    ⟨hz, hTI, ⟨_, _, hTO⟩, ⟨_, h1, rfl, rfl⟩, ⟨_, h2, rfl, rfl⟩⟩, fun c hcm => ?_, q⟩
  have hle : s1.heap.objs.size ≤ c := by
    simp only [List.mem_cons, List.not_mem_nil, or_false] at hcm
    rcases hcm with q | q | q | q | q <;> subst q
    · exact Nat.le_add_right _ _
    · exact Nat.le_add_right _ _
    · exact Nat.le_add_right _ _
    · exact Nat.le_refl _
    · exact Nat.le_add_right _ _
  exact I1.fpOk hle (I1.hok.fresh hle)
section
variable {K : PySem.W.Frag} {a b : Addr} {xs ys : List V}
theorem walk_zipM (hl : xs.length = ys.length) : Walk (ItzM K a b) xs.length (fun H => SqL K H a xs ∧ SqT K H b ys) (YPair (fun i => xs[i]?) (fun i => ys[i]?)) :=
  ⟨fun i H hi q => ⟨xs, ys, xs[i], ys[i], q.1, q.2, by simp [hi], by simp [hl ▸ hi]⟩, fun H q => ⟨xs, ys, q.1, q.2, rfl, hl.symm⟩,
    fun i H v H' hi q ⟨T, x, y, e1, e2, e3, e4, e5⟩ => ⟨T, x, y, e1, e2, e3, e4 xs q.1, e5 ys q.2⟩⟩
theorem walk_zipT (hl : xs.length = ys.length) : Walk (RZ.ItzT K a b) xs.length (fun H => SqT K H a xs ∧ SqT K H b ys) (YPair (fun i => xs[i]?) (fun i => ys[i]?)) :=
  ⟨fun i H hi q => ⟨xs, ys, xs[i], ys[i], q.1, q.2, by simp [hi], by simp [hl ▸ hi]⟩, fun H q => ⟨xs, ys, q.1, q.2, .inl (Nat.le_refl _)⟩,
    fun i H v H' hi q ⟨T, x, y, e1, e2, e3, e4, e5⟩ => ⟨T, x, y, e1, e2, e3, e4 xs q.1, e5 ys q.2⟩⟩
end

/-! a list or a tuple, walked -/
def iSeq (K : PySem.W.Frag) (tl : TE) : TI := fun σ H R => tl σ H fun x H1 => ∃ a, x = .ref a ∧ ((∃ xs, SqL K H1 a xs ∧ R (Itl K a) H1) ∨ (∃ xs, SqT K H1 a xs ∧ R (Itt K a) H1))
theorem pi_seq {X : Cx} {tg l : Expr} {tl : TE} (hl : PE X l tl) : PI X tg l (iSeq X.K tl) := by
  refine ⟨fun pins s σ H R I h => ?_⟩
  refine thn (hl.run pins s σ H _ I h) fun v s1 ⟨x, H1, I1, r1, q1⟩ => ?_
  obtain ⟨a, rfl, q1⟩ := q1
  cases r1
  have fp : ∀ b ∈ [s1.heap.objs.size], FpOk X pins H1 b := fun b hb => by
    rw [List.mem_singleton.mp hb]
    exact I1.fpOk (Nat.le_refl _) (I1.hok.fresh (Nat.le_refl _))
  have kp : ∀ ob : Obj, Inv X pins σ H1 { s1 with heap := s1.heap.push ob } := fun ob => I1.kept (t' := s1.toks) fun b o e => Heap.get?_push_of_some _ e
  rcases q1 with ⟨xs, hq, q⟩ | ⟨xs, hq, q⟩
  · obtain ⟨its, rv, p, hz⟩ := I1.list hq
    exact wpAny_pyIter_list p.isList ⟨_, _, _, _, H1, rfl, kp _, turn_list a _, ⟨_, Heap.get?_push_size _ rfl, rfl, rfl⟩, fp, q⟩
  · obtain ⟨its, rv, p, hz⟩ := I1.tuple hq
    exact wpAny_pyIter_tuple (show s1.heap.IsTuple a its.toArray from p) ⟨_, _, _, _, H1, rfl, kp _, turn_tuple a _, ⟨_, Heap.get?_push_size _ rfl, rfl, rfl⟩, fp, q⟩
end K47

/-! text W0 -/
/-! the defs, one by one: how each is taken from the text; the numbers -/
namespace K47
open PySem PySem.Spec PyProof.Rows L2
theorem ifT {c A B : Prop} [Decidable c] (hc : c) (h : A) : if decide c = true then A else B := by
  rw [decide_eq_true hc]
  exact iteT h
theorem ifF {c A B : Prop} [Decidable c] (hc : ¬ c) (h : B) : if decide c = true then A else B := by
  rw [decide_eq_false hc]
  exact iteF h
theorem ifNT {c A B : Prop} [Decidable c] (hc : ¬ c) (h : A) : if (!decide c) = true then A else B := by
  rw [decide_eq_false hc]
  exact iteT h
theorem ifNF {c A B : Prop} [Decidable c] (hc : c) (h : B) : if (!decide c) = true then A else B := by
  rw [decide_eq_true hc]
  exact iteF h
theorem ifD {c A B : Prop} [Decidable c] (h1 : c → A) (h2 : ¬ c → B) : if decide c = true then A else B := by
  by_cases h : c
  · exact ifT h (h1 h)
  · exact ifF h (h2 h)
theorem ifND {c A B : Prop} [Decidable c] (h1 : ¬ c → A) (h2 : c → B) : if (!decide c) = true then A else B := by
  by_cases h : c
  · exact ifNF h (h2 h)
  · exact ifNT h (h1 h)
theorem ifB {b : Bool} {A B : Prop} (h1 : b = true → A) (h2 : b = false → B) : if b = true then A else B := by
  cases b with
  | true => exact iteT (h1 rfl)
  | false => exact iteF (h2 rfl)
section
variable {P : Program} {w : World} {K : PySem.W.Frag} {mg : Str → Option Value} {base : Heap}
abbrev BodyOk (P : Program) (w : World) (K : PySem.W.Frag) (mg : Str → Option Value) (base : Heap) (N : List Str) (qual : Str) (st : Stmt) (f : Addr) (k : Nat) (sp : Sp) : Prop :=
  ∀ (cdv : Value) (A : Around) (outer : List Env) (s : Shared) (H : Hp) (vs : List V) (Q : VK) (E : XK), Room k (A.deeper (envOfC qual (defScope st) s.heap.objs.size f cdv)) → sp vs H Q E →
      ∃ t, PSs (cxOf C8.CX0 P w K mg base N qual (defScope st) f cdv A outer s H E).nox (defBody st) t ∧ t { nx := fun _ H' => Q .non H', rt := Q } (start N vs) H
abbrev BindOk (x qual : Str) (st : Stmt) (ps : List Str) : Prop :=
  ∀ (kV doc pm : Value) (an : Option Addr) (cdv ct : Value) (us : List Value), us.length = ps.length → bindArgs (PySem.W.fnOf x qual (defArgs st) (defBody st) (defScope st) .none kV doc pm an cdv ct) ⟨us, []⟩ = pure (ps.zip us)
theorem fnok {x qual : Str} {st : Stmt} {f : Addr} {fd : FuncData} {dvs : List V} {N ps : List Str} {k : Nat} {sp : Sp} (F : FnP K x qual st dvs f fd) (S : FnScope N ps (defScope st)) (len : ∀ vs H Q E, sp vs H Q E → vs.length = ps.length)
    (body : BodyOk P w K mg base N qual st f k sp) : FnOk P w K mg base C8.CX0 (k + 1) f fd ps sp :=
  F.ok S len fun cdv A outer s H vs Q E hr h => by
    obtain ⟨t, a, b⟩ := body cdv A outer s H vs Q E hr h
    exact ⟨t, a.nox, b⟩
theorem cal_mk {x : Str} {st : Stmt} {N ps : List Str} {k : Nat} {sp : Sp} (hm : mg x = some (.ref (He.ga K x))) (F : ∃ fd, FnP K x x st [] (He.ga K x) fd) (S : FnScope N ps (defScope st)) (b : BindOk x x st ps)
    (len : ∀ vs H Q E, sp vs H Q E → vs.length = ps.length) (body : BodyOk P w K mg base N x st (He.ga K x) k sp) : C8.Cal P w K mg base (k + 1) x sp [] := by
  obtain ⟨fd, F⟩ := F
  exact ⟨_, fd, ps, [], fnok F S len body, hm, F.kp, F.bindsN b, .nil⟩
theorem met_mk {C : Addr} {m qual : Str} {st : Stmt} {N ps : List Str} {k : Nat} {sp : Sp} (hc : Cls K C) (hm : Meth K C m (He.ma K C m)) (F : ∃ fd, FnP K m qual st [] (He.ma K C m) fd) (S : FnScope N ps (defScope st)) (b : BindOk m qual st ps)
    (len : ∀ vs H Q E, sp vs H Q E → vs.length = ps.length) (body : BodyOk P w K mg base N qual st (He.ma K C m) k sp) : C8.Met P w K mg base (k + 1) C m sp [] := by
  obtain ⟨fd, F⟩ := F
  exact ⟨_, fd, ps, [], hc, hm, fnok F S len body, F.bindsN b, .nil⟩
theorem mak_mk {x qual : Str} {st : Stmt} {N ps : List Str} {k : Nat} {sp : Sp} (M : Mk K (He.ga K x) (He.ma K (He.ga K x) "__init__")) (hm : mg x = some (.ref (He.ga K x))) (F : ∃ fd, FnP K "__init__" qual st [] (He.ma K (He.ga K x) "__init__") fd)
    (S : FnScope N ps (defScope st)) (b : BindOk "__init__" qual st ps)
    (len : ∀ vs H Q E, sp vs H Q E → vs.length = ps.length) (body : BodyOk P w K mg base N qual st (He.ma K (He.ga K x) "__init__") k sp) : C8.Mak P w K mg base (k + 1) x (He.ga K x) sp [] := by
  obtain ⟨fd, F⟩ := F
  exact ⟨_, fd, ps, [], M, fnok F S len body, hm, F.bindsN b, .nil⟩
end

/-! ### is_integer -/
section
variable {P : Program} {w : World} {K : PySem.W.Frag} {mg : Str → Option Value} {base : Heap}
/-- an int, or a number modulo p -/
def spIsInt (K : PySem.W.Frag) : Sp := fun vs H Q _ => ∃ x : V, vs = [x] ∧ ((∃ i : Int, x = .int i ∧ Q (.bl true) H) ∨ (∃ (p : Nat) (n : Zp p), Rs K n x H ∧ Q (.bl false) H))
theorem and3 {a b : Bool} (h : (a && b) = true) : a = true ∧ b = true := Bool.and_eq_true_iff.mp h
/-- isinstance of own classes, from K's facts -/
structure IsiF (K : PySem.W.Frag) (C : Addr) : Prop where
  ha : PySem.W.findIn K (.ref C) "__class__" = some (some (.builtin "object.__class__"))
  hn : PySem.W.specialIn K (.builtin "object.__class__") "__get__" = some (some (.builtin "getset_descriptor.__get__"))
  htk : PySem.W.takesIn K (.builtin "object.__class__") = some true
  hm : PySem.W.mroIn K C (.type "object") = some true
theorem isiB_ok {K : PySem.W.Frag} {x : Str} (h : isiB K x = true) : IsiF K (He.ga K x) := by
  obtain ⟨h1, h⟩ := and3 h
  obtain ⟨h2, h⟩ := and3 h
  obtain ⟨h3, h4⟩ := and3 h
  exact ⟨He.eqO_ok h1, He.eqO_ok h2, of_decide_eq_true h3, of_decide_eq_true h4⟩
structure ExF (K : PySem.W.Frag) : Prop where
  primes : ∀ H, SqT K H (He.ga K "PRIMES") [.int 2, .int 3, .int 5, .int 7, .int 11, .int 13, .int 17, .int 19, .int 23, .int 29, .int 31]
  iR : IsiF K (cR K)
  iG : IsiF K (cG K)
  iM : IsiF K (cM K)
  rInt : PySem.W.kitOne K (.ref (cR K)) (.type "int") = some false
  rR : PySem.W.kitOne K (.ref (cR K)) (.ref (cR K)) = some true
  gG : PySem.W.kitOne K (.ref (cG K)) (.ref (cG K)) = some true
  mM : PySem.W.kitOne K (.ref (cM K)) (.ref (cM K)) = some true
  sR : PySem.W.selfFirst K (cR K) = true
  sM : PySem.W.selfFirst K (cM K) = true
  neG : PySem.W.findIn K (.ref (cG K)) "__ne__" = some (some (.builtin "object.__ne__"))
theorem Tx.ex (T : Tx K mg) : ExF K := by
  obtain ⟨h1, h⟩ := and3 T.s.more
  obtain ⟨h2, h⟩ := and3 h
  obtain ⟨h3, h⟩ := and3 h
  obtain ⟨h4, h⟩ := and3 h
  obtain ⟨h5, h⟩ := and3 h
  obtain ⟨h6, h⟩ := and3 h
  obtain ⟨h7, h⟩ := and3 h
  obtain ⟨h8, h⟩ := and3 h
  obtain ⟨h9, h⟩ := and3 h
  obtain ⟨h10, h11⟩ := and3 h
  exact ⟨fun H => He.tupB_ok h1 H, isiB_ok h2, isiB_ok h3, isiB_ok h4, of_decide_eq_true h5, of_decide_eq_true h6, of_decide_eq_true h7, of_decide_eq_true h8, h9, h10, He.eqO_ok h11⟩
theorem tyR (T : Tx K mg) {H : Hp} {a dx : Addr} {fs : List (Str × V)} (h : H a = some (.ins (cR K) dx fs)) : TyX K H (.ref a) (.ref (cR K)) :=
  .base (.ins h T.c_Residue T.ex.iR.ha T.ex.iR.hn T.ex.iR.htk T.ex.iR.hm)
theorem tyG (T : Tx K mg) {H : Hp} {a dx : Addr} {fs : List (Str × V)} (h : H a = some (.ins (cG K) dx fs)) : TyX K H (.ref a) (.ref (cG K)) :=
  .base (.ins h T.c_Ground T.ex.iG.ha T.ex.iG.hn T.ex.iG.htk T.ex.iG.hm)
theorem tyM (T : Tx K mg) {H : Hp} {a dx : Addr} {fs : List (Str × V)} (h : H a = some (.ins (cM K) dx fs)) : TyX K H (.ref a) (.ref (cM K)) :=
  .base (.ins h T.c_Matrix T.ex.iM.ha T.ex.iM.hn T.ex.iM.htk T.ex.iM.hm)
theorem kit_int_int : PySem.W.kitOne K (.type "int") (.type "int") = some true := kit_ty (by decide +kernel)
theorem kit_int_bool : PySem.W.kitOne K (.type "int") (.type "bool") = some false := kit_ty (by decide +kernel)
theorem kit_bool_bool : PySem.W.kitOne K (.type "bool") (.type "bool") = some true := kit_ty (by decide +kernel)
theorem sc_is_integer : FnScope ["value"] ["value"] (defScope s_is_integer) := ⟨rfl, rfl, rfl, by decide +kernel, rfl, by decide +kernel, by decide +kernel⟩
theorem ok_is_integer (T : Tx K mg) : C8.Cal P w K mg base 1 "is_integer" (spIsInt K) [] := by
  refine cal_mk T.g_is_integer T.d_is_integer sc_is_integer (fun _ _ _ _ _ _ us hl => match us, hl with | [_], _ => rfl) (fun vs H Q E h => ?_) (fun cdv A outer s H vs Q E hr h => ?_)
  · obtain ⟨x, rfl, _⟩ := h; rfl
  · obtain ⟨x, rfl, h⟩ := h
    refine ⟨_, pss_one (ps_ret (pe_and (pe_callB call_isi (by rfl) T.b_isinstance boot_isinstance (pa_cons (pv 0) (pa_cons (pe_bltn (v := .ty "int") (by rfl) T.b_int boot_int rfl) pa_nil)))
      (pe_one (pe_not (pe_callB call_isi (by rfl) T.b_isinstance boot_isinstance (pa_cons (pv 0) (pa_cons (pe_bltn (v := .ty "bool") (by rfl) T.b_bool boot_bool rfl) pa_nil))))))), ?_⟩
    rcases h with ⟨i, rfl, q⟩ | ⟨p, n, ⟨a, dx, rfl, ha⟩, q⟩
    · refine ⟨_, rfl, _, _, _, _, true, rfl, .ty _, .base (.int i), kit_int_int, true, rfl, ?_⟩
      refine iteT ⟨_, rfl, _, _, _, _, false, rfl, .ty _, .base (.int i), kit_int_bool, false, rfl, q⟩
    · refine ⟨_, rfl, _, _, _, _, false, rfl, .ty _, tyR T ha, T.ex.rInt, false, rfl, ?_⟩
      exact iteF q
end
end K47

/-! text W1 -/
/-! the numbers modulo p -/
namespace K47
open PySem PySem.Spec PyProof.Rows L2
/-! ### plain -/
def zi (p : Nat) [P23 p] (n : Int) : Zp p := ⟨(n % (p : Int)).toNat, by
  have h := P23.pos p
  have h1 := Int.emod_nonneg n (show (p : Int) ≠ 0 by omega)
  have h2 := Int.emod_lt_of_pos n (show (0 : Int) < p by omega)
  omega⟩
theorem zi_val (p : Nat) [P23 p] (n : Int) : ((zi p n).val : Int) = n % (p : Int) := by
  have h := P23.pos p
  have h1 := Int.emod_nonneg n (show (p : Int) ≠ 0 by omega)
  show (((n % (p : Int)).toNat : Nat) : Int) = _
  omega
theorem zi_eq {p : Nat} [P23 p] {n : Int} {x : Zp p} (h : n % (p : Int) = (x.val : Int)) : zi p n = x := by
  refine Fin.ext ?_
  have := zi_val p n
  omega
theorem zi_add {p : Nat} [P23 p] (x y : Zp p) : zi p ((x.val : Int) + y.val) = x + y := zi_eq (by
  show _ = (((x.val + y.val) % p : Nat) : Int)
  rw [Int.natCast_emod, Int.natCast_add])
theorem zi_mul {p : Nat} [P23 p] (x y : Zp p) : zi p ((x.val : Int) * y.val) = x * y := zi_eq (by
  show _ = (((x.val * y.val) % p : Nat) : Int)
  rw [← Int.natCast_mul]; omega)
theorem zi_sub {p : Nat} [h : P23 p] (x y : Zp p) : zi p ((x.val : Int) - y.val) = x - y := zi_eq (by
  show _ = ((((p - y.val) + x.val) % p : Nat) : Int)
  have := x.isLt
  have := y.isLt
  rcases h.h with e | e <;> subst e <;> omega)
theorem zi_neg {p : Nat} [h : P23 p] (x : Zp p) : zi p (-(x.val : Int)) = -x := zi_eq (by
  show _ = (((p - x.val) % p : Nat) : Int)
  have := x.isLt
  rcases h.h with e | e <;> subst e <;> omega)
theorem zi_self {p : Nat} [h : P23 p] (x : Zp p) : zi p (x.val : Int) = x := zi_eq (by
  have := x.isLt
  rcases h.h with e | e <;> subst e <;> omega)
theorem zi_zero {p : Nat} [h : P23 p] : zi p 0 = 0 := zi_eq (by
  show _ = ((0 % p : Nat) : Int)
  rw [Int.natCast_emod]; rfl)
theorem zi_one {p : Nat} [h : P23 p] : zi p 1 = 1 := zi_eq (by
  show _ = ((1 % p : Nat) : Int)
  rw [Int.natCast_emod]; rfl)
theorem val_zero {p : Nat} [h : P23 p] {x : Zp p} : (x.val : Int) = 0 ↔ x = 0 := by
  constructor
  · intro h
    refine Fin.ext ?_
    show x.val = 0 % p
    rw [Nat.zero_mod]; omega
  · intro h
    rw [h]
    show ((0 % p : Nat) : Int) = 0
    rw [Nat.zero_mod]; rfl

section
variable {P : Program} {w : World} {K : PySem.W.Frag} {mg : Str → Option Value} {base : Heap}
theorem set_ne {H : Hp} {b : Addr} {o u : HO} {a : Addr} (h : b ≠ a) (e : H b = some u) : upd H a o b = some u := by rw [upd_ne h]; exact e
/-! ### is_small_prime -/
def spPrime : Sp := fun vs H Q _ => ∃ p : Nat, vs = [.int (p : Int)] ∧ (p = 2 ∨ p = 3) ∧ Q (.bl true) H
theorem sc_is_small_prime : FnScope ["value"] ["value"] (defScope s_is_small_prime) := ⟨rfl, rfl, rfl, by decide +kernel, rfl, by decide +kernel, by decide +kernel⟩
theorem ok_is_small_prime (T : Tx K mg) : C8.Cal P w K mg base 2 "is_small_prime" spPrime [] := by
  refine cal_mk T.g_is_small_prime T.d_is_small_prime sc_is_small_prime (fun _ _ _ _ _ _ us hl => match us, hl with | [_], _ => rfl) (fun vs H Q E h => ?_) (fun cdv A outer s H vs Q E hr h => ?_)
  · obtain ⟨x, rfl, _⟩ := h; rfl
  · obtain ⟨p, rfl, hp, q⟩ := h
    refine ⟨_, pss_one (ps_ret (pe_and (C8.pe_c (ok_is_integer T) hr (Nat.le_refl _) (by rfl) (pa_cons (pv 0) pa_nil))
      (pe_one (pe_cmpR op_in_seq (pv 0) (pe_glob (v := .ref (He.ga K "PRIMES")) (by rfl) T.g_PRIMES rfl) (by rfl))))), ?_⟩
    refine ⟨_, rfl, _, rfl, .inl ⟨(p : Int), rfl, true, rfl, iteT ⟨_, rfl, _, _, rfl, .inr (T.ex.primes H), rfl, by decide, ?_⟩⟩⟩
    rcases hp with e | e
    · subst e; exact q
    · subst e; exact q
/-! ### Residue -/
def spRsInit (K : PySem.W.Frag) : Sp := fun vs H Q _ => ∃ (a dx : Addr) (p : Nat) (n : Int), vs = [.ref a, .int (p : Int), .int n] ∧ (p = 2 ∨ p = 3) ∧ H a = some (.ins (cR K) dx []) ∧
  ∀ H' : Hp, H' a = some (.ins (cR K) dx (rf p (n % (p : Int)))) → (∀ b o, H b = some o → b ≠ a → H' b = some o) → Q .non H'
theorem sc_rs_init : FnScope ["self", "p", "n"] ["self", "p", "n"] (defScope s_Residue_init) := ⟨rfl, rfl, rfl, by decide +kernel, rfl, by decide +kernel, by decide +kernel⟩
theorem ok_rs_init (T : Tx K mg) : C8.Mak P w K mg base 3 "Residue" (cR K) (spRsInit K) [] := by
  refine mak_mk T.mk_Residue T.g_Residue T.d_Residue_init sc_rs_init (fun _ _ _ _ _ _ us hl => match us, hl with | [_, _, _], _ => rfl) (fun vs H Q E h => ?_) (fun cdv A outer s H vs Q E hr h => ?_)
  · obtain ⟨a, dx, p, n, rfl, _⟩ := h; rfl
  · obtain ⟨a, dx, p, n, rfl, hp, ha, q⟩ := h
    refine ⟨_, pss_cons (ps_if (PW.pt (pw_or (pt_not (pt_val (C8.pe_c (ok_is_small_prime T) hr (by decide) (by rfl) (pa_cons (pv 1) pa_nil)))) (pw_or1 (pt_not (pt_val (C8.pe_c (ok_is_integer T) hr (by decide) (by rfl) (pa_cons (pv 2) pa_nil)))))))
        (pss_one ps_never) pss_nil)
      (pss_cons (ps_fld (pv 0) (pv 1) rfl) (pss_one (ps_fld (pv 0) (pe_op op_mod (pv 2) (pv 1)) rfl))), ?_⟩
    refine ⟨_, rfl, p, rfl, hp, true, rfl, iteF ⟨_, rfl, _, rfl, .inl ⟨n, rfl, true, rfl, iteF ?_⟩⟩⟩
    refine ⟨_, rfl, _, rfl, a, cR K, dx, [], rfl, ha, T.c_Residue, T.n_Residue_p, (by show 0 < 1000; decide), ?_⟩
    refine ⟨_, rfl, _, rfl, _, _, rfl, rfl, (by show (0 : Int) < (p : Int); rcases hp with e | e <;> omega), _, rfl, a, cR K, dx, _, rfl, upd_same, T.c_Residue, T.n_Residue_n, (by show 1 < 1000; decide), ?_⟩
    refine q _ (Eq.trans upd_same (congrArg (fun z => some (HO.ins (cR K) dx z)) (rf_put _ _))) fun b o e ne => ?_
    exact set_ne ne (set_ne ne e)
/-- a new number -/
theorem mk_rs {p : Nat} [hp : P23 p] {n : Int} {H : Hp} {Q : VK} {E : XK} (q : ∀ v H', Same H H' → Rs K (zi p n) v H' → Q v H') (x dx : Addr) (nx : H x = none) (nd : H dx = none) (ne : dx ≠ x) :
    spRsInit K (.ref x :: ([.int (p : Int), .int n] ++ [])) (upd (upd H dx (.own x)) x (.ins (cR K) dx [])) (fun v H2 => v = .non ∧ Q (.ref x) H2) E :=
  ⟨x, dx, p, n, rfl, hp.h, upd_same, fun H' h k => ⟨rfl, q _ H' (Same.made nx nd k) ⟨x, dx, rfl, by rw [zi_val]; exact h⟩⟩⟩
theorem PE.imp {X : Cx} {e : Expr} {t t' : TE} (h : PE X e t) (i : ∀ σ H Q, t' σ H Q → t σ H Q) : PE X e t' := ⟨fun pins s σ H Q I hw => h.run pins s σ H Q I (i σ H Q hw)⟩
/-- Residue(p, n) -/
def tRs (K : PySem.W.Frag) (t : TA) : TE := fun σ H Q => t σ H fun vs H1 => ∃ (p : Nat) (hp : P23 p) (n : Int), vs = [.int (p : Int), .int n] ∧ ∀ v H', Same H1 H' → Rs K (zi p n) v H' → Q v H'
def TAmono (t : TA) : Prop := ∀ σ H (Q Q' : List V → Hp → Prop), (∀ vs H', Q vs H' → Q' vs H') → t σ H Q → t σ H Q'
theorem rs_make {t : TA} (hm : TAmono t) {σ : L2.St} {H : Hp} {Q : VK} (h : tRs K t σ H Q) : tMake (cR K) (spRsInit K) [] C8.E0 t σ H Q := by
  refine hm σ H _ _ (fun vs H1 z => ?_) h
  obtain ⟨p, hp, n, rfl, q⟩ := z
  intro x dx nx nd ne
  exact mk_rs q x dx nx nd ne
def TEmono (t : TE) : Prop := ∀ σ H (Q Q' : VK), (∀ v H', Q v H' → Q' v H') → t σ H Q → t σ H Q'
theorem ta_nil : TAmono tNil := fun _ _ _ _ h q => h _ _ q
theorem ta_cons {ta : TE} {tr : TA} (h1 : TEmono ta) (h2 : TAmono tr) : TAmono (tCons ta tr) := fun σ H Q Q' h q => h1 σ H _ _ (fun v H1 q1 => h2 σ H1 _ _ (fun vs H2 q2 => h _ _ q2) q1) q
theorem te_var (i : Nat) : TEmono (tVar i) := fun _ _ _ _ h ⟨v, e, q⟩ => ⟨v, e, h _ _ q⟩
theorem te_fld {K : PySem.W.Frag} {t : TE} {f : Str} (h1 : TEmono t) : TEmono (tFld K t f) := fun σ H Q Q' h q => h1 σ H _ _ (fun v H1 ⟨a, C, dx, fs, z, e1, e2, e3, e4, e5, q⟩ => ⟨a, C, dx, fs, z, e1, e2, e3, e4, e5, h _ _ q⟩) q
def spRsBin (K : PySem.W.Frag) (g : (p : Nat) → [P23 p] → Zp p → Zp p → Zp p) : Sp := fun vs H Q _ => ∃ (p : Nat) (hp : P23 p) (x y : Zp p) (u v : V), vs = [u, v] ∧ Rs K x u H ∧ Rs K y v H ∧ ∀ z H', Same H H' → Rs K (g p x y) z H' → Q z H'
def gAdd (p : Nat) [P23 p] (x y : Zp p) : Zp p := x + y
def gSub (p : Nat) [P23 p] (x y : Zp p) : Zp p := x - y
def gMul (p : Nat) [P23 p] (x y : Zp p) : Zp p := x * y
theorem sc_rs_add : FnScope ["self", "other"] ["self", "other"] (defScope s_Residue_add) := ⟨rfl, rfl, rfl, by decide +kernel, rfl, by decide +kernel, by decide +kernel⟩
theorem sc_rs_sub : FnScope ["self", "other"] ["self", "other"] (defScope s_Residue_sub) := ⟨rfl, rfl, rfl, by decide +kernel, rfl, by decide +kernel, by decide +kernel⟩
theorem sc_rs_mul : FnScope ["self", "other"] ["self", "other"] (defScope s_Residue_mul) := ⟨rfl, rfl, rfl, by decide +kernel, rfl, by decide +kernel, by decide +kernel⟩
theorem ok_rs_add (T : Tx K mg) : C8.Met P w K mg base 5 (cR K) "__add__" (spRsBin K gAdd) [] := by
  refine met_mk T.c_Residue T.m_Residue_add T.d_Residue_add sc_rs_add (fun _ _ _ _ _ _ us hl => match us, hl with | [_, _], _ => rfl) (fun vs H Q E h => ?_) (fun cdv A outer s H vs Q E hr h => ?_)
  · obtain ⟨p, hp, x, y, u, v, rfl, _⟩ := h; rfl
  · obtain ⟨p, hp, x, y, u, v, rfl, ⟨a, dx, rfl, ha⟩, ⟨b, dy, rfl, hb⟩, q⟩ := h
    refine ⟨_, pss_cons (ps_if (PW.pt (pw_or (pt_not (pt_val (pe_callB call_isi (by rfl) T.b_isinstance boot_isinstance (pa_cons (pv 1) (pa_cons (pe_glob (v := .ref (cR K)) (by rfl) T.g_Residue rfl) pa_nil)))))
        (pw_or1 (pt_cmpR op_ne (pe_fld (pv 0) rfl) (pe_fld (pv 1) rfl) (nomark _))))) (pss_one ps_never) pss_nil)
      (pss_one (ps_ret (C8.pe_mk (ok_rs_init T) hr (by decide) (by rfl) (pa_cons (pe_fld (pv 0) rfl) (pa_cons (pe_op op_add (pe_fld (pv 0) rfl) (pe_fld (pv 1) rfl)) pa_nil))))), ?_⟩
    refine ⟨_, rfl, _, _, _, _, true, rfl, .own _, tyR T hb, T.ex.rR, true, rfl, iteF ?_⟩
    refine ⟨_, rfl, a, cR K, dx, _, _, rfl, ha, T.c_Residue, T.n_Residue_p, rf_p _ _, _, rfl, b, cR K, dy, _, _, rfl, hb, T.c_Residue, T.n_Residue_p, rf_p _ _, rfl, _, rfl, iteNS rfl ?_⟩
    refine ⟨_, rfl, a, cR K, dx, _, _, rfl, ha, T.c_Residue, T.n_Residue_p, rf_p _ _, _, rfl, a, cR K, dx, _, _, rfl, ha, T.c_Residue, T.n_Residue_n, rf_n _ _, _, rfl, b, cR K, dy, _, _, rfl, hb, T.c_Residue, T.n_Residue_n, rf_n _ _, _, _, rfl, rfl, ?_⟩
    exact mk_rs fun z H' s hz => q z H' s (by rw [zi_add] at hz; exact hz)
theorem ok_rs_sub (T : Tx K mg) : C8.Met P w K mg base 5 (cR K) "__sub__" (spRsBin K gSub) [] := by
  refine met_mk T.c_Residue T.m_Residue_sub T.d_Residue_sub sc_rs_sub (fun _ _ _ _ _ _ us hl => match us, hl with | [_, _], _ => rfl) (fun vs H Q E h => ?_) (fun cdv A outer s H vs Q E hr h => ?_)
  · obtain ⟨p, hp, x, y, u, v, rfl, _⟩ := h; rfl
  · obtain ⟨p, hp, x, y, u, v, rfl, ⟨a, dx, rfl, ha⟩, ⟨b, dy, rfl, hb⟩, q⟩ := h
    refine ⟨_, pss_cons (ps_if (PW.pt (pw_or (pt_not (pt_val (pe_callB call_isi (by rfl) T.b_isinstance boot_isinstance (pa_cons (pv 1) (pa_cons (pe_glob (v := .ref (cR K)) (by rfl) T.g_Residue rfl) pa_nil)))))
        (pw_or1 (pt_cmpR op_ne (pe_fld (pv 0) rfl) (pe_fld (pv 1) rfl) (nomark _))))) (pss_one ps_never) pss_nil)
      (pss_one (ps_ret (C8.pe_mk (ok_rs_init T) hr (by decide) (by rfl) (pa_cons (pe_fld (pv 0) rfl) (pa_cons (pe_op op_sub (pe_fld (pv 0) rfl) (pe_fld (pv 1) rfl)) pa_nil))))), ?_⟩
    refine ⟨_, rfl, _, _, _, _, true, rfl, .own _, tyR T hb, T.ex.rR, true, rfl, iteF ?_⟩
    refine ⟨_, rfl, a, cR K, dx, _, _, rfl, ha, T.c_Residue, T.n_Residue_p, rf_p _ _, _, rfl, b, cR K, dy, _, _, rfl, hb, T.c_Residue, T.n_Residue_p, rf_p _ _, rfl, _, rfl, iteNS rfl ?_⟩
    refine ⟨_, rfl, a, cR K, dx, _, _, rfl, ha, T.c_Residue, T.n_Residue_p, rf_p _ _, _, rfl, a, cR K, dx, _, _, rfl, ha, T.c_Residue, T.n_Residue_n, rf_n _ _, _, rfl, b, cR K, dy, _, _, rfl, hb, T.c_Residue, T.n_Residue_n, rf_n _ _, _, _, rfl, rfl, ?_⟩
    exact mk_rs fun z H' s hz => q z H' s (by rw [zi_sub] at hz; exact hz)
theorem ok_rs_mul (T : Tx K mg) : C8.Met P w K mg base 5 (cR K) "__mul__" (spRsBin K gMul) [] := by
  refine met_mk T.c_Residue T.m_Residue_mul T.d_Residue_mul sc_rs_mul (fun _ _ _ _ _ _ us hl => match us, hl with | [_, _], _ => rfl) (fun vs H Q E h => ?_) (fun cdv A outer s H vs Q E hr h => ?_)
  · obtain ⟨p, hp, x, y, u, v, rfl, _⟩ := h; rfl
  · obtain ⟨p, hp, x, y, u, v, rfl, ⟨a, dx, rfl, ha⟩, ⟨b, dy, rfl, hb⟩, q⟩ := h
    refine ⟨_, pss_cons (ps_if (PW.pt (pw_or (pt_not (pt_val (pe_callB call_isi (by rfl) T.b_isinstance boot_isinstance (pa_cons (pv 1) (pa_cons (pe_glob (v := .ref (cR K)) (by rfl) T.g_Residue rfl) pa_nil)))))
        (pw_or1 (pt_cmpR op_ne (pe_fld (pv 0) rfl) (pe_fld (pv 1) rfl) (nomark _))))) (pss_one ps_never) pss_nil)
      (pss_one (ps_ret (C8.pe_mk (ok_rs_init T) hr (by decide) (by rfl) (pa_cons (pe_fld (pv 0) rfl) (pa_cons (pe_op op_mul (pe_fld (pv 0) rfl) (pe_fld (pv 1) rfl)) pa_nil))))), ?_⟩
    refine ⟨_, rfl, _, _, _, _, true, rfl, .own _, tyR T hb, T.ex.rR, true, rfl, iteF ?_⟩
    refine ⟨_, rfl, a, cR K, dx, _, _, rfl, ha, T.c_Residue, T.n_Residue_p, rf_p _ _, _, rfl, b, cR K, dy, _, _, rfl, hb, T.c_Residue, T.n_Residue_p, rf_p _ _, rfl, _, rfl, iteNS rfl ?_⟩
    have := P23.le p
    have := x.isLt
    refine ⟨_, rfl, a, cR K, dx, _, _, rfl, ha, T.c_Residue, T.n_Residue_p, rf_p _ _, _, rfl, a, cR K, dx, _, _, rfl, ha, T.c_Residue, T.n_Residue_n, rf_n _ _, _, rfl, b, cR K, dy, _, _, rfl, hb, T.c_Residue, T.n_Residue_n, rf_n _ _, _, _, rfl, rfl, .inl ⟨by omega, by omega⟩, ?_⟩
    exact mk_rs fun z H' s hz => q z H' s (by rw [zi_mul] at hz; exact hz)
def spRsNeg (K : PySem.W.Frag) : Sp := fun vs H Q _ => ∃ (p : Nat) (hp : P23 p) (x : Zp p) (u : V), vs = [u] ∧ Rs K x u H ∧ ∀ z H', Same H H' → Rs K (-x) z H' → Q z H'
theorem sc_rs_neg : FnScope ["self"] ["self"] (defScope s_Residue_neg) := ⟨rfl, rfl, rfl, by decide +kernel, rfl, by decide +kernel, by decide +kernel⟩
theorem ok_rs_neg (T : Tx K mg) : C8.Met P w K mg base 5 (cR K) "__neg__" (spRsNeg K) [] := by
  refine met_mk T.c_Residue T.m_Residue_neg T.d_Residue_neg sc_rs_neg (fun _ _ _ _ _ _ us hl => match us, hl with | [_], _ => rfl) (fun vs H Q E h => ?_) (fun cdv A outer s H vs Q E hr h => ?_)
  · obtain ⟨p, hp, x, u, rfl, _⟩ := h; rfl
  · obtain ⟨p, hp, x, u, rfl, ⟨a, dx, rfl, ha⟩, q⟩ := h
    refine ⟨_, pss_one (ps_ret (C8.pe_mk (ok_rs_init T) hr (by decide) (by rfl) (pa_cons (pe_fld (pv 0) rfl) (pa_cons (pe_un un_neg (pe_fld (pv 0) rfl)) pa_nil)))), ?_⟩
    refine ⟨_, rfl, a, cR K, dx, _, _, rfl, ha, T.c_Residue, T.n_Residue_p, rf_p _ _, _, rfl, a, cR K, dx, _, _, rfl, ha, T.c_Residue, T.n_Residue_n, rf_n _ _, _, rfl, ?_⟩
    exact mk_rs fun z H' s hz => q z H' s (by rw [zi_neg] at hz; exact hz)
def spRsZero (K : PySem.W.Frag) : Sp := fun vs H Q _ => ∃ (p : Nat) (hp : P23 p) (x : Zp p) (u : V), vs = [u] ∧ Rs K x u H ∧ Q (.bl (decide (x = 0))) H
theorem sc_rs_zero : FnScope ["self"] ["self"] (defScope s_Residue_is_zero) := ⟨rfl, rfl, rfl, by decide +kernel, rfl, by decide +kernel, by decide +kernel⟩
theorem ok_rs_zero (T : Tx K mg) : C8.Met P w K mg base 1 (cR K) "is_zero" (spRsZero K) [] := by
  refine met_mk T.c_Residue T.m_Residue_is_zero T.d_Residue_is_zero sc_rs_zero (fun _ _ _ _ _ _ us hl => match us, hl with | [_], _ => rfl) (fun vs H Q E h => ?_) (fun cdv A outer s H vs Q E hr h => ?_)
  · obtain ⟨p, hp, x, u, rfl, _⟩ := h; rfl
  · obtain ⟨p, hp, x, u, rfl, ⟨a, dx, rfl, ha⟩, q⟩ := h
    refine ⟨_, pss_one (ps_ret (pe_cmp (pc_eqI (pe_fld (pv 0) rfl) pe_int))), ?_⟩
    refine ⟨_, rfl, a, cR K, dx, _, _, rfl, ha, T.c_Residue, T.n_Residue_n, rf_n _ _, _, _, rfl, rfl, ?_⟩
    have e : decide ((x.val : Int) = 0) = decide (x = 0) := decide_eq_decide.mpr val_zero
    show Q (.bl (decide ((x.val : Int) = 0))) H
    rw [e]; exact q
end
end K47

/-! text W2 -/
/-! inverse, over; the ground; taken -/
namespace K47
open PySem PySem.Spec PyProof.Rows L2
section
variable {P : Program} {w : World} {K : PySem.W.Frag} {mg : Str → Option Value} {base : Heap}
theorem dn_add : ("__add__" : Str) = PySem.dunder (Operator.Add).info.2 := by decide +kernel
theorem dn_sub : ("__sub__" : Str) = PySem.dunder (Operator.Sub).info.2 := by decide +kernel
theorem dn_mul : ("__mul__" : Str) = PySem.dunder (Operator.Mult).info.2 := by decide +kernel
theorem bin_rs {g : (p : Nat) → [P23 p] → Zp p → Zp p → Zp p} {p : Nat} [hp : P23 p] {x y : Zp p} {u v : V} {H : Hp} {Q : VK} (hx : Rs K x u H) (hy : Rs K y v H) (q : ∀ z H', Same H H' → Rs K (g p x y) z H' → Q z H') :
    rOwn (cR K) (spRsBin K g) C8.E0 u v H Q := by
  obtain ⟨a, dx, rfl, ha⟩ := hx
  obtain ⟨b, dy, rfl, hb⟩ := hy
  exact ⟨a, dx, _, b, dy, _, rfl, rfl, ha, hb, p, hp, x, y, _, _, rfl, ⟨a, dx, rfl, ha⟩, ⟨b, dy, rfl, hb⟩, q⟩
theorem neg_rs {p : Nat} [hp : P23 p] {x : Zp p} {u : V} {H : Hp} {Q : VK} (hx : Rs K x u H) (q : ∀ z H', Same H H' → Rs K (-x) z H' → Q z H') : rNegOwn (cR K) (spRsNeg K) C8.E0 u H Q := by
  obtain ⟨a, dx, rfl, ha⟩ := hx
  exact ⟨a, dx, _, rfl, ha, p, hp, x, _, rfl, ⟨a, dx, rfl, ha⟩, q⟩
theorem no_is_zero (p n : Int) : (rf p n).lookup ("is_zero" : Str) = none := by kernel_rfl
theorem no_inverse (p n : Int) : (rf p n).lookup ("inverse" : Str) = none := by kernel_rfl
theorem no_over (p n : Int) : (rf p n).lookup ("over" : Str) = none := by kernel_rfl
/-- x.is_zero() -/
theorem m_zero {p : Nat} [hp : P23 p] {x : Zp p} {u : V} {H : Hp} {Q : VK} {σ : L2.St} (hx : Rs K x u H) (q : Q (.bl (decide (x = 0))) H) :
    ∃ a dx fs, u = .ref a ∧ H a = some (.ins (cR K) dx fs) ∧ fs.lookup ("is_zero" : Str) = none ∧ tNil σ H fun vs H2 => spRsZero K (u :: (vs ++ [])) H2 Q C8.E0 := by
  obtain ⟨a, dx, rfl, ha⟩ := hx
  exact ⟨a, dx, _, rfl, ha, no_is_zero _ _, p, hp, x, _, rfl, ⟨a, dx, rfl, ha⟩, q⟩
/-! ### inverse -/
def spRsInv (K : PySem.W.Frag) : Sp := fun vs H Q _ => ∃ (p : Nat) (hp : P23 p) (x : Zp p) (u : V), vs = [u] ∧ Rs K x u H ∧ x ≠ 0 ∧ ∀ z H', Same H H' → Rs K (Fld.inv x) z H' → Q z H'
theorem sc_rs_inverse : FnScope ["self", "total", "_"] ["self"] (defScope s_Residue_inverse) := ⟨rfl, rfl, rfl, by decide +kernel, rfl, by decide +kernel, by decide +kernel⟩
def invAt (p : Nat) (x : Int) (i : Nat) : Int := if i = 0 then 1 else x
theorem inv_at {p : Nat} [hp : P23 p] {x : Zp p} {n : Nat} (hn : ((p : Int) - 2).toNat = n) : zi p (invAt p x.val n) = Fld.inv x := by
  rcases hp.h with e | e
  · subst e; subst hn; exact zi_one
  · subst e; subst hn; exact zi_self x
theorem ok_rs_inverse (T : Tx K mg) : C8.Met P w K mg base 5 (cR K) "inverse" (spRsInv K) [] := by
  refine met_mk T.c_Residue T.m_Residue_inverse T.d_Residue_inverse sc_rs_inverse (fun _ _ _ _ _ _ us hl => match us, hl with | [_], _ => rfl) (fun vs H Q E h => ?_) (fun cdv A outer s H vs Q E hr h => ?_)
  · obtain ⟨p, hp, x, u, rfl, _⟩ := h; rfl
  · obtain ⟨p, hp, x, u, rfl, ⟨a, dx, rfl, ha⟩, hx, q⟩ := h
    refine ⟨_, pss_cons (ps_if (pt_cmp (pc_eqI (pe_fld (pv 0) rfl) pe_int)) (pss_one ps_never) pss_nil)
      (pss_cons (ps_set (i := 1) sc_rs_inverse.nd rfl (Or.inl rfl) pe_int)
      (pss_cons (ps_for PassesOwn.never rfl (pi_range1 (by rfl) T.b_range (pa_cons (pe_op op_sub (pe_fld (pv 0) rfl) pe_int) pa_nil)) (pg_name (i := 2) sc_rs_inverse.nd rfl (Or.inl rfl))
        (pss_one (ps_set (i := 1) sc_rs_inverse.nd rfl (Or.inl rfl) (pe_op op_mod (pe_op op_mul (pv 1) (pe_fld (pv 0) rfl)) (pe_fld (pv 0) rfl)))))
      (pss_one (ps_ret (C8.pe_mk (ok_rs_init T) hr (by decide) (by rfl) (pa_cons (pe_fld (pv 0) rfl) (pa_cons (pv 1) pa_nil))))))), ?_⟩
    have hne : ¬ ((x.val : Int) = 0) := fun z => hx (val_zero.mp z)
    have hp2 := P23.two p
    have hp3 := P23.le p
    have hxl := x.isLt
    refine ⟨_, rfl, a, cR K, dx, _, _, rfl, ha, T.c_Residue, T.n_Residue_n, rf_n _ _, _, _, rfl, rfl, _, rfl, ?_⟩
    refine ifF hne ⟨_, rfl, a, cR K, dx, _, _, rfl, ha, T.c_Residue, T.n_Residue_p, rf_p _ _, _, _, rfl, rfl, _, rfl, by omega, by omega, ?_⟩
    refine for_range (lo := 0) (fun i σ H' => H' = H ∧ ∃ v, σ = [some (.ref a), some (.int (invAt p x.val i)), v]) ⟨rfl, none, rfl⟩ ?_ ?_
    · rintro i σ H' hi ⟨rfl, v, rfl⟩
      have hi0 : i = 0 := by omega
      have hp' : p = 3 := by omega
      subst hi0
      subst hp'
      refine ⟨_, rfl, _, rfl, a, cR K, dx, _, _, rfl, ha, T.c_Residue, T.n_Residue_n, rf_n _ _, _, _, rfl, rfl, .inl ⟨(by show (-(2 : Int) ^ 64) < 1; decide), (by show (1 : Int) < 2 ^ 64; decide)⟩, _, rfl, a, cR K, dx, _, _, rfl, ha, T.c_Residue, T.n_Residue_p, rf_p _ _, _, _, rfl, rfl, (by show (0 : Int) < 3; decide), rfl, some (.int (0 + (0 : Nat))), ?_⟩
      have e : 1 * (x.val : Int) % ((3 : Nat) : Int) = (x.val : Int) := by omega
      show ([some (V.ref a), some (V.int (1 * (x.val : Int) % ((3 : Nat) : Int))), some (.int (0 + (0 : Nat)))] : L2.St) = _
      rw [e]
      rfl
    · rintro σ H' ⟨rfl, v, rfl⟩
      refine ⟨_, rfl, a, cR K, dx, _, _, rfl, ha, T.c_Residue, T.n_Residue_p, rf_p _ _, _, rfl, ?_⟩
      exact mk_rs fun z H' s hz => q z H' s (by rw [inv_at rfl] at hz; exact hz)
/-! ### over -/
def gOver (p : Nat) [P23 p] (x y : Zp p) : Zp p := x * Fld.inv y
def spRsOver (K : PySem.W.Frag) : Sp := fun vs H Q _ => ∃ (p : Nat) (hp : P23 p) (x y : Zp p) (u v : V), vs = [u, v] ∧ Rs K x u H ∧ Rs K y v H ∧ y ≠ 0 ∧ ∀ z H', Same H H' → Rs K (gOver p x y) z H' → Q z H'
theorem sc_rs_over : FnScope ["self", "other"] ["self", "other"] (defScope s_Residue_over) := ⟨rfl, rfl, rfl, by decide +kernel, rfl, by decide +kernel, by decide +kernel⟩
theorem ok_rs_over (T : Tx K mg) : C8.Met P w K mg base 6 (cR K) "over" (spRsOver K) [] := by
  refine met_mk T.c_Residue T.m_Residue_over T.d_Residue_over sc_rs_over (fun _ _ _ _ _ _ us hl => match us, hl with | [_, _], _ => rfl) (fun vs H Q E h => ?_) (fun cdv A outer s H vs Q E hr h => ?_)
  · obtain ⟨p, hp, x, y, u, v, rfl, _⟩ := h; rfl
  · obtain ⟨p, hp, x, y, u, v, rfl, hx, hy, hn, q⟩ := h
    refine ⟨_, pss_one (ps_ret (pe_op (op_met (ok_rs_mul T) dn_mul hr (by decide) T.ex.sR) (pv 0) (C8.pe_mt0 (ok_rs_inverse T) hr (by decide) (pv 1)))), ?_⟩
    obtain ⟨b, dy, rfl, hb⟩ := hy
    refine ⟨_, rfl, _, rfl, b, dy, _, rfl, hb, no_inverse _ _, p, hp, y, _, rfl, ⟨b, dy, rfl, hb⟩, hn, fun z H' s hz => ?_⟩
    exact bin_rs (mon_rs x _ _ _ s hx) hz fun z' H'' s' hz' => q z' H'' (s.trans s') hz'
/-! ### Residue.__eq__ -/
def eqRs (K : PySem.W.Frag) : Addr → Addr → Hp → Prop := fun a b H => ∃ (p : Nat) (x : Zp p), Rs K x (.ref a) H ∧ Rs K x (.ref b) H
theorem sc_rs_eq : FnScope ["self", "other"] ["self", "other"] (defScope s_Residue_eq) := ⟨rfl, rfl, rfl, by decide +kernel, rfl, by decide +kernel, by decide +kernel⟩
theorem ok_rs_eq (T : Tx K mg) : C8.Met P w K mg base 1 (cR K) "__eq__" (spEq (eqRs K)) [] := by
  refine met_mk T.c_Residue T.m_Residue_eq T.d_Residue_eq sc_rs_eq (fun _ _ _ _ _ _ us hl => match us, hl with | [_, _], _ => rfl) (fun vs H Q E h => ?_) (fun cdv A outer s H vs Q E hr h => ?_)
  · obtain ⟨a, b, rfl, _⟩ := h; rfl
  · obtain ⟨a, b, rfl, ⟨p, x, ⟨a', dx, e1, ha⟩, ⟨b', dy, e2, hb⟩⟩, q⟩ := h
    cases e1; cases e2
    refine ⟨_, pss_one (ps_ret (pe_and (pe_callB call_isi (by rfl) T.b_isinstance boot_isinstance (pa_cons (pv 1) (pa_cons (pe_glob (v := .ref (cR K)) (by rfl) T.g_Residue rfl) pa_nil)))
      (pe_and (pe_cmp (pc_eqI (pe_fld (pv 0) rfl) (pe_fld (pv 1) rfl))) (pe_one (pe_cmp (pc_eqI (pe_fld (pv 0) rfl) (pe_fld (pv 1) rfl))))))), ?_⟩
    refine ⟨_, rfl, _, _, _, _, true, rfl, .own _, tyR T hb, T.ex.rR, true, rfl, iteT ?_⟩
    refine ⟨_, rfl, a, cR K, dx, _, _, rfl, ha, T.c_Residue, T.n_Residue_p, rf_p _ _, _, rfl, b, cR K, dy, _, _, rfl, hb, T.c_Residue, T.n_Residue_p, rf_p _ _, _, _, rfl, rfl, _, rfl, ?_⟩
    refine ifT rfl ⟨_, rfl, a, cR K, dx, _, _, rfl, ha, T.c_Residue, T.n_Residue_n, rf_n _ _, _, rfl, b, cR K, dy, _, _, rfl, hb, T.c_Residue, T.n_Residue_n, rf_n _ _, _, _, rfl, rfl, ?_⟩
    show Q (.bl (decide ((x.val : Int) = x.val))) H
    rw [decide_eq_true rfl]
    exact q H Ext.rfl'
/-! ### Ground -/
def spGrInit (K : PySem.W.Frag) : Sp := fun vs H Q _ => ∃ (a dx : Addr) (p : Nat), vs = [.ref a, .int (p : Int)] ∧ (p = 2 ∨ p = 3) ∧ H a = some (.ins (cG K) dx []) ∧
  ∀ H' : Hp, H' a = some (.ins (cG K) dx (gf p)) → (∀ b o, H b = some o → b ≠ a → H' b = some o) → Q .non H'
theorem sc_gr_init : FnScope ["self", "p"] ["self", "p"] (defScope s_Ground_init) := ⟨rfl, rfl, rfl, by decide +kernel, rfl, by decide +kernel, by decide +kernel⟩
theorem gf_put (p : Int) : putF "p" (.int p) [] = gf p := by kernel_rfl
theorem ok_gr_init (T : Tx K mg) : C8.Mak P w K mg base 3 "Ground" (cG K) (spGrInit K) [] := by
  obtain ⟨fd, F⟩ := T.d_Ground_init
  obtain ⟨ds, hd, hb⟩ := F.binds1 (ps := ["self", "p"]) 2 1 (by simp) rfl (fun T kV doc pm an cdv ct us its h1 h2 => match us, its, h1, h2 with | [_, _], [_], _, _ => ⟨_, rfl, rfl⟩)
  refine ⟨_, fd, ["self", "p"], ds, T.mk_Ground, fnok F sc_gr_init (fun vs H Q E h => ?_) (fun cdv A outer s H vs Q E hr h => ?_), T.g_Ground, hb, hd⟩
  · obtain ⟨a, dx, p, rfl, _⟩ := h; rfl
  · obtain ⟨a, dx, p, rfl, hp, ha, q⟩ := h
    refine ⟨_, pss_cons (ps_if (PW.pt (pw_or (pt_not (pt_val (C8.pe_c (ok_is_integer T) hr (by decide) (by rfl) (pa_cons (pv 1) pa_nil))))
          (pw_or1 (PW.pt (pw_and (pt_cmp (pc_neI (pv 1) pe_int)) (pw_and1 (pt_not (pt_val (C8.pe_c (ok_is_small_prime T) hr (by decide) (by rfl) (pa_cons (pv 1) pa_nil)))))))))) (pss_one ps_never) pss_nil)
      (pss_one (ps_fld (pv 0) (pv 1) rfl)), ?_⟩
    have hp0 : ¬ ((p : Int) = 0) := by rcases hp with e | e <;> omega
    refine ⟨_, rfl, _, rfl, .inl ⟨(p : Int), rfl, true, rfl, iteF ⟨_, rfl, _, _, rfl, rfl, _, rfl, ifNT hp0 ⟨_, rfl, p, rfl, hp, true, rfl, iteF ?_⟩⟩⟩⟩
    refine ⟨_, rfl, _, rfl, a, cG K, dx, [], rfl, ha, T.c_Ground, T.n_Ground_p, (by show 0 < 1000; decide), ?_⟩
    exact q _ (Eq.trans upd_same (congrArg (fun z => some (HO.ins (cG K) dx z)) (gf_put _))) fun b o e ne => set_ne ne e
/-- a new ground -/
theorem mk_gr {p : Nat} [hp : P23 p] {H : Hp} {Q : VK} {E : XK} (q : ∀ v H', Same H H' → Gr K p v H' → Q v H') (x dx : Addr) (nx : H x = none) (nd : H dx = none) (ne : dx ≠ x) :
    spGrInit K (.ref x :: ([.int (p : Int)] ++ [])) (upd (upd H dx (.own x)) x (.ins (cG K) dx [])) (fun v H2 => v = .non ∧ Q (.ref x) H2) E :=
  ⟨x, dx, p, rfl, hp.h, upd_same, fun H' h k => ⟨rfl, q _ H' (Same.made nx nd k) ⟨x, dx, rfl, h⟩⟩⟩
def eqGr (K : PySem.W.Frag) : Addr → Addr → Hp → Prop := fun a b H => ∃ p : Nat, Gr K p (.ref a) H ∧ Gr K p (.ref b) H
theorem sc_gr_eq : FnScope ["self", "other"] ["self", "other"] (defScope s_Ground_eq) := ⟨rfl, rfl, rfl, by decide +kernel, rfl, by decide +kernel, by decide +kernel⟩
theorem ok_gr_eq (T : Tx K mg) : C8.Met P w K mg base 1 (cG K) "__eq__" (spEq (eqGr K)) [] := by
  refine met_mk T.c_Ground T.m_Ground_eq T.d_Ground_eq sc_gr_eq (fun _ _ _ _ _ _ us hl => match us, hl with | [_, _], _ => rfl) (fun vs H Q E h => ?_) (fun cdv A outer s H vs Q E hr h => ?_)
  · obtain ⟨a, b, rfl, _⟩ := h; rfl
  · obtain ⟨a, b, rfl, ⟨p, ⟨a', dx, e1, ha⟩, ⟨b', dy, e2, hb⟩⟩, q⟩ := h
    cases e1; cases e2
    refine ⟨_, pss_one (ps_ret (pe_and (pe_callB call_isi (by rfl) T.b_isinstance boot_isinstance (pa_cons (pv 1) (pa_cons (pe_glob (v := .ref (cG K)) (by rfl) T.g_Ground rfl) pa_nil)))
      (pe_one (pe_cmp (pc_eqI (pe_fld (pv 0) rfl) (pe_fld (pv 1) rfl)))))), ?_⟩
    refine ⟨_, rfl, _, _, _, _, true, rfl, .own _, tyG T hb, T.ex.gG, true, rfl, iteT ?_⟩
    refine ⟨_, rfl, a, cG K, dx, _, _, rfl, ha, T.c_Ground, T.n_Ground_p, gf_p _, _, rfl, b, cG K, dy, _, _, rfl, hb, T.c_Ground, T.n_Ground_p, gf_p _, _, _, rfl, rfl, ?_⟩
    show Q (.bl (decide ((p : Int) = p))) H
    rw [decide_eq_true rfl]
    exact q H Ext.rfl'
/-! ### number, zero, is_member -/
def spNumber (K : PySem.W.Frag) : Sp := fun vs H Q _ => ∃ (p : Nat) (hp : P23 p) (g : V) (n : Int), vs = [g, .int n, .int 1] ∧ Gr K p g H ∧ ∀ z H', Same H H' → Rs K (zi p n) z H' → Q z H'
theorem sc_gr_number : FnScope ["self", "n", "d"] ["self", "n", "d"] (defScope s_Ground_number) := ⟨rfl, rfl, rfl, by decide +kernel, rfl, by decide +kernel, by decide +kernel⟩
theorem over_one {p : Nat} [hp : P23 p] (x : Zp p) : gOver p x (zi p 1) = x := by
  unfold gOver
  rw [zi_one]
  have h1 : Fld.inv (1 : Zp p) * 1 = 1 := Fld.inv_mul _ Fld.one_ne
  have h2 : Fld.inv (1 : Zp p) = 1 := by grind
  rw [h2]; grind
theorem one_ne23 {p : Nat} [hp : P23 p] : zi p 1 ≠ 0 := by
  rw [zi_one]; exact Fld.one_ne
theorem ok_gr_number (T : Tx K mg) : C8.Met P w K mg base 7 (cG K) "number" (spNumber K) [.int 1] := by
  obtain ⟨fd, F⟩ := T.d_Ground_number
  obtain ⟨ds, hd, hb⟩ := F.binds1 (ps := ["self", "n", "d"]) 2 0 (by simp) rfl (fun T kV doc pm an cdv ct us its h1 h2 => match us, its, h1, h2 with | [_, _], [_], _, _ => ⟨_, rfl, rfl⟩)
  refine ⟨_, fd, ["self", "n", "d"], ds, T.c_Ground, T.m_Ground_number, fnok F sc_gr_number (fun vs H Q E h => ?_) (fun cdv A outer s H vs Q E hr h => ?_), hb, hd⟩
  · obtain ⟨p, hp, g, n, rfl, _⟩ := h; rfl
  · obtain ⟨p, hp, g, n, rfl, ⟨a, dx, rfl, ha⟩, q⟩ := h
    refine ⟨_, pss_cons (ps_if (pt_cmp (pc_eqI (pe_fld (pv 0) rfl) pe_int)) (pss_one ps_never) pss_nil)
      (pss_cons (ps_if (pt_cmp (pc_eqI (pe_op op_mod (pv 2) (pe_fld (pv 0) rfl)) pe_int)) (pss_one ps_never) pss_nil)
      (pss_one (ps_ret (C8.pe_mt (ok_rs_over T) hr (by decide) (PE.imp (C8.pe_mk (ok_rs_init T) hr (by decide) (by rfl) (pa_cons (pe_fld (pv 0) rfl) (pa_cons (pv 1) pa_nil))) fun _ _ _ z => rs_make (ta_cons (te_fld (te_var 0)) (ta_cons (te_var 1) ta_nil)) z)
        (pa_cons (PE.imp (C8.pe_mk (ok_rs_init T) hr (by decide) (by rfl) (pa_cons (pe_fld (pv 0) rfl) (pa_cons (pv 2) pa_nil))) fun _ _ _ z => rs_make (ta_cons (te_fld (te_var 0)) (ta_cons (te_var 2) ta_nil)) z) pa_nil))))), ?_⟩
    have hp2 := P23.two p
    have hp0 : ¬ ((p : Int) = 0) := by omega
    have h1 : ¬ ((1 : Int) % (p : Int) = 0) := by rcases hp.h with e | e <;> subst e <;> decide
    refine ⟨_, rfl, a, cG K, dx, _, _, rfl, ha, T.c_Ground, T.n_Ground_p, gf_p _, _, _, rfl, rfl, _, rfl, ifF hp0 ?_⟩
    refine ⟨_, rfl, _, rfl, a, cG K, dx, _, _, rfl, ha, T.c_Ground, T.n_Ground_p, gf_p _, _, _, rfl, rfl, (by show (0 : Int) < (p : Int); omega), _, _, rfl, rfl, _, rfl, ifF h1 ?_⟩
    refine ⟨_, rfl, a, cG K, dx, _, _, rfl, ha, T.c_Ground, T.n_Ground_p, gf_p _, _, rfl, p, hp, n, rfl, fun u H1 s1 hu => ?_⟩
    obtain ⟨ua, ud, rfl, hu⟩ := hu
    refine ⟨ua, ud, _, rfl, hu, no_over _ _, _, rfl, a, cG K, dx, _, _, rfl, s1 _ _ ha, T.c_Ground, T.n_Ground_p, gf_p _, _, rfl, p, hp, 1, rfl, fun v H2 s2 hv => ?_⟩
    refine ⟨p, hp, zi p n, zi p 1, _, _, rfl, mon_rs _ _ _ _ s2 ⟨ua, ud, rfl, hu⟩, hv, one_ne23, fun z H3 s3 hz => q z H3 ((s1.trans s2).trans s3) (by rw [over_one] at hz; exact hz)⟩
theorem no_number (p : Int) : (gf p).lookup ("number" : Str) = none := by kernel_rfl
theorem no_zero (p : Int) : (gf p).lookup ("zero" : Str) = none := by kernel_rfl
theorem no_member (p : Int) : (gf p).lookup ("is_member" : Str) = none := by kernel_rfl
def spZero (K : PySem.W.Frag) : Sp := fun vs H Q _ => ∃ (p : Nat) (hp : P23 p) (g : V), vs = [g] ∧ Gr K p g H ∧ ∀ z H', Same H H' → Rs K (0 : Zp p) z H' → Q z H'
theorem sc_gr_zero : FnScope ["self"] ["self"] (defScope s_Ground_zero) := ⟨rfl, rfl, rfl, by decide +kernel, rfl, by decide +kernel, by decide +kernel⟩
theorem ok_gr_zero (T : Tx K mg) : C8.Met P w K mg base 8 (cG K) "zero" (spZero K) [] := by
  refine met_mk T.c_Ground T.m_Ground_zero T.d_Ground_zero sc_gr_zero (fun _ _ _ _ _ _ us hl => match us, hl with | [_], _ => rfl) (fun vs H Q E h => ?_) (fun cdv A outer s H vs Q E hr h => ?_)
  · obtain ⟨p, hp, g, rfl, _⟩ := h; rfl
  · obtain ⟨p, hp, g, rfl, ⟨a, dx, rfl, ha⟩, q⟩ := h
    refine ⟨_, pss_one (ps_ret (C8.pe_mt (ok_gr_number T) hr (by decide) (pv 0) (pa_cons pe_int pa_nil))), ?_⟩
    refine ⟨_, rfl, a, dx, _, rfl, ha, no_number _, p, hp, _, 0, rfl, ⟨a, dx, rfl, ha⟩, fun z H' s hz => q z H' s (by rw [zi_zero] at hz; exact hz)⟩
def spMember (K : PySem.W.Frag) : Sp := fun vs H Q _ => ∃ (p : Nat) (hp : P23 p) (g u : V) (x : Zp p), vs = [g, u] ∧ Gr K p g H ∧ Rs K x u H ∧ Q (.bl true) H
theorem sc_gr_member : FnScope ["self", "value"] ["self", "value"] (defScope s_Ground_is_member) := ⟨rfl, rfl, rfl, by decide +kernel, rfl, by decide +kernel, by decide +kernel⟩
theorem ok_gr_member (T : Tx K mg) : C8.Met P w K mg base 1 (cG K) "is_member" (spMember K) [] := by
  refine met_mk T.c_Ground T.m_Ground_is_member T.d_Ground_is_member sc_gr_member (fun _ _ _ _ _ _ us hl => match us, hl with | [_, _], _ => rfl) (fun vs H Q E h => ?_) (fun cdv A outer s H vs Q E hr h => ?_)
  · obtain ⟨p, hp, g, u, x, rfl, _⟩ := h; rfl
  · obtain ⟨p, hp, g, u, x, rfl, ⟨a, dx, rfl, ha⟩, ⟨b, dy, rfl, hb⟩, q⟩ := h
    refine ⟨_, pss_cons (ps_if (pt_cmp (pc_eqI (pe_fld (pv 0) rfl) pe_int)) (pss_one ps_never) pss_nil)
      (pss_one (ps_ret (pe_and (pe_callB call_isi (by rfl) T.b_isinstance boot_isinstance (pa_cons (pv 1) (pa_cons (pe_glob (v := .ref (cR K)) (by rfl) T.g_Residue rfl) pa_nil)))
        (pe_one (pe_cmp (pc_eqI (pe_fld (pv 1) rfl) (pe_fld (pv 0) rfl))))))), ?_⟩
    have hp2 := P23.two p
    have hp0 : ¬ ((p : Int) = 0) := by omega
    refine ⟨_, rfl, a, cG K, dx, _, _, rfl, ha, T.c_Ground, T.n_Ground_p, gf_p _, _, _, rfl, rfl, _, rfl, ifF hp0 ?_⟩
    refine ⟨_, rfl, _, _, _, _, true, rfl, .own _, tyR T hb, T.ex.rR, true, rfl, iteT ?_⟩
    refine ⟨_, rfl, b, cR K, dy, _, _, rfl, hb, T.c_Residue, T.n_Residue_p, rf_p _ _, _, rfl, a, cG K, dx, _, _, rfl, ha, T.c_Ground, T.n_Ground_p, gf_p _, _, _, rfl, rfl, ?_⟩
    show Q (.bl (decide ((p : Int) = p))) H
    rw [decide_eq_true rfl]
    exact q
/-! ### taken -/
def spTaken (K : PySem.W.Frag) : Sp := fun vs H Q _ => ∃ (p : Nat) (hp : P23 p) (g u : V) (x : Zp p), vs = [g, u] ∧ Gr K p g H ∧ Itm K x u H ∧ ∀ z H', Same H H' → Rs K x z H' → Q z H'
theorem sc_taken : FnScope ["ground", "item"] ["ground", "item"] (defScope s_taken) := ⟨rfl, rfl, rfl, by decide +kernel, rfl, by decide +kernel, by decide +kernel⟩
theorem ok_taken (T : Tx K mg) : C8.Cal P w K mg base 8 "taken" (spTaken K) [] := by
  refine cal_mk T.g_taken T.d_taken sc_taken (fun _ _ _ _ _ _ us hl => match us, hl with | [_, _], _ => rfl) (fun vs H Q E h => ?_) (fun cdv A outer s H vs Q E hr h => ?_)
  · obtain ⟨p, hp, g, u, x, rfl, _⟩ := h; rfl
  · obtain ⟨p, hp, g, u, x, rfl, ⟨a, dx, rfl, ha⟩, hu, q⟩ := h
    refine ⟨_, pss_cons (ps_if (pt_val (C8.pe_c (ok_is_integer T) hr (by decide) (by rfl) (pa_cons (pv 1) pa_nil))) (pss_one (ps_ret (C8.pe_mt (ok_gr_number T) hr (by decide) (pv 0) (pa_cons (pv 1) pa_nil)))) pss_nil)
      (pss_cons (ps_if (pt_val (C8.pe_mt (ok_gr_member T) hr (by decide) (pv 0) (pa_cons (pv 1) pa_nil))) (pss_one (ps_ret (pv 1))) pss_nil) (pss_one ps_never)), ?_⟩
    rcases hu with hu | hu
    · have hu : u = .int (x.val : Int) := hu
      subst hu
      refine ⟨_, rfl, _, rfl, .inl ⟨_, rfl, true, rfl, iteT ?_⟩⟩
      refine ⟨_, rfl, a, dx, _, rfl, ha, no_number _, _, rfl, p, hp, _, _, rfl, ⟨a, dx, rfl, ha⟩, fun z H' s hz => q z H' s (by rw [zi_self] at hz; exact hz)⟩
    · refine ⟨_, rfl, _, rfl, .inr ⟨p, x, hu, false, rfl, iteF ?_⟩⟩
      refine ⟨_, rfl, a, dx, _, rfl, ha, no_member _, _, rfl, p, hp, _, _, x, rfl, ⟨a, dx, rfl, ha⟩, hu, true, rfl, iteT ?_⟩
      exact ⟨_, rfl, q _ _ (Same.refl _) hu⟩
end
end K47

/-! text W3 -/
/-! matrices -/
namespace K47
open PySem PySem.Spec PyProof.Rows L2
section
variable {P : Program} {w : World} {K : PySem.W.Frag} {mg : Str → Option Value} {base : Heap}
theorem kit_ll : PySem.W.kitOne K (.type "list") (.type "list") = some true := kit_ty (by decide +kernel)
theorem kit_tl : PySem.W.kitOne K (.type "tuple") (.type "list") = some false := kit_ty (by decide +kernel)
theorem kit_tt : PySem.W.kitOne K (.type "tuple") (.type "tuple") = some true := kit_ty (by decide +kernel)
theorem any_l : PySem.W.kitAny K (.type "list") [.type "list", .type "tuple"] = some true := kitAny_cons kit_ll (fun h => by cases h) fun _ => rfl
theorem any_t : PySem.W.kitAny K (.type "tuple") [.type "list", .type "tuple"] = some true := kitAny_cons kit_tl (fun _ => kitAny_cons kit_tt (fun h => by cases h) fun _ => rfl) fun h => by cases h
theorem two_line : 2 ≤ sizeLine := by decide
/-- a list or a tuple -/
def IsSq (v : V) (H : Hp) : Prop := ∃ a vs, v = .ref a ∧ (H a = some (.lst vs) ∨ H a = some (.tup vs))
theorem SeqOf.sq {α : Type} {R : α → Dn} {xs : List α} {v : V} {H : Hp} (h : SeqOf R xs v H) : IsSq v H := by
  rcases h with ⟨a, vs, e, ha, _⟩ | ⟨a, vs, e, ha, _⟩
  · exact ⟨a, vs, e, .inl ha⟩
  · exact ⟨a, vs, e, .inr ha⟩
/-- isinstance(x, (list, tuple)) of such a thing -/
def tIsSeq (i : Nat) : TE := fun σ H Q => ∃ v, σ[i]? = some (some v) ∧ IsSq v H ∧ ∀ H', Same H H' → Q (.bl true) H'
theorem isSeq_imp {i : Nat} {σ : L2.St} {H : Hp} {Q : VK} (h : tIsSeq i σ H Q) : tCB (rIsiT K) (tCons (tVar i) (tCons (tTup (tCons (tC (.ty "list")) (tCons (tC (.ty "tuple")) tNil))) tNil)) σ H Q := by
  obtain ⟨v, e, ⟨a, vs, rfl, ha⟩, q⟩ := h
  refine ⟨_, e, two_line, fun tp hn => ?_⟩
  have s : Same H (upd H tp (.tup [.ty "list", .ty "tuple"])) := same_upd hn
  rcases ha with ha | ha
  · exact ⟨_, tp, _, _, _, true, rfl, upd_same, .cons (.ty _) (.cons (.ty _) .nil), .base (.lst (s _ _ ha)), any_l, q _ s⟩
  · exact ⟨_, tp, _, _, _, true, rfl, upd_same, .cons (.ty _) (.cons (.ty _) .nil), .base (.tup (s _ _ ha)), any_t, q _ s⟩
theorem pe_isSeq {X : Cx} {i : Nat} {x : Str} {p0 p1 p2 p3 p4 pos : Pos} {k : Nat} (T : Tx X.K X.mg) (hN : X.N[i]? = some x := by rfl) (hv : Vis X.env.scope x := by first | exact Or.inl rfl | exact Or.inr (Or.inl rfl) | exact Or.inr (Or.inr rfl))
    (hd : (x == ("__debug__" : Str)) = false := by decide) (hcd : (x == ("__classdict__" : Str)) = false := by decide) (hg : Gl X "isinstance" := by rfl) (hl : Gl X "list" := by rfl) (ht : Gl X "tuple" := by rfl)
    (hs : starEach [.Name x p1, .Tuple [.Name "list" p2, .Name "tuple" p3] k p4] X.env = (false, eval (.Name x p1) X.env) :: starEach [.Tuple [.Name "list" p2, .Name "tuple" p3] k p4] X.env := by rfl)
    (hs2 : starEach [.Tuple [.Name "list" p2, .Name "tuple" p3] k p4] X.env = (false, eval (.Tuple [.Name "list" p2, .Name "tuple" p3] k p4) X.env) :: starEach [] X.env := by rfl)
    (hs3 : starEach [.Name "list" p2, .Name "tuple" p3] X.env = (false, eval (.Name "list" p2) X.env) :: starEach [.Name "tuple" p3] X.env := by rfl)
    (hs4 : starEach [.Name "tuple" p3] X.env = (false, eval (.Name "tuple" p3) X.env) :: starEach [] X.env := by rfl)
    (h5 : starEach [.Name x p1, .Tuple [.Name "list" p2, .Name "tuple" p3] k p4] X.env = (false, eval (.Name x p1) X.env) :: starEach [.Tuple [.Name "list" p2, .Name "tuple" p3] k p4] X.env := by rfl)
    (h6 : (backTo pos (starEach [.Tuple [.Name "list" p2, .Name "tuple" p3] k p4] X.env)).any (·.1) = false := by rfl) :
    PE X (.Call (.Name "isinstance" p0) [.Name x p1, .Tuple [.Name "list" p2, .Name "tuple" p3] k p4] [] pos) (tIsSeq i) :=
  PE.imp (pe_callB call_isiT hg T.b_isinstance boot_isinstance (pa_cons (pv i hN hv hd hcd) (pa_cons (pe_tup (pa_cons (pe_bltn (v := .ty "list") hl T.b_list boot_list rfl) (pa_cons (pe_bltn (v := .ty "tuple") ht T.b_tuple boot_tuple rfl) pa_nil hs4) hs3)) pa_nil hs2) hs)) fun _ _ _ z => isSeq_imp z
/-! ### taken_rows -/
def spTakenRows (K : PySem.W.Frag) : Sp := fun vs H Q _ => ∃ (p : Nat) (hp : P23 p) (g r : V) (rows : List (List (Zp p))), vs = [g, r] ∧ Gr K p g H ∧ LstOf (SeqOf (Itm K)) rows r H ∧ rows.length ≤ 1000 ∧ (∀ x ∈ rows, x.length ≤ 1000) ∧
  ∀ z H', Same H H' → RowsT K rows z H' → Q z H'
theorem sc_taken_rows : FnScope ["ground", "rows", "found", "row", "item"] ["ground", "rows"] (defScope s_taken_rows) := ⟨rfl, rfl, rfl, by decide +kernel, rfl, by decide +kernel, by decide +kernel⟩
theorem range_map_get {α : Type} (xs : List α) (d : α) : (List.range xs.length).map (fun i => xs.getD i d) = xs := by
  refine List.ext_getElem (by simp) fun i h1 h2 => ?_
  simp [h2]
theorem take_snoc {α : Type} {xs : List α} {i : Nat} {x : α} (h : xs[i]? = some x) : xs.take (i + 1) = xs.take i ++ [x] := by
  rw [List.take_add_one, h]; rfl
theorem ok_taken_rows (T : Tx K mg) : C8.Cal P w K mg base 9 "taken_rows" (spTakenRows K) [] := by
  refine cal_mk T.g_taken_rows T.d_taken_rows sc_taken_rows (fun _ _ _ _ _ _ us hl => match us, hl with | [_, _], _ => rfl) (fun vs H Q E h => ?_) (fun cdv A outer s H vs Q E hr h => ?_)
  · obtain ⟨p, hp, g, r, rows, rfl, _⟩ := h; rfl
  · obtain ⟨p, hp, g, r, rows, rfl, hg, hrs, hl1, hl2, q⟩ := h
    have nd := sc_taken_rows.nd
    refine ⟨_, pss_cons (ps_if (pt_not (pt_val (pe_isSeq (i := 1) T))) (pss_one ps_never) pss_nil)
      (pss_cons (ps_set (i := 2) nd rfl (Or.inl rfl) (pe_lst pa_nil))
      (pss_cons (ps_for PassesOwn.never rfl (pi_list (pv 1)) (pg_name (i := 3) nd rfl (Or.inl rfl))
        (pss_cons (ps_if (pt_not (pt_val (pe_isSeq (i := 3) T))) (pss_one ps_never) pss_nil)
        (pss_one (ps_expr (pe_bm PySem.F.plainAttrs_list PySem.F.slot_list_append PySem.F.type_list_append mt_append (pv 2) (pa_cons (pe_callTy call_tuple_of (by rfl) T.b_tuple boot_tuple (pa_cons
          (pe_lc (own := [("item", 4)]) (g := gName 4) (tt := tYes) rfl nd (pi_seq (pv 3)) (blkOk_by (N := ["ground", "rows", "found", "row", "item"]) (sc := defScope s_taken_rows) (by decide +kernel)) (fun _ _ _ _ _ => pg_name (i := 4) nd rfl (Or.inl rfl)) (fun _ _ _ _ _ => pts_nil)
            (fun _ _ _ _ _ => C8.pe_c (ok_taken T) hr (by decide) (by rfl) (pa_cons (pv 0) (pa_cons (pv 4) pa_nil)))) pa_nil)) pa_nil))))))
      (pss_one (ps_ret (pe_callTy call_tuple_of (by rfl) T.b_tuple boot_tuple (pa_cons (pv 2) pa_nil)))))), ?_⟩
    obtain ⟨ra, rvs, rfl, hra, al⟩ := id hrs
    refine ⟨_, rfl, ⟨ra, rvs, rfl, .inl hra⟩, fun H1 s1 => ⟨true, rfl, iteF ?_⟩⟩
    refine ⟨Nat.zero_le _, fun l hl => ?_⟩
    have h0l : H l = none := s1.free hl
    refine ⟨_, rfl, ra, rfl, ⟨_, SqL.of (same_upd' s1 h0l _ _ hra)⟩, ?_⟩
    refine for_it (walk_list (xs := rvs)) (fun i σ H' => ∃ us v3 v4, σ = [some g, some (.ref ra), some (.ref l), v3, v4] ∧ Same H H' ∧ H' l = some (.lst us) ∧ Al (RowT K) (hide l H') (rows.take i) us)
      ⟨[], none, none, rfl, same_upd' s1 h0l, upd_same, .nil⟩ (fun i σ H' _ ⟨_, _, _, _, s, _⟩ => SqL.of (s _ _ hra)) ?_ ?_
    · rintro i x σ H' _ hi ⟨us, v3, v4, rfl, s, hul, al'⟩ ⟨rfl, hx⟩
      obtain ⟨row, hrow, hseq⟩ := al.get' hx
      have hlen : row.length ≤ 1000 := hl2 row (List.mem_of_getElem? hrow)
      have hus := al'.length
      have hseq' := mon_seq mon_it row _ _ _ s hseq
      refine ⟨_, rfl, hseq'.sq, fun H2 s2 => ⟨true, rfl, iteF ?_⟩⟩
      have fin : ∀ (D : Addr) (H4 : Hp) (ws : List V), Same H2 H4 → H4 D = some (.lst ws) → Al (Rs K) (hide D H4) row ws → ∀ t, H4 t = none →
          rAppend (.ref l) [.ref t] (upd H4 t (.tup ws)) fun _ H5 => ∃ us v3_ v4_, ([some g, some (.ref ra), some (.ref l), some x, v4] : L2.St) = [some g, some (.ref ra), some (.ref l), v3_, v4_] ∧ Same H H5 ∧ H5 l = some (.lst us) ∧ Al (RowT K) (hide l H5) (rows.take (i + 1)) us := by
        intro D H4 ws s4 hD4 aD t ht
        have s5 : Same H2 (upd H4 t (.tup ws)) := same_upd' s4 (s4.free ht)
        have hl5 : upd H4 t (.tup ws) l = some (.lst us) := s5 _ _ (s2 _ _ hul)
        have hle : us.length < sizeLine := small1000 (by rw [hus, List.length_take]; omega)
        refine ⟨l, us, _, rfl, rfl, hl5, hle, us ++ [.ref t], _, _, rfl, same_upd' ((s.trans s2).trans s5) h0l, upd_same, ?_⟩
        rw [hide_upd, take_snoc hrow]
        refine (al'.mono mon_rowT (hide_mono (s2.trans s5))).snoc (imm_rowT _ _ _ _ _ hl5 trivial ⟨t, ws, rfl, upd_same, aD.mono mon_rs (hide_le.trans (same_upd ht))⟩)
      rcases hseq' with ⟨b, ws, rfl, hb, alr⟩ | ⟨b, ws, rfl, hb, alr⟩
      · have alr2 := alr.mono mon_it s2
        refine ⟨_, rfl, .inl ⟨rfl, _, SqL.of (s2 _ _ hul)⟩, _, rfl, b, rfl, .inl ⟨ws, SqL.of (s2 _ _ hb), fun D hD => ?_⟩⟩
        refine lc_map (walk_list (xs := ws)) (fun j => row.getD j 0) (Rs K) mon_rs (by rw [alr.length]; exact hlen) hD (fun H s => SqL.of (s _ _ (s2 _ _ hb))) ?_ ?_
        · rintro j y H4 _ hj s4 ⟨acc, ha⟩ ⟨rfl, hy⟩ Kk kk
          obtain ⟨it, hit, hitm⟩ := alr2.get' hy
          refine ⟨rfl, _, rfl, _, rfl, p, hp, g, y, it, rfl, mon_gr _ _ _ ((s.trans s2).trans s4) hg, mon_it _ _ _ _ s4 hitm, fun z H5 s5 hz => kk z H5 s5 ?_⟩
          rw [List.getD_eq_getElem?_getD, hit]
          exact imm_rs _ _ _ _ _ (s5 _ _ ha) trivial hz
        · intro H4 us4 s4 hD4 al4
          rw [alr.length, range_map_get] at al4
          exact ⟨D, us4, rfl, .inl ⟨SqL.of hD4, fun t ht => fin D H4 us4 s4 hD4 al4 t ht⟩⟩
      · have alr2 := alr.mono mon_it s2
        refine ⟨_, rfl, .inl ⟨rfl, _, SqL.of (s2 _ _ hul)⟩, _, rfl, b, rfl, .inr ⟨ws, SqT.of (s2 _ _ hb), fun D hD => ?_⟩⟩
        refine lc_map (walk_tup (xs := ws)) (fun j => row.getD j 0) (Rs K) mon_rs (by rw [alr.length]; exact hlen) hD (fun H s => SqT.of (s _ _ (s2 _ _ hb))) ?_ ?_
        · rintro j y H4 _ hj s4 ⟨acc, ha⟩ ⟨rfl, hy⟩ Kk kk
          obtain ⟨it, hit, hitm⟩ := alr2.get' hy
          refine ⟨rfl, _, rfl, _, rfl, p, hp, g, y, it, rfl, mon_gr _ _ _ ((s.trans s2).trans s4) hg, mon_it _ _ _ _ s4 hitm, fun z H5 s5 hz => kk z H5 s5 ?_⟩
          rw [List.getD_eq_getElem?_getD, hit]
          exact imm_rs _ _ _ _ _ (s5 _ _ ha) trivial hz
        · intro H4 us4 s4 hD4 al4
          rw [alr.length, range_map_get] at al4
          exact ⟨D, us4, rfl, .inl ⟨SqL.of hD4, fun t ht => fin D H4 us4 s4 hD4 al4 t ht⟩⟩
    · rintro σ H' ⟨us, v3, v4, rfl, s, hul, al'⟩
      refine ⟨_, rfl, l, us, rfl, .inl ⟨SqL.of hul, fun t ht => ?_⟩⟩
      have e : rows.take rvs.length = rows := List.take_of_length_le (by rw [al.length]; exact Nat.le_refl _)
      rw [e] at al'
      exact q _ _ (same_upd' s (s.free ht)) ⟨t, us, rfl, upd_same, al'.mono mon_rowT (hide_le.trans (same_upd ht))⟩
end
end K47

/-! text W4 -/
/-! rows times matrices; matrices -/
namespace K47
open PySem PySem.Spec PyProof.Rows L2
/-! ### plain -/
section
variable {F : Type} [Fld F] [DecidableEq F]
def rtStep (t : Row F) (cl : F × Row F) : Row F := if cl.1 = 0 then t else List.zipWith (fun x y => x + cl.1 * y) t cl.2
def rowTimes (row : Row F) (rows : List (Row F)) (w : Nat) : Row F := (List.zip row rows).foldl rtStep (List.replicate w 0)
theorem zip_range {G : F → F → F} {xs ys : Row F} (h : xs.length = ys.length) : (List.range xs.length).map (fun j => G (xs.getD j 0) (ys.getD j 0)) = List.zipWith G xs ys := by
  refine List.ext_getElem (by simp [h]) fun i h1 h2 => ?_
  have h3 : i < xs.length := by simpa using h1
  have h4 : i < ys.length := h ▸ h3
  simp [h3, h4]
theorem rtStep_len {t : Row F} {cl : F × Row F} {w : Nat} (h : t.length = w) (hl : cl.2.length = w) : (rtStep t cl).length = w := by
  unfold rtStep
  split
  · exact h
  · rw [List.length_zipWith, h, hl, Nat.min_self]
theorem fold_len {w : Nat} : ∀ (l : List (F × Row F)) (t : Row F), t.length = w → (∀ x ∈ l, x.2.length = w) → (l.foldl rtStep t).length = w
  | [], t, h, _ => h
  | a :: l, t, h, hl => fold_len l _ (rtStep_len h (hl a List.mem_cons_self)) fun x hx => hl x (List.mem_cons_of_mem _ hx)
theorem rowTimes_len {row : Row F} {rows : List (Row F)} {w : Nat} (h : ∀ r ∈ rows, r.length = w) : (rowTimes row rows w).length = w :=
  fold_len _ _ List.length_replicate fun x hx => h _ (List.of_mem_zip hx).2
theorem foldl_take_succ {α β : Type} (f : β → α → β) (b : β) {l : List α} {i : Nat} {x : α} (h : l[i]? = some x) : (l.take (i + 1)).foldl f b = f ((l.take i).foldl f b) x := by
  rw [take_snoc h, List.foldl_append]; rfl
end
section
variable {P : Program} {w : World} {K : PySem.W.Frag} {mg : Str → Option Value} {base : Heap}
abbrev RowL (K : PySem.W.Frag) {p : Nat} (xs : List (Zp p)) : Dn := LstOf (Rs K) xs
theorem mon_rowL {p : Nat} (xs : List (Zp p)) : Mon1 (RowL K xs) := mon_lst mon_rs xs
theorem flat_rep (a : V) : ∀ n : Nat, (List.replicate n [a]).flatten = List.replicate n a
  | 0 => rfl
  | n + 1 => by rw [List.replicate_succ, List.flatten_cons, flat_rep a n]; rfl
theorem al_rep {α : Type} {R : α → Dn} {H : Hp} {x : α} {v : V} (h : R x v H) : ∀ n : Nat, Al R H (List.replicate n x) (List.replicate n v)
  | 0 => .nil
  | n + 1 => .cons h (al_rep h n)
/-- a pair's names -/
theorem g_pair {K : PySem.W.Frag} {i j : Nat} {T : Addr} {x y : V} {σ : L2.St} {H : Hp} {Q : L2.St → Hp → Prop} (h : H T = some (.tup [x, y])) (q : Q ((σ.set i (some x)).set j (some y)) H) : gTup K 2 (gCons (gName i) (gCons (gName j) gNil)) (.ref T) σ H Q :=
  ⟨T, [x, y], rfl, SqT.of h, rfl, x, [y], rfl, y, [], rfl, rfl, q⟩
/-! ### row_times -/
def spRowTimes (K : PySem.W.Frag) : Sp := fun vs H Q _ => ∃ (p : Nat) (hp : P23 p) (g r rs : V) (row : List (Zp p)) (rows : List (List (Zp p))) (wd : Nat), vs = [g, r, rs, .int (wd : Int)] ∧ Gr K p g H ∧ RowT K row r H ∧ RowsT K rows rs H ∧
  row.length = rows.length ∧ rows.length ≤ 1000 ∧ wd ≤ 1000 ∧ (∀ x ∈ rows, x.length = wd) ∧ ∀ z H', Same H H' → RowT K (rowTimes row rows wd) z H' → Q z H'
theorem sc_row_times : FnScope ["ground", "row", "rows", "width", "total", "c", "line", "x", "y"] ["ground", "row", "rows", "width"] (defScope s_row_times) := ⟨rfl, rfl, rfl, by decide +kernel, rfl, by decide +kernel, by decide +kernel⟩
theorem ok_row_times (T : Tx K mg) : C8.Cal P w K mg base 9 "row_times" (spRowTimes K) [] := by
  refine cal_mk T.g_row_times T.d_row_times sc_row_times (fun _ _ _ _ _ _ us hl => match us, hl with | [_, _, _, _], _ => rfl) (fun vs H Q E h => ?_) (fun cdv A outer s H vs Q E hr h => ?_)
  · obtain ⟨p, hp, g, r, rs, row, rows, wd, rfl, _⟩ := h; rfl
  · obtain ⟨p, hp, g, r, rs, row, rows, wd, rfl, hg, hrow, hrows, hlen, hle, hwd, hw, q⟩ := h
    have nd := sc_row_times.nd
    refine ⟨_, pss_cons (ps_set (i := 4) nd rfl (Or.inl rfl) (pe_op op_rep (pe_lst (pa_cons (C8.pe_mt0 (ok_gr_zero T) hr (by decide) (pv 0)) pa_nil)) (pv 3)))
      (pss_cons (ps_for PassesOwn.never rfl (RZ.pi_zipA (by rfl) T.b_zip (pa_cons (pv 1) (pa_cons (pv 2) pa_nil))) (pg_tup rfl (pgs_cons (pg_name (i := 5) nd rfl (Or.inr rfl)) (pgs_cons (pg_name (i := 6) nd rfl (Or.inl rfl)) pgs_nil)))
        (pss_one (ps_if (pt_not (pt_val (C8.pe_mt0 (ok_rs_zero T) hr (by decide) (pv 5))))
          (pss_one (ps_setLc (i := 4) (own := [("x", 7), ("y", 8)]) (g := gTup K 2 (gCons (gName 7) (gCons (gName 8) gNil))) (tt := tYes) rfl nd rfl rfl (sw_true rfl rfl rfl (by decide +kernel)) (pi_zipM (by rfl) T.b_zip (pa_cons (pv 4) (pa_cons (pv 6) pa_nil)))
            (blkOk_by (N := ["ground", "row", "rows", "width", "total", "c", "line", "x", "y"]) (sc := defScope s_row_times) (by decide +kernel)) (fun _ _ _ _ _ => pg_tup rfl (pgs_cons (pg_name (i := 7) nd rfl (Or.inl rfl)) (pgs_cons (pg_name (i := 8) nd rfl (Or.inl rfl)) pgs_nil))) (fun _ _ _ _ _ => pts_nil)
            (fun _ _ _ _ _ => pe_op (op_met (ok_rs_add T) dn_add hr (by decide) T.ex.sR) (pv 7) (pe_op (op_met (ok_rs_mul T) dn_mul hr (by decide) T.ex.sR) (pv 5) (pv 8))))) pss_nil)))
      (pss_one (ps_ret (pe_callTy call_tuple_of (by rfl) T.b_tuple boot_tuple (pa_cons (pv 4) pa_nil))))), ?_⟩
    obtain ⟨ga, gd, rfl, hga⟩ := id hg
    obtain ⟨ra, rvs, rfl, hra, alr⟩ := id hrow
    obtain ⟨rsa, rsvs, rfl, hrsa, als⟩ := id hrows
    -- total = [ground.zero()] * width
    refine ⟨_, rfl, ga, gd, _, rfl, hga, no_zero _, p, hp, _, rfl, hg, fun z H1 s1 hz => ⟨(by show 1 ≤ sizeLine; decide), fun l1 hl1 => ?_⟩⟩
    refine ⟨_, rfl, l1, (wd : Int), [z], rfl, rfl, upd_same, by omega, by omega, ?_, fun l2 hl2 => ?_⟩
    · show 1 * (wd : Int).toNat ≤ sizeLine
      have := small1000 hwd
      omega
    have s2 : Same H (upd (upd H1 l1 (.lst [z])) l2 (.lst (List.replicate (wd : Int).toNat [z]).flatten)) := (s1.trans (same_upd hl1)).trans (same_upd hl2)
    have h0 : RowL K (List.replicate wd (0 : Zp p)) (.ref l2) (upd (upd H1 l1 (.lst [z])) l2 (.lst (List.replicate (wd : Int).toNat [z]).flatten)) :=
      ⟨l2, _, rfl, upd_same, by rw [flat_rep, Int.toNat_natCast]; exact al_rep (mon_rs _ _ _ _ ((same_upd hl1).trans (same_upd hl2)) hz) wd⟩
    -- for c, line in zip(row, rows)
    refine ⟨_, rfl, _, rfl, ra, rsa, rvs, rsvs, rfl, .inr ⟨SqT.of (s2 _ _ hra), SqT.of (s2 _ _ hrsa), ?_⟩⟩
    have lvs : rvs.length = rsvs.length := by rw [alr.length, als.length, hlen]
    refine for_it (walk_zipT lvs) (fun i σ H' => ∃ tv v5 v6, σ = [some (.ref ga), some (.ref ra), some (.ref rsa), some (.int (wd : Int)), some tv, v5, v6, none, none] ∧ Same H H' ∧ RowL K (((List.zip row rows).take i).foldl rtStep (List.replicate wd 0)) tv H')
      ⟨_, none, none, rfl, s2, h0⟩ (fun i σ H' _ ⟨_, _, _, _, s, _⟩ => ⟨SqT.of (s _ _ hra), SqT.of (s _ _ hrsa)⟩) ?_ ?_
    · rintro i x σ H' H'' hi ⟨tv, v5, v6, rfl, s, ht⟩ ⟨T2, u, v, rfl, hT2, rfl, hu, hv⟩
      obtain ⟨c, hc, hcR⟩ := alr.get' hu
      obtain ⟨line, hline, hlR⟩ := als.get' hv
      have s3 : Same H' (upd H' T2 (.tup [u, v])) := same_upd hT2
      have hll : line.length = wd := hw line (List.mem_of_getElem? hline)
      have hzip : (List.zip row rows)[i]? = some (c, line) := by rw [List.getElem?_zip_eq_some]; exact ⟨hc, hline⟩
      have htl : (((List.zip row rows).take i).foldl rtStep (List.replicate wd 0)).length = wd := fold_len _ _ List.length_replicate fun x hx => hw _ (List.of_mem_zip (List.mem_of_mem_take hx)).2
      refine g_pair upd_same ?_
      have hcR2 := mon_rs _ _ _ _ (s.trans s3) hcR
      have hlR2 := mon_rowT _ _ _ _ (s.trans s3) hlR
      have ht2 := mon_rowL _ _ _ _ s3 ht
      refine ⟨_, rfl, m_zero hcR2 ⟨_, rfl, ifND (fun hne => ?_) fun he => ?_⟩⟩
      · obtain ⟨la, lvs2, rfl, hla, all⟩ := hlR2
        obtain ⟨ta, tvs, rfl, hta, alt⟩ := ht2
        refine ⟨_, rfl, _, rfl, ta, la, tvs, lvs2, rfl, SqL.of hta, SqT.of hla, fun D hD => ?_⟩
        have hln : tvs.length = lvs2.length := by rw [alt.length, all.length, htl, hll]
        refine lc_map (walk_zipM hln) (fun j => (((List.zip row rows).take i).foldl rtStep (List.replicate wd 0)).getD j 0 + c * line.getD j 0) (Rs K) mon_rs (by rw [alt.length, htl]; exact hwd) hD (fun H s => ⟨SqL.of (s _ _ hta), SqT.of (s _ _ hla)⟩) ?_ ?_
        · rintro j y H4 _ hj s4 ⟨acc, ha⟩ ⟨T3, a1, a2, rfl, hT3, rfl, h1, h2⟩ Kk kk
          have s5 : Same H4 (upd H4 T3 (.tup [a1, a2])) := same_upd hT3
          obtain ⟨x1, hx1, r1⟩ := alt.get' h1
          obtain ⟨x2, hx2, r2⟩ := all.get' h2
          refine g_pair upd_same ⟨rfl, _, rfl, _, rfl, _, rfl, ?_⟩
          refine bin_rs (mon_rs _ _ _ _ (s4.trans s5) hcR2) (mon_rs _ _ _ _ (s4.trans s5) r2) fun z1 H5 s6 hz1 => ?_
          refine bin_rs (mon_rs _ _ _ _ ((s4.trans s5).trans s6) r1) hz1 fun z2 H6 s7 hz2 => kk z2 H6 ((s5.trans s6).trans s7) ?_
          rw [List.getD_eq_getElem?_getD, List.getD_eq_getElem?_getD, hx1, hx2]
          exact imm_rs _ _ _ _ _ (((s5.trans s6).trans s7) _ _ ha) trivial hz2
        · intro H4 us4 s4 hD4 al4
          refine ⟨_, _, _, rfl, (s.trans s3).trans s4, ?_⟩
          have e : tvs.length = (((List.zip row rows).take i).foldl rtStep (List.replicate wd 0)).length := alt.length
          rw [e, zip_range (G := fun x y => x + c * y) (by rw [htl, hll])] at al4
          rw [foldl_take_succ rtStep _ hzip]
          unfold rtStep
          rw [if_neg hne]
          exact ⟨D, us4, rfl, hD4, al4.mono mon_rs hide_le⟩
      · refine ⟨_, _, _, rfl, s.trans s3, ?_⟩
        rw [foldl_take_succ rtStep _ hzip]
        unfold rtStep
        rw [if_pos he]
        exact ht2
    · rintro σ H' ⟨tv, v5, v6, rfl, s, ht⟩
      obtain ⟨ta, tvs, rfl, hta, alt⟩ := ht
      refine ⟨_, rfl, ta, tvs, rfl, .inl ⟨SqL.of hta, fun t htn => ?_⟩⟩
      have e : (List.zip row rows).take rvs.length = List.zip row rows := List.take_of_length_le (by rw [alr.length, List.length_zip]; omega)
      rw [e] at alt
      exact q _ _ (s.trans (same_upd htn)) ⟨t, tvs, rfl, upd_same, alt.mono mon_rs (same_upd htn)⟩
end
end K47

/-! text W5 -/
/-! class Matrix -/
namespace K47
open PySem PySem.Spec PyProof.Rows L2
section
variable {F : Type} [Fld F] [DecidableEq F]
def transp (rows : List (Row F)) (w : Nat) : List (Row F) := (List.range w).map fun j => rows.map fun r => r.getD j 0
def addRows (A B : List (Row F)) : List (Row F) := List.zipWith (fun a b => List.zipWith (fun x y => x + y) a b) A B
end
section
variable {α : Type} {R S : α → Dn} {H : Hp}
theorem LstOf.imp (h : ∀ x v, R x v H → S x v H) {xs : List α} {v : V} : LstOf R xs v H → LstOf S xs v H := fun ⟨a, vs, e, ha, al⟩ => ⟨a, vs, e, ha, al.imp h⟩
theorem TupOf.imp (h : ∀ x v, R x v H → S x v H) {xs : List α} {v : V} : TupOf R xs v H → TupOf S xs v H := fun ⟨a, vs, e, ha, al⟩ => ⟨a, vs, e, ha, al.imp h⟩
theorem SeqOf.imp (h : ∀ x v, R x v H → S x v H) {xs : List α} {v : V} : SeqOf R xs v H → SeqOf S xs v H := fun z => z.elim (fun z => .inl (z.imp h)) fun z => .inr (z.imp h)
end
section
variable {P : Program} {w : World} {K : PySem.W.Frag} {mg : Str → Option Value} {base : Heap}
theorem same_made {H : Hp} {x dx C : Addr} (nx : H x = none) (nd : H dx = none) : Same H (upd (upd H dx (.own x)) x (.ins C dx [])) := fun b o e => by
  rw [upd_ne (ne_of_none e nx), upd_ne (ne_of_none e nd)]; exact e
/-- rows for a Matrix -/
abbrev InRows (K : PySem.W.Frag) {p : Nat} (rows : List (List (Zp p))) : Dn := LstOf (SeqOf (Itm K)) rows
theorem mon_inRows {p : Nat} (rows : List (List (Zp p))) : Mon1 (InRows K rows) := mon_lst (mon_seq mon_it) rows
theorem inRows_ll {p : Nat} {rows : List (List (Zp p))} {v : V} {H : Hp} (h : LstOf (RowL K) rows v H) : InRows K rows v H := h.imp fun _ _ z => .inl (z.imp fun _ _ y => .inr y)
theorem inRows_lt {p : Nat} {rows : List (List (Zp p))} {v : V} {H : Hp} (h : LstOf (RowT K) rows v H) : InRows K rows v H := h.imp fun _ _ z => .inr (z.imp fun _ _ y => .inr y)
theorem inRows_li {p : Nat} {rows : List (List (Zp p))} {v : V} {H : Hp} (h : LstOf (LstOf In) rows v H) : InRows K rows v H := h.imp fun _ _ z => .inl (z.imp fun _ _ y => .inl y)
/-! ### Matrix.__init__ -/
def spMtInit (K : PySem.W.Frag) : Sp := fun vs H Q _ => ∃ (a dx : Addr) (p : Nat) (hp : P23 p) (g r : V) (rows : List (List (Zp p))) (wd : Nat), vs = [.ref a, g, r, .int (wd : Int)] ∧ H a = some (.ins (cM K) dx []) ∧ Gr K p g H ∧ InRows K rows r H ∧
  rows.length ≤ 8 ∧ wd ≤ 64 ∧ (∀ x ∈ rows, x.length = wd) ∧ ∀ H' : Hp, Mt K rows wd (.ref a) H' → (∀ b o, H b = some o → b ≠ a → H' b = some o) → Q .non H'
theorem sc_mt_init : FnScope ["self", "ground", "rows", "width", "own", "row"] ["self", "ground", "rows", "width"] (defScope s_Matrix_init) := ⟨rfl, rfl, rfl, by decide +kernel, rfl, by decide +kernel, by decide +kernel⟩
theorem ok_mt_init (T : Tx K mg) : C8.Mak P w K mg base 10 "Matrix" (cM K) (spMtInit K) [] := by
  obtain ⟨fd, F⟩ := T.d_Matrix_init
  obtain ⟨ds, hd, hb⟩ := F.binds1 (ps := ["self", "ground", "rows", "width"]) 4 1 (by simp) rfl (fun T kV doc pm an cdv ct us its h1 h2 => match us, its, h1, h2 with | [_, _, _, _], [_], _, _ => ⟨_, rfl, rfl⟩)
  refine ⟨_, fd, ["self", "ground", "rows", "width"], ds, T.mk_Matrix, fnok F sc_mt_init (fun vs H Q E h => ?_) (fun cdv A outer s H vs Q E hr h => ?_), T.g_Matrix, hb, hd⟩
  · obtain ⟨a, dx, p, hp, g, r, rows, wd, rfl, _⟩ := h; rfl
  · obtain ⟨a, dx, p, hp, g, r, rows, wd, rfl, ha, hg, hrs, h8, h64, hw, q⟩ := h
    have nd := sc_mt_init.nd
    refine ⟨_, pss_cons (ps_set (i := 4) nd rfl (Or.inl rfl) (C8.pe_c (ok_taken_rows T) hr (by decide) (by rfl) (pa_cons (pv 1) (pa_cons (pv 2) pa_nil))))
      (pss_cons (ps_if (pt_cmp (pc_isN (pv 3))) pss_never pss_nil)
      (pss_cons (ps_for PassesOwn.never rfl (pi_tup (pv 4)) (pg_name (i := 5) nd rfl (Or.inl rfl))
        (pss_one (ps_if (pt_cmp (pc_neI (pe_callB call_len_seq (by rfl) T.b_len PySem.boot_len (pa_cons (pv 5) pa_nil)) (pv 3))) (pss_one ps_never) pss_nil)))
      (pss_cons (ps_if (PW.pt (pw_or (pt_cmp (pc_gt (pe_callB call_len_seq (by rfl) T.b_len PySem.boot_len (pa_cons (pv 4) pa_nil)) (C8.pe_gc (v := .int 8) (by rfl) (by obtain ⟨t, e⟩ := T.i_MOST_ROWS; exact ⟨_, e, t, rfl⟩))))
          (pw_or1 (pt_cmp (pc_gt (pv 3) (C8.pe_gc (v := .int 64) (by rfl) (by obtain ⟨t, e⟩ := T.i_MOST_WIDTH; exact ⟨_, e, t, rfl⟩))))))) (pss_one ps_never) pss_nil)
      (pss_cons (ps_fld (pv 0) (pv 1) rfl) (pss_cons (ps_fld (pv 0) (pv 4) rfl) (pss_one (ps_fld (pv 0) (pv 3) rfl))))))), ?_⟩
    refine ⟨_, rfl, _, rfl, p, hp, g, r, rows, rfl, hg, hrs, by omega, fun x hx => by rw [hw x hx]; omega, fun z H1 s1 hz => ?_⟩
    obtain ⟨za, zvs, rfl, hza, alz⟩ := id hz
    refine ⟨_, rfl, _, rfl, iteF ?_⟩
    refine ⟨_, rfl, za, rfl, ⟨_, SqT.of hza⟩, ?_⟩
    refine for_it (walk_tup (xs := zvs)) (fun i σ H' => ∃ v5, σ = [some (.ref a), some g, some r, some (.int (wd : Int)), some (.ref za), v5] ∧ H' = H1) ⟨none, rfl, rfl⟩ (fun i σ H' _ ⟨_, _, e⟩ => by rw [e]; exact SqT.of hza) ?_ ?_
    · rintro i x σ H' _ hi ⟨v5, rfl, rfl⟩ ⟨rfl, hx⟩
      obtain ⟨row, hrow, xa, xvs, rfl, hxa, alx⟩ := alz.get' hx
      have e : (xvs.length : Int) = (wd : Int) := by rw [alx.length, hw row (List.mem_of_getElem? hrow)]
      exact ⟨_, rfl, xa, xvs, rfl, .inr (SqT.of hxa), _, rfl, _, _, rfl, rfl, _, rfl, ifNF e ⟨some (.ref xa), rfl, rfl⟩⟩
    · rintro σ H' ⟨v5, rfl, rfl⟩
      have e8 : ¬ ((8 : Int) < (zvs.length : Int)) := by rw [alz.length]; omega
      have e64 : ¬ ((64 : Int) < (wd : Int)) := by omega
      refine ⟨_, rfl, za, zvs, rfl, .inr (SqT.of hza), _, _, rfl, rfl, _, rfl, ifF e8 ⟨_, rfl, _, _, rfl, rfl, _, rfl, ifF e64 ?_⟩⟩
      refine ⟨_, rfl, _, rfl, a, cM K, dx, [], rfl, s1 _ _ ha, T.c_Matrix, T.n_Matrix_ground, (by show 0 < 1000; decide), ?_⟩
      refine ⟨_, rfl, _, rfl, a, cM K, dx, _, rfl, upd_same, T.c_Matrix, T.n_Matrix_rows, (by show 1 < 1000; decide), ?_⟩
      refine ⟨_, rfl, _, rfl, a, cM K, dx, _, rfl, upd_same, T.c_Matrix, T.n_Matrix_width, (by show 2 < 1000; decide), ?_⟩
      have up : ∀ b o, H' b = some o → b ≠ a → (upd (upd (upd H' a (.ins (cM K) dx (putF "ground" g []))) a (.ins (cM K) dx (putF "rows" (.ref za) (putF "ground" g [])))) a (.ins (cM K) dx (putF "width" (.int (wd : Int)) (putF "rows" (.ref za) (putF "ground" g []))))) b = some o :=
        fun b o e ne => set_ne ne (set_ne ne (set_ne ne e))
      have ha' := s1 _ _ ha
      have keep : ∀ {o : HO} {b : Addr}, H' b = some o → (∀ dx', o ≠ .ins (cM K) dx' []) → b ≠ a := fun {o b} e n z => by
        rw [z, ha'] at e; exact n dx (Option.some.inj e).symm
      refine q _ ⟨a, dx, g, .ref za, rfl, Eq.trans upd_same (congrArg (fun z => some (HO.ins (cM K) dx z)) (mf_put _ _ _)), ?_, za, zvs, rfl, up _ _ hza (keep hza fun _ z => nomatch z), alz.imp fun x v ⟨xa, xvs, e, hxa, alx⟩ => ⟨xa, xvs, e, up _ _ hxa (keep hxa fun _ z => nomatch z), alx.imp fun n u ⟨na, nd', e', hn⟩ => ⟨na, nd', e', up _ _ hn (keep hn fun _ z => by injection z with _ _ y; exact nomatch y)⟩⟩⟩
        fun b o e ne => up b o (s1 _ _ e) ne
      obtain ⟨ga, gd, rfl, hga⟩ := mon_gr _ _ _ s1 hg
      exact ⟨ga, gd, rfl, up _ _ hga (keep hga fun _ z => by injection z with _ _ y; exact nomatch y)⟩
/-- a new matrix: what its making asks -/
theorem mk_mt {p : Nat} [hp : P23 p] {g r : V} {rows : List (List (Zp p))} {wd : Nat} {H : Hp} (hg : Gr K p g H) (hrs : InRows K rows r H) (h8 : rows.length ≤ 8) (h64 : wd ≤ 64) (hw : ∀ x ∈ rows, x.length = wd)
    {Q : VK} {E : XK} {x dx : Addr} (nx : H x = none) (nd : H dx = none) (q : ∀ H' : Hp, Same H H' → Mt K rows wd (.ref x) H' → Q .non H') :
    spMtInit K [.ref x, g, r, .int (wd : Int)] (upd (upd H dx (.own x)) x (.ins (cM K) dx [])) Q E :=
  ⟨x, dx, p, hp, g, r, rows, wd, rfl, upd_same, mon_gr _ _ _ (same_made nx nd) hg, mon_inRows _ _ _ _ (same_made nx nd) hrs, h8, h64, hw, fun H' hm k => q H' (Same.made nx nd k) hm⟩
/-! ### check_square -/
def spSquare (K : PySem.W.Frag) : Sp := fun vs H Q _ => ∃ (p : Nat) (m : V) (rows : List (List (Zp p))), vs = [m] ∧ Mt K rows rows.length m H ∧ Q .non H
theorem sc_check_square : FnScope ["a"] ["a"] (defScope s_check_square) := ⟨rfl, rfl, rfl, by decide +kernel, rfl, by decide +kernel, by decide +kernel⟩
theorem ok_check_square (T : Tx K mg) : C8.Cal P w K mg base 1 "check_square" (spSquare K) [] := by
  refine cal_mk T.g_check_square T.d_check_square sc_check_square (fun _ _ _ _ _ _ us hl => match us, hl with | [_], _ => rfl) (fun vs H Q E h => ?_) (fun cdv A outer s H vs Q E hr h => ?_)
  · obtain ⟨p, m, rows, rfl, _⟩ := h; rfl
  · obtain ⟨p, m, rows, rfl, ⟨a, dx, g, t, rfl, ha, hg, ta, tvs, rfl, hta, alt⟩, q⟩ := h
    refine ⟨_, pss_one (ps_if (pt_cmp (pc_neI (pe_callB call_len_seq (by rfl) T.b_len PySem.boot_len (pa_cons (pe_fld (pv 0) rfl) pa_nil)) (pe_fld (pv 0) rfl))) (pss_one ps_never) pss_nil), ?_⟩
    have e : (tvs.length : Int) = (rows.length : Int) := by rw [alt.length]
    exact ⟨_, rfl, a, cM K, dx, _, _, rfl, ha, T.c_Matrix, T.n_Matrix_rows, mf_rows _ _ _, ta, tvs, rfl, .inr (SqT.of hta), _, rfl, a, cM K, dx, _, _, rfl, ha, T.c_Matrix, T.n_Matrix_width, mf_width _ _ _, _, _, rfl, rfl, _, rfl, ifNF e q⟩
/-! ### Matrix.__len__ -/
def spMtLen (K : PySem.W.Frag) : Sp := fun vs H Q _ => ∃ (p : Nat) (m : V) (rows : List (List (Zp p))) (wd : Nat), vs = [m] ∧ Mt K rows wd m H ∧ Q (.int (rows.length : Int)) H
theorem sc_mt_len : FnScope ["self"] ["self"] (defScope s_Matrix_len) := ⟨rfl, rfl, rfl, by decide +kernel, rfl, by decide +kernel, by decide +kernel⟩
theorem ok_mt_len (T : Tx K mg) : C8.Met P w K mg base 1 (cM K) "__len__" (spMtLen K) [] := by
  refine met_mk T.c_Matrix T.m_Matrix_len T.d_Matrix_len sc_mt_len (fun _ _ _ _ _ _ us hl => match us, hl with | [_], _ => rfl) (fun vs H Q E h => ?_) (fun cdv A outer s H vs Q E hr h => ?_)
  · obtain ⟨p, m, rows, wd, rfl, _⟩ := h; rfl
  · obtain ⟨p, m, rows, wd, rfl, ⟨a, dx, g, t, rfl, ha, hg, ta, tvs, rfl, hta, alt⟩, q⟩ := h
    refine ⟨_, pss_one (ps_ret (pe_callB call_len_seq (by rfl) T.b_len PySem.boot_len (pa_cons (pe_fld (pv 0) rfl) pa_nil))), ?_⟩
    refine ⟨_, rfl, a, cM K, dx, _, _, rfl, ha, T.c_Matrix, T.n_Matrix_rows, mf_rows _ _ _, ta, tvs, rfl, .inr (SqT.of hta), ?_⟩
    rw [alt.length]; exact q
/-! ### Matrix.before -/
def spBefore (K : PySem.W.Frag) : Sp := fun vs H Q _ => ∃ (p : Nat) (hp : P23 p) (m r : V) (rows : List (List (Zp p))) (row : List (Zp p)) (wd : Nat), vs = [m, r] ∧ Mt K rows wd m H ∧ RowT K row r H ∧ row.length = rows.length ∧ rows.length ≤ 1000 ∧ wd ≤ 1000 ∧ (∀ x ∈ rows, x.length = wd) ∧
  ∀ z H', Same H H' → RowT K (rowTimes row rows wd) z H' → Q z H'
theorem sc_mt_before : FnScope ["self", "row"] ["self", "row"] (defScope s_Matrix_before) := ⟨rfl, rfl, rfl, by decide +kernel, rfl, by decide +kernel, by decide +kernel⟩
theorem ok_mt_before (T : Tx K mg) : C8.Met P w K mg base 10 (cM K) "before" (spBefore K) [] := by
  refine met_mk T.c_Matrix T.m_Matrix_before T.d_Matrix_before sc_mt_before (fun _ _ _ _ _ _ us hl => match us, hl with | [_, _], _ => rfl) (fun vs H Q E h => ?_) (fun cdv A outer s H vs Q E hr h => ?_)
  · obtain ⟨p, hp, m, r, rows, row, wd, rfl, _⟩ := h; rfl
  · obtain ⟨p, hp, m, r, rows, row, wd, rfl, ⟨a, dx, g, t, rfl, ha, hg, ht⟩, hrow, hl, h1, h2, hw, q⟩ := h
    obtain ⟨ta, tvs, rfl, hta, alt⟩ := id ht
    obtain ⟨ra, rvs, rfl, hra, alr⟩ := id hrow
    refine ⟨_, pss_cons (ps_if (pt_cmp (pc_neI (pe_callB call_len_seq (by rfl) T.b_len PySem.boot_len (pa_cons (pv 1) pa_nil)) (pe_callB call_len_seq (by rfl) T.b_len PySem.boot_len (pa_cons (pe_fld (pv 0) rfl) pa_nil)))) (pss_one ps_never) pss_nil)
      (pss_one (ps_ret (C8.pe_c (ok_row_times T) hr (by decide) (by rfl) (pa_cons (pe_fld (pv 0) rfl) (pa_cons (pv 1) (pa_cons (pe_fld (pv 0) rfl) (pa_cons (pe_fld (pv 0) rfl) pa_nil))))))), ?_⟩
    have e : (rvs.length : Int) = (tvs.length : Int) := by rw [alr.length, alt.length, hl]
    refine ⟨_, rfl, ra, rvs, rfl, .inr (SqT.of hra), _, rfl, a, cM K, dx, _, _, rfl, ha, T.c_Matrix, T.n_Matrix_rows, mf_rows _ _ _, ta, tvs, rfl, .inr (SqT.of hta), _, _, rfl, rfl, _, rfl, ifNF e ?_⟩
    exact ⟨_, rfl, a, cM K, dx, _, _, rfl, ha, T.c_Matrix, T.n_Matrix_ground, mf_ground _ _ _, _, rfl, _, rfl, a, cM K, dx, _, _, rfl, ha, T.c_Matrix, T.n_Matrix_rows, mf_rows _ _ _, _, rfl, a, cM K, dx, _, _, rfl, ha, T.c_Matrix, T.n_Matrix_width, mf_width _ _ _,
      p, hp, _, _, _, row, rows, wd, rfl, hg, hrow, ht, hl, h1, h2, hw, q⟩
end
end K47

/-! text W6 -/
/-! matrices: ==, +, transposed -/
namespace K47
open PySem PySem.Spec PyProof.Rows L2
section
variable {X : Cx} {k j : Nat} {C : Addr} {R : Addr → Addr → Hp → Prop}
theorem rc_met (c : C8.Met X.prog X.w X.K X.mg X.base k C "__eq__" (spEq R) []) : RcG X k (DIns C R) := by
  obtain ⟨f, fd, ps, ds, hcl, hme, F, b, d⟩ := c.ex
  have e := vals_nil d
  subst e
  exact rcG_ins (E := C8.E0) F hme.at_ hme.fn b C8.pass0
theorem eqg_met (c : C8.Met X.prog X.w X.K X.mg X.base k C "__eq__" (spEq R) []) : EqG X k (DIns C R) := by
  obtain ⟨f, fd, ps, ds, hcl, hme, F, b, d⟩ := c.ex
  have e := vals_nil d
  subst e
  exact eqG_ins (E := C8.E0) F hme.at_ hme.fn b C8.pass0
theorem ne_met (c : C8.Met X.prog X.w X.K X.mg X.base k C "__eq__" (spEq R) []) (hr : Room j X.A) (hk : k + 1 ≤ j) (ho : PySem.W.mroIn X.K C (.type "object") = some true)
    (hn : PySem.W.findIn X.K (.ref C) "__ne__" = some (some (.builtin "object.__ne__"))) : OpR X (compareOp .NotEq) (rNeG (DIns C R)) := by
  obtain ⟨f, fd, ps, ds, hcl, hme, F, b, d⟩ := c.ex
  have e := vals_nil d
  subst e
  exact op_neOwn (E := C8.E0) F (hr.mono hk) ho hn hme.at_ hme.fn b C8.pass0
end
section
variable {P : Program} {w : World} {K : PySem.W.Frag} {mg : Str → Option Value} {base : Heap}
theorem d_gr {p : Nat} {g g' : V} {H : Hp} (h : Gr K p g H) (h' : Gr K p g' H) : DIns (cG K) (eqGr K) g g' H := by
  obtain ⟨a, dx, rfl, ha⟩ := h
  obtain ⟨b, dy, rfl, hb⟩ := h'
  exact ⟨a, b, dx, dy, _, _, rfl, rfl, ha, hb, p, ⟨a, dx, rfl, ha⟩, ⟨b, dy, rfl, hb⟩⟩
theorem d_rs {p : Nat} {x : Zp p} {u v : V} {H : Hp} (h : Rs K x u H) (h' : Rs K x v H) : DIns (cR K) (eqRs K) u v H := by
  obtain ⟨a, dx, rfl, ha⟩ := h
  obtain ⟨b, dy, rfl, hb⟩ := h'
  exact ⟨a, b, dx, dy, _, _, rfl, rfl, ha, hb, p, x, ⟨a, dx, rfl, ha⟩, ⟨b, dy, rfl, hb⟩⟩
theorem prs_al {α : Type} {R : α → Dn} {D : Eqv} {H : Hp} (h : ∀ x u v, R x u H → R x v H → D u v H) : ∀ {xs : List α} {us vs : List V}, Al R H xs us → Al R H xs vs → Prs D us vs H
  | _, _, _, .nil, .nil => Prs.nil
  | _, _, _, .cons r t, .cons r' t' => Prs.cons (h _ _ _ r r') (prs_al h t t')
theorem d_row {p : Nat} {x : List (Zp p)} {u v : V} {H : Hp} (h : RowT K x u H) (h' : RowT K x v H) : DTup K (DIns (cR K) (eqRs K)) u v H := by
  obtain ⟨a, us, rfl, ha, al⟩ := h
  obtain ⟨b, vs, rfl, hb, bl⟩ := h'
  exact ⟨a, b, us, vs, rfl, rfl, SqT.of ha, SqT.of hb, prs_al (R := Rs K) (D := DIns (cR K) (eqRs K)) (fun _ _ _ r r' => d_rs r r') al bl⟩
theorem d_rows {p : Nat} {x : List (List (Zp p))} {u v : V} {H : Hp} (h : RowsT K x u H) (h' : RowsT K x v H) : DTup K (DTup K (DIns (cR K) (eqRs K))) u v H := by
  obtain ⟨a, us, rfl, ha, al⟩ := h
  obtain ⟨b, vs, rfl, hb, bl⟩ := h'
  exact ⟨a, b, us, vs, rfl, rfl, SqT.of ha, SqT.of hb, prs_al (R := TupOf (Rs K)) (D := DTup K (DIns (cR K) (eqRs K))) (fun _ _ _ r r' => d_row r r') al bl⟩
theorem mon_eqRs : Mon (DIns (cR K) (eqRs K)) := mon_ins fun a b H H' e ⟨p, x, h1, h2⟩ => ⟨p, x, mon_rs _ _ _ _ e h1, mon_rs _ _ _ _ e h2⟩
/-! ### Matrix.__eq__ -/
def eqMt (K : PySem.W.Frag) : Addr → Addr → Hp → Prop := fun a b H => ∃ (p : Nat) (rows : List (List (Zp p))) (wd : Nat), Mt K rows wd (.ref a) H ∧ Mt K rows wd (.ref b) H
theorem sc_mt_eq : FnScope ["self", "other"] ["self", "other"] (defScope s_Matrix_eq) := ⟨rfl, rfl, rfl, by decide +kernel, rfl, by decide +kernel, by decide +kernel⟩
theorem ok_mt_eq (T : Tx K mg) : C8.Met P w K mg base 5 (cM K) "__eq__" (spEq (eqMt K)) [] := by
  refine met_mk T.c_Matrix T.m_Matrix_eq T.d_Matrix_eq sc_mt_eq (fun _ _ _ _ _ _ us hl => match us, hl with | [_, _], _ => rfl) (fun vs H Q E h => ?_) (fun cdv A outer s H vs Q E hr h => ?_)
  · obtain ⟨a, b, rfl, _⟩ := h; rfl
  · obtain ⟨a, b, rfl, ⟨p, rows, wd, ⟨a', dx, g, t, e1, ha, hg, ht⟩, ⟨b', dy, g', t', e2, hb, hg', ht'⟩⟩, q⟩ := h
    cases e1; cases e2
    refine ⟨_, pss_cons (ps_if (pt_not (pt_val (pe_callB call_isi (by rfl) T.b_isinstance boot_isinstance (pa_cons (pv 1) (pa_cons (pe_glob (v := .ref (cM K)) (by rfl) T.g_Matrix rfl) pa_nil))))) pss_never pss_nil)
      (pss_one (ps_ret (pe_and (pe_cmpR (op_eqG (rc_met (ok_gr_eq T)) (hr.mono (by decide))) (pe_fld (pv 0) rfl) (pe_fld (pv 1) rfl) (nomark _))
        (pe_and (pe_cmp (pc_eqI (pe_fld (pv 0) rfl) (pe_fld (pv 1) rfl)))
        (pe_one (pe_cmpR (op_eqG (n := 3) (rcG_tup (n := 2) (L2.mon_tup mon_eqRs) (eqG_tup (n := 1) mon_eqRs (eqg_met (ok_rs_eq T)))) (hr.mono (by decide))) (pe_fld (pv 0) rfl) (pe_fld (pv 1) rfl) (nomark _))))))), ?_⟩
    refine ⟨_, rfl, _, _, _, _, true, rfl, .own _, tyM T hb, T.ex.mM, true, rfl, iteF ?_⟩
    refine ⟨_, rfl, a, cM K, dx, _, _, rfl, ha, T.c_Matrix, T.n_Matrix_ground, mf_ground _ _ _, _, rfl, b, cM K, dy, _, _, rfl, hb, T.c_Matrix, T.n_Matrix_ground, mf_ground _ _ _, d_gr hg hg', fun H1 s1 => ⟨true, rfl, iteT ?_⟩⟩
    have ha1 := s1 _ _ ha
    have hb1 := s1 _ _ hb
    refine ⟨_, rfl, a, cM K, dx, _, _, rfl, ha1, T.c_Matrix, T.n_Matrix_width, mf_width _ _ _, _, rfl, b, cM K, dy, _, _, rfl, hb1, T.c_Matrix, T.n_Matrix_width, mf_width _ _ _, _, _, rfl, rfl, _, rfl, ifT rfl ?_⟩
    refine ⟨_, rfl, a, cM K, dx, _, _, rfl, ha1, T.c_Matrix, T.n_Matrix_rows, mf_rows _ _ _, _, rfl, b, cM K, dy, _, _, rfl, hb1, T.c_Matrix, T.n_Matrix_rows, mf_rows _ _ _, d_rows (mon_rowsT _ _ _ _ s1 ht) (mon_rowsT _ _ _ _ s1 ht'), fun H2 s2 => q H2 (s1.trans s2)⟩
theorem d_mt {p : Nat} {rows : List (List (Zp p))} {wd : Nat} {u v : V} {H : Hp} (h : Mt K rows wd u H) (h' : Mt K rows wd v H) : DIns (cM K) (eqMt K) u v H := by
  obtain ⟨a, dx, g, t, rfl, ha, hg, ht⟩ := id h
  obtain ⟨b, dy, g', t', rfl, hb, hg', ht'⟩ := id h'
  exact ⟨a, b, dx, dy, _, _, rfl, rfl, ha, hb, p, rows, wd, h, h'⟩
/-! ### check_alike -/
def spAlike (K : PySem.W.Frag) : Sp := fun vs H Q _ => ∃ (p : Nat) (m m' : V) (A B : List (List (Zp p))) (wd : Nat), vs = [m, m'] ∧ Mt K A wd m H ∧ Mt K B wd m' H ∧ A.length = B.length ∧ ∀ H', Same H H' → Q .non H'
theorem sc_check_alike : FnScope ["a", "b"] ["a", "b"] (defScope s_check_alike) := ⟨rfl, rfl, rfl, by decide +kernel, rfl, by decide +kernel, by decide +kernel⟩
theorem ok_check_alike (T : Tx K mg) : C8.Cal P w K mg base 3 "check_alike" (spAlike K) [] := by
  refine cal_mk T.g_check_alike T.d_check_alike sc_check_alike (fun _ _ _ _ _ _ us hl => match us, hl with | [_, _], _ => rfl) (fun vs H Q E h => ?_) (fun cdv A outer s H vs Q E hr h => ?_)
  · obtain ⟨p, m, m', A, B, wd, rfl, _⟩ := h; rfl
  · obtain ⟨p, m, m', A, B, wd, rfl, ⟨a, dx, g, t, rfl, ha, hg, ta, tvs, rfl, hta, alt⟩, ⟨b, dy, g', t', rfl, hb, hg', tb, tws, rfl, htb, blt⟩, hl, q⟩ := h
    refine ⟨_, pss_one (ps_if (PW.pt (pw_or (pt_cmpR (ne_met (ok_gr_eq T) hr (by decide) T.ex.iG.hm T.ex.neG) (pe_fld (pv 0) rfl) (pe_fld (pv 1) rfl) (nomark _))
      (pw_or (pt_cmp (pc_neI (pe_fld (pv 0) rfl) (pe_fld (pv 1) rfl)))
      (pw_or1 (pt_cmp (pc_neI (pe_callB call_len_seq (by rfl) T.b_len PySem.boot_len (pa_cons (pe_fld (pv 0) rfl) pa_nil)) (pe_callB call_len_seq (by rfl) T.b_len PySem.boot_len (pa_cons (pe_fld (pv 1) rfl) pa_nil)))))))) (pss_one ps_never) pss_nil), ?_⟩
    refine ⟨_, rfl, a, cM K, dx, _, _, rfl, ha, T.c_Matrix, T.n_Matrix_ground, mf_ground _ _ _, _, rfl, b, cM K, dy, _, _, rfl, hb, T.c_Matrix, T.n_Matrix_ground, mf_ground _ _ _, d_gr hg hg', fun H1 s1 => ⟨false, rfl, iteF ?_⟩⟩
    have ha1 := s1 _ _ ha
    have hb1 := s1 _ _ hb
    have e : (tvs.length : Int) = (tws.length : Int) := by rw [alt.length, blt.length, hl]
    refine ⟨_, rfl, a, cM K, dx, _, _, rfl, ha1, T.c_Matrix, T.n_Matrix_width, mf_width _ _ _, _, rfl, b, cM K, dy, _, _, rfl, hb1, T.c_Matrix, T.n_Matrix_width, mf_width _ _ _, _, _, rfl, rfl, _, rfl, ifNF rfl ?_⟩
    refine ⟨_, rfl, a, cM K, dx, _, _, rfl, ha1, T.c_Matrix, T.n_Matrix_rows, mf_rows _ _ _, ta, tvs, rfl, .inr (SqT.of (s1 _ _ hta)), _, rfl, b, cM K, dy, _, _, rfl, hb1, T.c_Matrix, T.n_Matrix_rows, mf_rows _ _ _, tb, tws, rfl, .inr (SqT.of (s1 _ _ htb)), _, _, rfl, rfl, _, rfl, ifNF e (q H1 s1)⟩
/-! ### Matrix.transposed -/
def spTransp (K : PySem.W.Frag) : Sp := fun vs H Q _ => ∃ (p : Nat) (hp : P23 p) (m : V) (rows : List (List (Zp p))) (wd : Nat), vs = [m] ∧ Mt K rows wd m H ∧ wd ≤ 8 ∧ rows.length ≤ 8 ∧ (∀ x ∈ rows, x.length = wd) ∧ ∀ z H', Same H H' → Mt K (transp rows wd) rows.length z H' → Q z H'
theorem sc_mt_transp : FnScope ["self", "rows", "j", "row"] ["self"] (defScope s_Matrix_transposed) := ⟨rfl, rfl, rfl, by decide +kernel, rfl, by decide +kernel, by decide +kernel⟩
theorem transp_len {F : Type} [Fld F] [DecidableEq F] (rows : List (Row F)) (w : Nat) : (transp rows w).length = w := by simp [transp]
theorem transp_row {F : Type} [Fld F] [DecidableEq F] {rows : List (Row F)} {w : Nat} : ∀ x ∈ transp rows w, x.length = rows.length := fun x hx => by
  obtain ⟨j, _, e⟩ := List.mem_map.mp hx
  rw [← e, List.length_map]
theorem range_map_get' {α β : Type} (xs : List α) (d : α) (f : α → β) : (List.range xs.length).map (fun i => f (xs.getD i d)) = xs.map f := by
  refine List.ext_getElem (by simp) fun i h1 h2 => ?_
  have h3 : i < xs.length := by simpa using h2
  simp [h3]
theorem ok_mt_transp (T : Tx K mg) : C8.Met P w K mg base 12 (cM K) "transposed" (spTransp K) [] := by
  refine met_mk T.c_Matrix T.m_Matrix_transposed T.d_Matrix_transposed sc_mt_transp (fun _ _ _ _ _ _ us hl => match us, hl with | [_], _ => rfl) (fun vs H Q E h => ?_) (fun cdv A outer s H vs Q E hr h => ?_)
  · obtain ⟨p, hp, m, rows, wd, rfl, _⟩ := h; rfl
  · obtain ⟨p, hp, m, rows, wd, rfl, ⟨a, dx, g, t, rfl, ha, hg, ta, tvs, rfl, hta, alt⟩, hwd, hrl, hw, q⟩ := h
    have nd := sc_mt_transp.nd
    refine ⟨_, pss_cons (ps_if (pt_cmp (pc_gt (pe_fld (pv 0) rfl) (C8.pe_gc (v := .int 8) (by rfl) (by obtain ⟨t, e⟩ := T.i_MOST_ROWS; exact ⟨_, e, t, rfl⟩)))) (pss_one ps_never) pss_nil)
      (pss_cons (ps_setLc (i := 1) (own := [("j", 2)]) (g := gName 2) (tt := tYes) (te := tLc (iTup K (tFld K (tVar 0) "rows")) (gName 3) tYes (tOp (rIxT K) (tVar 3) (tVar 2)) [3]) rfl nd rfl rfl (sw_true rfl rfl rfl (by decide +kernel)) (pi_range1 (by rfl) T.b_range (pa_cons (pe_fld (pv 0) rfl) pa_nil))
          (blkOk_by (N := ["self", "rows", "j", "row"]) (sc := defScope s_Matrix_transposed) (by decide +kernel)) (fun _ _ _ _ _ => pg_name (i := 2) nd rfl (Or.inr rfl)) (fun _ _ _ _ _ => pts_nil) 
            (fun _ _ _ _ _ => pe_lc (own := [("row", 3)]) (g := gName 3) (tt := tYes) rfl nd (pi_tup (pe_fld (pv 0) rfl)) (blkOk_by (by kernel_rfl)) (fun _ _ _ _ _ => pg_name (i := 3) nd rfl (Or.inl rfl)) (fun _ _ _ _ _ => pts_nil)
            (fun _ _ _ _ _ => pe_ix ix_tup (pv 3) (pv 2) (fun _ _ => rfl))))
      (pss_one (ps_ret (C8.pe_mk (ok_mt_init T) hr (by decide) (by rfl) (pa_cons (pe_fld (pv 0) rfl) (pa_cons (pv 1) (pa_cons (pe_callB call_len_seq (by rfl) T.b_len PySem.boot_len (pa_cons (pe_fld (pv 0) rfl) pa_nil)) pa_nil))))))), ?_⟩
    have e8 : ¬ ((8 : Int) < (wd : Int)) := by omega
    refine ⟨_, rfl, a, cM K, dx, _, _, rfl, ha, T.c_Matrix, T.n_Matrix_width, mf_width _ _ _, _, _, rfl, rfl, _, rfl, ifF e8 ?_⟩
    refine ⟨_, rfl, a, cM K, dx, _, _, rfl, ha, T.c_Matrix, T.n_Matrix_width, mf_width _ _ _, _, rfl, by omega, by omega, fun D hD => ?_⟩
    rw [show ((wd : Int)).toNat = wd from Int.toNat_natCast wd]
    refine lc_map (walk_range (lo := 0)) (fun j => rows.map fun r => r.getD j 0) (RowL K) mon_rowL (by omega) hD (fun _ _ => trivial) ?_ ?_
    · rintro j x H1 _ hj s1 ⟨acc, hacc⟩ ⟨rfl, rfl⟩ Kk kk
      refine ⟨rfl, _, rfl, a, cM K, dx, _, _, rfl, s1 _ _ ha, T.c_Matrix, T.n_Matrix_rows, mf_rows _ _ _, ta, rfl, ⟨_, SqT.of (s1 _ _ hta)⟩, fun D2 hD2 => ?_⟩
      refine lc_map (walk_tup (xs := tvs)) (fun i => (rows.getD i []).getD j 0) (Rs K) mon_rs (by rw [alt.length]; omega) hD2 (fun H s => SqT.of (s _ _ (s1 _ _ hta))) ?_ ?_
      · rintro i y H2 _ hi s2 ⟨acc2, hacc2⟩ ⟨rfl, hy⟩ Kk2 kk2
        obtain ⟨row, hrow, ra, rvs, rfl, hra, alr⟩ := alt.get' hy
        have hrl2 : row.length = wd := hw row (List.mem_of_getElem? hrow)
        have hjr : row[j]? = some (row.getD j 0) := by rw [List.getD_eq_getElem?_getD, List.getElem?_eq_getElem (by omega)]; rfl
        obtain ⟨v, hv, hvR⟩ := alr.get hjr
        have hra2 := s2 _ _ (s1 _ _ hra)
        refine ⟨rfl, _, rfl, _, rfl, ra, rvs, _, v, rfl, rfl, SqT.of hra2, at_of (by omega) hv, kk2 v _ (Same.refl _) ?_⟩
        rw [List.getD_eq_getElem?_getD (l := rows), hrow]
        exact imm_rs _ _ _ _ _ hacc2 trivial (mon_rs _ _ _ _ (s1.trans s2) hvR)
      · intro H2 us2 s2 hD2' al2
        rw [alt.length, range_map_get' rows [] (fun r => r.getD j 0)] at al2
        have h1D : H2 D = some (.lst acc) := s2 _ _ hacc
        have nDD : D2 ≠ D := fun z => by rw [z, hacc] at hD2; cases hD2
        exact kk _ _ s2 (lst_hide imm_rs h1D trivial ⟨D2, us2, rfl, hD2', al2.mono mon_rs hide_le⟩ fun z => nDD (by injection z))
    · intro H1 us1 s1 hD1 al1
      refine ⟨_, rfl, a, cM K, dx, _, _, rfl, s1 _ _ ha, T.c_Matrix, T.n_Matrix_ground, mf_ground _ _ _, _, rfl, _, rfl, a, cM K, dx, _, _, rfl, s1 _ _ ha, T.c_Matrix, T.n_Matrix_rows, mf_rows _ _ _, ta, tvs, rfl, .inr (SqT.of (s1 _ _ hta)), ?_⟩
      intro x dx' nx nd' _
      rw [alt.length]
      refine mk_mt (mon_gr _ _ _ s1 hg) (inRows_ll ⟨D, us1, rfl, hD1, al1.mono mon_rowL hide_le⟩) (by simp; exact hwd) (by omega) (transp_row (w := wd)) nx nd' fun H' s' hm => ⟨rfl, q _ _ (s1.trans s') hm⟩
end
end K47

/-! text W7 -/
/-! Matrix.__add__; plants -/
namespace K47
open PySem PySem.Spec PyProof.Rows L2
section
variable {P : Program} {w : World} {K : PySem.W.Frag} {mg : Str → Option Value} {base : Heap}
theorem addRows_get {F : Type} [Fld F] [DecidableEq F] {A B : List (Row F)} {i : Nat} {a b : Row F} (ha : A[i]? = some a) (hb : B[i]? = some b) : (addRows A B)[i]? = some (List.zipWith (fun x y => x + y) a b) := by
  unfold addRows
  rw [List.getElem?_zipWith, ha, hb]
theorem addRows_len {F : Type} [Fld F] [DecidableEq F] {A B : List (Row F)} (h : A.length = B.length) : (addRows A B).length = A.length := by
  unfold addRows
  rw [List.length_zipWith, h, Nat.min_self]
theorem addRows_row {F : Type} [Fld F] [DecidableEq F] {A B : List (Row F)} {wd : Nat} (hA : ∀ x ∈ A, x.length = wd) (hB : ∀ x ∈ B, x.length = wd) : ∀ x ∈ addRows A B, x.length = wd := fun x hx => by
  obtain ⟨i, hi, e⟩ := List.getElem_of_mem hx
  unfold addRows at hi e
  rw [List.getElem_zipWith] at e
  rw [List.length_zipWith] at hi
  rw [← e, List.length_zipWith, hA _ (List.getElem_mem _), hB _ (List.getElem_mem _), Nat.min_self]
/-! ### Matrix.__add__ -/
def spMtAdd (K : PySem.W.Frag) : Sp := fun vs H Q _ => ∃ (p : Nat) (hp : P23 p) (m m' : V) (A B : List (List (Zp p))) (wd : Nat), vs = [m, m'] ∧ Mt K A wd m H ∧ Mt K B wd m' H ∧ A.length = B.length ∧ A.length ≤ 8 ∧ wd ≤ 64 ∧ (∀ x ∈ A, x.length = wd) ∧ (∀ x ∈ B, x.length = wd) ∧
  ∀ z H', Same H H' → Mt K (addRows A B) wd z H' → Q z H'
theorem sc_mt_add : FnScope ["self", "other", "rows", "one", "two", "x", "y"] ["self", "other"] (defScope s_Matrix_add) := ⟨rfl, rfl, rfl, by decide +kernel, rfl, by decide +kernel, by decide +kernel⟩
theorem ok_mt_add (T : Tx K mg) : C8.Met P w K mg base 12 (cM K) "__add__" (spMtAdd K) [] := by
  refine met_mk T.c_Matrix T.m_Matrix_add T.d_Matrix_add sc_mt_add (fun _ _ _ _ _ _ us hl => match us, hl with | [_, _], _ => rfl) (fun vs H Q E h => ?_) (fun cdv A outer s H vs Q E hr h => ?_)
  · obtain ⟨p, hp, m, m', A, B, wd, rfl, _⟩ := h; rfl
  · obtain ⟨p, hp, m, m', MA, MB, wd, rfl, hm, hm', hl, h8, h64, hA, hB, q⟩ := h
    have nd := sc_mt_add.nd
    obtain ⟨a, dx, g, t, rfl, ha, hg, ta, tvs, rfl, hta, alt⟩ := id hm
    obtain ⟨b, dy, g', t', rfl, hb, hg', tb, tws, rfl, htb, blt⟩ := id hm'
    refine ⟨_, pss_cons (ps_expr (C8.pe_c (ok_check_alike T) hr (by decide) (by rfl) (pa_cons (pv 0) (pa_cons (pv 1) pa_nil))))
      (pss_cons (ps_set (i := 2) nd rfl (Or.inl rfl) (pe_lst pa_nil))
      (pss_cons (ps_for PassesOwn.never rfl (RZ.pi_zipA (by rfl) T.b_zip (pa_cons (pe_fld (pv 0) rfl) (pa_cons (pe_fld (pv 1) rfl) pa_nil))) (pg_tup rfl (pgs_cons (pg_name (i := 3) nd rfl (Or.inl rfl)) (pgs_cons (pg_name (i := 4) nd rfl (Or.inl rfl)) pgs_nil)))
        (pss_one (ps_expr (pe_bm PySem.F.plainAttrs_list PySem.F.slot_list_append PySem.F.type_list_append mt_append (pv 2) (pa_cons
          (pe_lc (own := [("x", 5), ("y", 6)]) (g := gTup K 2 (gCons (gName 5) (gCons (gName 6) gNil))) (tt := tYes) rfl nd (RZ.pi_zipA (by rfl) T.b_zip (pa_cons (pv 3) (pa_cons (pv 4) pa_nil))) (blkOk_by (N := ["self", "other", "rows", "one", "two", "x", "y"]) (sc := defScope s_Matrix_add) (by decide +kernel))
            (fun _ _ _ _ _ => pg_tup rfl (pgs_cons (pg_name (i := 5) nd rfl (Or.inl rfl)) (pgs_cons (pg_name (i := 6) nd rfl (Or.inl rfl)) pgs_nil))) (fun _ _ _ _ _ => pts_nil)
            (fun _ _ _ _ _ => pe_op (op_met (ok_rs_add T) dn_add hr (by decide) T.ex.sR) (pv 5) (pv 6))) pa_nil)))))
      (pss_one (ps_ret (C8.pe_mk (ok_mt_init T) hr (by decide) (by rfl) (pa_cons (pe_fld (pv 0) rfl) (pa_cons (pv 2) (pa_cons (pe_fld (pv 0) rfl) pa_nil)))))))), ?_⟩
    refine ⟨_, rfl, _, rfl, p, _, _, MA, MB, wd, rfl, hm, hm', hl, fun H1 s1 => ⟨Nat.zero_le _, fun l hl1 => ?_⟩⟩
    have h0l : H l = none := s1.free hl1
    have s2 := same_upd' (o := .lst []) s1 h0l
    refine ⟨_, rfl, a, cM K, dx, _, _, rfl, s2 _ _ ha, T.c_Matrix, T.n_Matrix_rows, mf_rows _ _ _, _, rfl, b, cM K, dy, _, _, rfl, s2 _ _ hb, T.c_Matrix, T.n_Matrix_rows, mf_rows _ _ _, ta, tb, tvs, tws, rfl, .inr ⟨SqT.of (s2 _ _ hta), SqT.of (s2 _ _ htb), ?_⟩⟩
    have lvs : tvs.length = tws.length := by rw [alt.length, blt.length, hl]
    refine for_it (walk_zipT lvs) (fun i σ H' => ∃ us v3 v4, σ = [some (.ref a), some (.ref b), some (.ref l), v3, v4, none, none] ∧ Same H H' ∧ H' l = some (.lst us) ∧ Al (RowL K) (hide l H') ((addRows MA MB).take i) us)
      ⟨[], none, none, rfl, s2, upd_same, .nil⟩ (fun i σ H' _ ⟨_, _, _, _, s, _⟩ => ⟨SqT.of (s _ _ hta), SqT.of (s _ _ htb)⟩) ?_ ?_
    · rintro i x σ H' H'' hi ⟨us, v3, v4, rfl, s, hul, al⟩ ⟨T2, u, v, rfl, hT2, rfl, hu, hv⟩
      obtain ⟨ra, hra, xa, xvs, rfl, hxa, alx⟩ := alt.get' hu
      obtain ⟨rb, hrb, ya, yvs, rfl, hya, aly⟩ := blt.get' hv
      have lra := hA _ (List.mem_of_getElem? hra)
      have lrb := hB _ (List.mem_of_getElem? hrb)
      have s3 : Same H' (upd H' T2 (.tup [.ref xa, .ref ya])) := same_upd hT2
      have hus := al.length
      refine g_pair upd_same ?_
      refine ⟨_, rfl, .inl ⟨rfl, _, SqL.of (s3 _ _ hul)⟩, _, rfl, _, rfl, xa, ya, xvs, yvs, rfl, .inr ⟨SqT.of (s3 _ _ (s _ _ hxa)), SqT.of (s3 _ _ (s _ _ hya)), fun D hD => ?_⟩⟩
      have lxy : xvs.length = yvs.length := by rw [alx.length, aly.length, lra, lrb]
      refine lc_map (walk_zipT lxy) (fun j => (ra.getD j 0) + (rb.getD j 0)) (Rs K) mon_rs (by rw [alx.length, lra]; omega) hD (fun H s4 => ⟨SqT.of (s4 _ _ (s3 _ _ (s _ _ hxa))), SqT.of (s4 _ _ (s3 _ _ (s _ _ hya)))⟩) ?_ ?_
      · rintro j y H4 _ hj s4 ⟨acc, hacc⟩ ⟨T3, a1, a2, rfl, hT3, rfl, h1, h2⟩ Kk kk
        have s5 : Same H4 (upd H4 T3 (.tup [a1, a2])) := same_upd hT3
        obtain ⟨x1, hx1, r1⟩ := alx.get' h1
        obtain ⟨x2, hx2, r2⟩ := aly.get' h2
        refine g_pair upd_same ⟨rfl, _, rfl, _, rfl, ?_⟩
        have ss := ((s.trans s3).trans s4).trans s5
        refine bin_rs (mon_rs _ _ _ _ ss r1) (mon_rs _ _ _ _ ss r2) fun z1 H5 s6 hz1 => kk z1 H5 (s5.trans s6) ?_
        rw [List.getD_eq_getElem?_getD, List.getD_eq_getElem?_getD, hx1, hx2]
        exact imm_rs _ _ _ _ _ ((s5.trans s6) _ _ hacc) trivial hz1
      · intro H4 us4 s4 hD4 al4
        rw [alx.length, zip_range (G := fun x y => x + y) (by rw [lra, lrb])] at al4
        have hl4 : H4 l = some (.lst us) := s4 _ _ (s3 _ _ hul)
        have hle : us.length < sizeLine := small1000 (by rw [hus, List.length_take, addRows_len hl]; omega)
        have nDl : D ≠ l := fun z => by rw [z, s3 _ _ hul] at hD; cases hD
        refine ⟨l, us, _, rfl, rfl, hl4, hle, us ++ [.ref D], _, _, rfl, same_upd' ((s.trans s3).trans s4) h0l, upd_same, ?_⟩
        rw [hide_upd, take_snoc (addRows_get hra hrb)]
        refine (al.mono mon_rowL (hide_mono (s3.trans s4))).snoc (lst_hide imm_rs hl4 trivial ⟨D, us4, rfl, hD4, al4.mono mon_rs hide_le⟩ fun z => nDl (by injection z))
    · rintro σ H' ⟨us, v3, v4, rfl, s, hul, al⟩
      refine ⟨_, rfl, a, cM K, dx, _, _, rfl, s _ _ ha, T.c_Matrix, T.n_Matrix_ground, mf_ground _ _ _, _, rfl, _, rfl, a, cM K, dx, _, _, rfl, s _ _ ha, T.c_Matrix, T.n_Matrix_width, mf_width _ _ _, ?_⟩
      have e : (addRows MA MB).take tvs.length = addRows MA MB := List.take_of_length_le (by rw [alt.length, addRows_len hl]; exact Nat.le_refl _)
      rw [e] at al
      intro x dx' nx nd' _
      exact mk_mt (mon_gr _ _ _ s hg) (inRows_ll ⟨l, us, rfl, hul, al.mono mon_rowL hide_le⟩) (by rw [addRows_len hl]; exact h8) h64 (addRows_row hA hB) nx nd' fun H' s' hm => ⟨rfl, q _ _ (s.trans s') hm⟩
/-! ### taken_row -/
def spTakenRow (K : PySem.W.Frag) : Sp := fun vs H Q _ => ∃ (p : Nat) (hp : P23 p) (g r : V) (row : List (Zp p)), vs = [g, r, .int (row.length : Int)] ∧ Gr K p g H ∧ SeqOf (Itm K) row r H ∧ row.length ≤ 1000 ∧
  ∀ z H', Same H H' → RowT K row z H' → Q z H'
theorem sc_taken_row : FnScope ["ground", "items", "size", "item"] ["ground", "items", "size"] (defScope s_taken_row) := ⟨rfl, rfl, rfl, by decide +kernel, rfl, by decide +kernel, by decide +kernel⟩
theorem ok_taken_row (T : Tx K mg) : C8.Cal P w K mg base 9 "taken_row" (spTakenRow K) [] := by
  refine cal_mk T.g_taken_row T.d_taken_row sc_taken_row (fun _ _ _ _ _ _ us hl => match us, hl with | [_, _, _], _ => rfl) (fun vs H Q E h => ?_) (fun cdv A outer s H vs Q E hr h => ?_)
  · obtain ⟨p, hp, g, r, row, rfl, _⟩ := h; rfl
  · obtain ⟨p, hp, g, r, row, rfl, hg, hseq, hlen, q⟩ := h
    have nd := sc_taken_row.nd
    refine ⟨_, pss_cons (ps_if (PW.pt (pw_or (pt_not (pt_val (pe_isSeq (i := 1) T))) (pw_or1 (pt_cmp (pc_neI (pe_callB call_len_seq (by rfl) T.b_len PySem.boot_len (pa_cons (pv 1) pa_nil)) (pv 2)))))) (pss_one ps_never) pss_nil)
      (pss_one (ps_ret (pe_callTy call_tuple_of (by rfl) T.b_tuple boot_tuple (pa_cons
          (pe_lc (own := [("item", 3)]) (g := gName 3) (tt := tYes) rfl nd (pi_seq (pv 1)) (blkOk_by (N := ["ground", "items", "size", "item"]) (sc := defScope s_taken_row) (by decide +kernel)) (fun _ _ _ _ _ => pg_name (i := 3) nd rfl (Or.inl rfl)) (fun _ _ _ _ _ => pts_nil)
            (fun _ _ _ _ _ => C8.pe_c (ok_taken T) hr (by decide) (by rfl) (pa_cons (pv 0) (pa_cons (pv 3) pa_nil)))) pa_nil)))), ?_⟩
    refine ⟨_, rfl, hseq.sq, fun H1 s1 => ⟨true, rfl, iteF ?_⟩⟩
    rcases mon_seq mon_it row _ _ _ s1 hseq with ⟨b, ws, rfl, hb, alr⟩ | ⟨b, ws, rfl, hb, alr⟩
    · have e : (ws.length : Int) = (row.length : Int) := by rw [alr.length]
      refine ⟨_, rfl, b, ws, rfl, .inl (SqL.of hb), _, rfl, _, _, rfl, rfl, _, rfl, ifNF e ?_⟩
      refine ⟨_, rfl, b, rfl, .inl ⟨ws, SqL.of hb, fun D hD => ?_⟩⟩
      refine lc_map (walk_list (xs := ws)) (fun j => row.getD j 0) (Rs K) mon_rs (by rw [alr.length]; exact hlen) hD (fun H s => SqL.of (s _ _ hb)) ?_ ?_
      · rintro j y H4 _ hj s4 ⟨acc, ha⟩ ⟨rfl, hy⟩ Kk kk
        obtain ⟨it, hit, hitm⟩ := alr.get' hy
        refine ⟨rfl, _, rfl, _, rfl, p, hp, g, y, it, rfl, mon_gr _ _ _ (s1.trans s4) hg, mon_it _ _ _ _ s4 hitm, fun z H5 s5 hz => kk z H5 s5 ?_⟩
        rw [List.getD_eq_getElem?_getD, hit]
        exact imm_rs _ _ _ _ _ (s5 _ _ ha) trivial hz
      · intro H4 us4 s4 hD4 al4
        rw [alr.length, range_map_get] at al4
        exact ⟨D, us4, rfl, .inl ⟨SqL.of hD4, fun t ht => q _ _ ((s1.trans s4).trans (same_upd ht)) ⟨t, us4, rfl, upd_same, al4.mono mon_rs (hide_le.trans (same_upd ht))⟩⟩⟩
    · have e : (ws.length : Int) = (row.length : Int) := by rw [alr.length]
      refine ⟨_, rfl, b, ws, rfl, .inr (SqT.of hb), _, rfl, _, _, rfl, rfl, _, rfl, ifNF e ?_⟩
      refine ⟨_, rfl, b, rfl, .inr ⟨ws, SqT.of hb, fun D hD => ?_⟩⟩
      refine lc_map (walk_tup (xs := ws)) (fun j => row.getD j 0) (Rs K) mon_rs (by rw [alr.length]; exact hlen) hD (fun H s => SqT.of (s _ _ hb)) ?_ ?_
      · rintro j y H4 _ hj s4 ⟨acc, ha⟩ ⟨rfl, hy⟩ Kk kk
        obtain ⟨it, hit, hitm⟩ := alr.get' hy
        refine ⟨rfl, _, rfl, _, rfl, p, hp, g, y, it, rfl, mon_gr _ _ _ (s1.trans s4) hg, mon_it _ _ _ _ s4 hitm, fun z H5 s5 hz => kk z H5 s5 ?_⟩
        rw [List.getD_eq_getElem?_getD, hit]
        exact imm_rs _ _ _ _ _ (s5 _ _ ha) trivial hz
      · intro H4 us4 s4 hD4 al4
        rw [alr.length, range_map_get] at al4
        exact ⟨D, us4, rfl, .inl ⟨SqL.of hD4, fun t ht => q _ _ ((s1.trans s4).trans (same_upd ht)) ⟨t, us4, rfl, upd_same, al4.mono mon_rs (hide_le.trans (same_upd ht))⟩⟩⟩
/-! ### Plant.__init__ -/
theorem row_hide_ins {p : Nat} {row : List (Zp p)} {v : V} {H : Hp} {x C dx : Addr} {fs : List (Str × V)} (hx : H x = some (.ins C dx fs)) (hf : ∀ n q, fs ≠ rf n q) (h : RowT K row v H) : RowT K row v (hide x H) := by
  obtain ⟨a, vs, rfl, ha, al⟩ := h
  refine ⟨a, vs, rfl, ?_, al.imp fun y u ⟨b, dy, e, hb⟩ => ⟨b, dy, e, ?_⟩⟩
  · rw [hide_ne (fun z => by rw [z, hx] at ha; cases ha)]; exact ha
  · rw [hide_ne (fun z => by rw [z, hx] at hb; injection hb with hb; injection hb with _ _ hb; exact hf _ _ hb)]; exact hb
def spPlInit (K : PySem.W.Frag) : Sp := fun vs H Q _ => ∃ (x dx : Addr) (p : Nat) (hp : P23 p) (m b c : V) (A : List (List (Zp p))) (rb rc : List (Zp p)), vs = [.ref x, m, b, c] ∧ H x = some (.ins (cP K) dx []) ∧ Mt K A A.length m (hide x H) ∧
  SeqOf (Itm K) rb b (hide x H) ∧ SeqOf (Itm K) rc c (hide x H) ∧ rb.length = A.length ∧ rc.length = A.length ∧ A.length ≤ 1000 ∧ ∀ H' : Hp, Pl K A.length A rb rc (.ref x) H' → (∀ b o, H b = some o → b ≠ x → H' b = some o) → Q .non H'
theorem sc_pl_init : FnScope ["self", "a", "b", "c"] ["self", "a", "b", "c"] (defScope s_Plant_init) := ⟨rfl, rfl, rfl, by decide +kernel, rfl, by decide +kernel, by decide +kernel⟩
theorem ne_rf1 {m : V} : ∀ n q, ([("a", m)] : List (Str × V)) ≠ rf n q := fun n q h => by
  have := congrArg (fun l : List (Str × V) => l.map (·.1)) h
  exact absurd this (by show ¬ (([("a" : Str)] : List Str) = [("p" : Str), ("n" : Str)]); decide)
theorem ne_rf2 {m b : V} : ∀ n q, ([("a", m), ("b", b)] : List (Str × V)) ≠ rf n q := fun n q h => by
  have := congrArg (fun l : List (Str × V) => l.map (·.1)) h
  exact absurd this (by show ¬ (([("a" : Str), ("b" : Str)] : List Str) = [("p" : Str), ("n" : Str)]); decide)
theorem put_a {m : V} : putF "a" m [] = ([("a", m)] : List (Str × V)) := by kernel_rfl
theorem put_b {m b : V} : putF "b" b ([("a", m)] : List (Str × V)) = ([("a", m), ("b", b)] : List (Str × V)) := by kernel_rfl
theorem put_c {m b c : V} : putF "c" c ([("a", m), ("b", b)] : List (Str × V)) = pf m b c := by kernel_rfl
theorem ok_pl_init (T : Tx K mg) : C8.Mak P w K mg base 10 "Plant" (cP K) (spPlInit K) [] := by
  refine mak_mk T.mk_Plant T.g_Plant T.d_Plant_init sc_pl_init (fun _ _ _ _ _ _ us hl => match us, hl with | [_, _, _, _], _ => rfl) (fun vs H Q E h => ?_) (fun cdv A outer s H vs Q E hr h => ?_)
  · obtain ⟨x, dx, p, hp, m, b, c, MA, rb, rc, rfl, _⟩ := h; rfl
  · obtain ⟨x, dx, p, hp, m, b, c, MA, rb, rc, rfl, hx, hm, hb, hc, lb, lc, hl, q⟩ := h
    refine ⟨_, pss_cons (ps_expr (C8.pe_c (ok_check_square T) hr (by decide) (by rfl) (pa_cons (pv 1) pa_nil)))
      (pss_cons (ps_fld (pv 0) (pv 1) rfl)
      (pss_cons (ps_fld (pv 0) (C8.pe_c (ok_taken_row T) hr (by decide) (by rfl) (pa_cons (pe_fld (pv 1) rfl) (pa_cons (pv 2) (pa_cons (pe_fld (pv 1) rfl) pa_nil)))) rfl)
      (pss_one (ps_fld (pv 0) (C8.pe_c (ok_taken_row T) hr (by decide) (by rfl) (pa_cons (pe_fld (pv 1) rfl) (pa_cons (pv 3) (pa_cons (pe_fld (pv 1) rfl) pa_nil)))) rfl)))), ?_⟩
    refine ⟨_, rfl, p, _, MA, rfl, mon_mt _ _ _ _ _ hide_le hm, ?_⟩
    refine ⟨_, rfl, _, rfl, x, cP K, dx, [], rfl, hx, T.c_Plant, T.n_Plant_a, (by show 0 < 1000; decide), ?_⟩
    rw [put_a]
    generalize e1 : upd H x (.ins (cP K) dx [("a", m)]) = H1
    have hh1 : hide x H1 = hide x H := by rw [← e1, hide_upd]
    have hx1 : H1 x = some (.ins (cP K) dx [("a", m)]) := by rw [← e1]; exact upd_same
    have hm1 : Mt K MA MA.length m H1 := mon_mt _ _ _ _ _ hide_le (hh1 ▸ hm)
    have hb1 := mon_seq mon_it rb _ _ _ hide_le (hh1 ▸ hb)
    obtain ⟨a, dm, g, t, rfl, ha, hg, _⟩ := id hm1
    refine ⟨_, rfl, a, cM K, dm, _, _, rfl, ha, T.c_Matrix, T.n_Matrix_ground, mf_ground _ _ _, _, rfl, _, rfl, a, cM K, dm, _, _, rfl, ha, T.c_Matrix, T.n_Matrix_width, mf_width _ _ _, ?_⟩
    refine ⟨p, hp, g, b, rb, by rw [lb]; rfl, hg, hb1, by omega, fun vb H2 s2 hvb => ?_⟩
    have hvb' := row_hide_ins (s2 _ _ hx1) ne_rf1 hvb
    refine ⟨_, rfl, x, cP K, dx, _, rfl, s2 _ _ hx1, T.c_Plant, T.n_Plant_b, (by show 1 < 1000; decide), ?_⟩
    rw [put_b]
    generalize e3 : upd H2 x (.ins (cP K) dx [("a", V.ref a), ("b", vb)]) = H3
    have hh3 : hide x H3 = hide x H2 := by rw [← e3, hide_upd]
    have hx3 : H3 x = some (.ins (cP K) dx [("a", .ref a), ("b", vb)]) := by rw [← e3]; exact upd_same
    have s23 : Same (hide x H) (hide x H3) := by rw [hh3, ← hh1]; exact hide_mono s2
    have hm3 : Mt K MA MA.length (.ref a) H3 := mon_mt _ _ _ _ _ (s23.trans hide_le) hm
    have hc3 := mon_seq mon_it rc _ _ _ (s23.trans hide_le) hc
    obtain ⟨a', dm', g3, t3, e, ha3, hg3, _⟩ := id hm3
    cases e
    refine ⟨_, rfl, a, cM K, dm', _, _, rfl, ha3, T.c_Matrix, T.n_Matrix_ground, mf_ground _ _ _, _, rfl, _, rfl, a, cM K, dm', _, _, rfl, ha3, T.c_Matrix, T.n_Matrix_width, mf_width _ _ _, ?_⟩
    refine ⟨p, hp, g3, c, rc, by rw [lc]; rfl, hg3, hc3, by omega, fun vc H4 s4 hvc => ?_⟩
    have hvc' := row_hide_ins (s4 _ _ hx3) ne_rf2 hvc
    refine ⟨_, rfl, x, cP K, dx, _, rfl, s4 _ _ hx3, T.c_Plant, T.n_Plant_c, (by show 2 < 1000; decide), ?_⟩
    rw [put_c]
    generalize e5 : upd H4 x (.ins (cP K) dx (pf (V.ref a) vb vc)) = H5
    have hh5 : hide x H5 = hide x H4 := by rw [← e5, hide_upd]
    have hx5 : H5 x = some (.ins (cP K) dx (pf (.ref a) vb vc)) := by rw [← e5]; exact upd_same
    have s45 : Same (hide x H3) (hide x H5) := by rw [hh5]; exact hide_mono s4
    refine q H5 ⟨x, dx, .ref a, vb, vc, rfl, hx5, mon_mt _ _ _ _ _ ((s23.trans s45).trans hide_le) hm, mon_rowT _ _ _ _ ((hh3.symm ▸ s45 : Same (hide x H2) (hide x H5)).trans hide_le) hvb', mon_rowT _ _ _ _ ((hh5 ▸ Same.refl _ : Same (hide x H4) (hide x H5)).trans hide_le) hvc'⟩ fun b o e ne => ?_
    have := (s23.trans s45) b o (by rw [hide_ne ne]; exact e)
    rw [hide_ne ne] at this
    exact this
theorem mk_pl {p : Nat} [hp : P23 p] {m b c : V} {MA : List (List (Zp p))} {rb rc : List (Zp p)} {H : Hp} (hm : Mt K MA MA.length m H) (hb : SeqOf (Itm K) rb b H) (hc : SeqOf (Itm K) rc c H) (lb : rb.length = MA.length) (lc : rc.length = MA.length) (hl : MA.length ≤ 1000)
    {Q : VK} {E : XK} {x dx : Addr} (nx : H x = none) (nd : H dx = none) (q : ∀ H' : Hp, Same H H' → Pl K MA.length MA rb rc (.ref x) H' → Q .non H') :
    spPlInit K [.ref x, m, b, c] (upd (upd H dx (.own x)) x (.ins (cP K) dx [])) Q E := by
  have s : Same H (hide x (upd (upd H dx (.own x)) x (.ins (cP K) dx []))) := same_hide (same_made nx nd) nx
  exact ⟨x, dx, p, hp, m, b, c, MA, rb, rc, rfl, upd_same, mon_mt _ _ _ _ _ s hm, mon_seq mon_it _ _ _ _ s hb, mon_seq mon_it _ _ _ _ s hc, lb, lc, hl, fun H' h k => q H' (Same.made nx nd k) h⟩
/-! ### Plant.size, Plant.fed -/
def spSize (K : PySem.W.Frag) : Sp := fun vs H Q _ => ∃ (p : Nat) (m : V) (n : Nat) (A : List (List (Zp p))) (b c : List (Zp p)), vs = [m] ∧ Pl K n A b c m H ∧ Q (.int (n : Int)) H
theorem sc_pl_size : FnScope ["self"] ["self"] (defScope s_Plant_size) := ⟨rfl, rfl, rfl, by decide +kernel, rfl, by decide +kernel, by decide +kernel⟩
theorem ok_pl_size (T : Tx K mg) : C8.Met P w K mg base 1 (cP K) "size" (spSize K) [] := by
  refine met_mk T.c_Plant T.m_Plant_size T.d_Plant_size sc_pl_size (fun _ _ _ _ _ _ us hl => match us, hl with | [_], _ => rfl) (fun vs H Q E h => ?_) (fun cdv A outer s H vs Q E hr h => ?_)
  · obtain ⟨p, m, n, A, b, c, rfl, _⟩ := h; rfl
  · obtain ⟨p, m, n, MA, b, c, rfl, ⟨x, dx, v, _, _, rfl, hx, ⟨a, dm, g, t, rfl, ha, _, _⟩, _, _⟩, q⟩ := h
    refine ⟨_, pss_one (ps_ret (pe_fld (pe_fld (pv 0) rfl) rfl)), ?_⟩
    exact ⟨_, rfl, x, cP K, dx, _, _, rfl, hx, T.c_Plant, T.n_Plant_a, pf_a _ _ _, a, cM K, dm, _, _, rfl, ha, T.c_Matrix, T.n_Matrix_width, mf_width _ _ _, q⟩
def outerRows {F : Type} [Fld F] (k b : Row F) : List (Row F) := k.map fun x => b.map fun y => x * y
def spFed (K : PySem.W.Frag) : Sp := fun vs H Q _ => ∃ (p : Nat) (hp : P23 p) (m r : V) (A : List (List (Zp p))) (b c k : List (Zp p)), vs = [m, r] ∧ Pl K A.length A b c m H ∧ SeqOf (Itm K) k r H ∧ k.length = A.length ∧ b.length = A.length ∧ c.length = A.length ∧ (∀ x ∈ A, x.length = A.length) ∧ A.length ≤ 8 ∧
  ∀ z H', Same H H' → Pl K A.length (addRows A (outerRows k b)) b c z H' → Q z H'
theorem sc_pl_fed : FnScope ["self", "k", "column", "more", "x", "y"] ["self", "k"] (defScope s_Plant_fed) := ⟨rfl, rfl, rfl, by decide +kernel, rfl, by decide +kernel, by decide +kernel⟩
theorem outer_row {F : Type} [Fld F] {k b : Row F} : ∀ x ∈ outerRows k b, x.length = b.length := fun x hx => by
  obtain ⟨y, _, e⟩ := List.mem_map.mp hx
  rw [← e, List.length_map]
theorem ok_pl_fed (T : Tx K mg) : C8.Met P w K mg base 13 (cP K) "fed" (spFed K) [] := by
  refine met_mk T.c_Plant T.m_Plant_fed T.d_Plant_fed sc_pl_fed (fun _ _ _ _ _ _ us hl => match us, hl with | [_, _], _ => rfl) (fun vs H Q E h => ?_) (fun cdv A outer s H vs Q E hr h => ?_)
  · obtain ⟨p, hp, m, r, MA, b, c, k, rfl, _⟩ := h; rfl
  · obtain ⟨p, hp, m, r, MA, b, c, k, rfl, ⟨x, dx, ma, vb, vc, rfl, hx, hm, hb, hc⟩, hk, lk, lb, lc, hA, h8, q⟩ := h
    have nd := sc_pl_fed.nd
    obtain ⟨a, dm, g, t, rfl, ha, hg, ht⟩ := id hm
    refine ⟨_, pss_cons (ps_set (i := 2) nd rfl (Or.inl rfl) (C8.pe_c (ok_taken_row T) hr (by decide) (by rfl) (pa_cons (pe_fld (pe_fld (pv 0) rfl) rfl) (pa_cons (pv 1) (pa_cons (pe_fld (pe_fld (pv 0) rfl) rfl) pa_nil)))))
      (pss_cons (ps_set (i := 3) nd rfl (Or.inl rfl) (C8.pe_mk (ok_mt_init T) hr (by decide) (by rfl) (pa_cons (pe_fld (pe_fld (pv 0) rfl) rfl) (pa_cons
          (pe_lc (own := [("x", 4)]) (g := gName 4) (tt := tYes) (te := tLc (iTup K (tFld K (tVar 0) "b")) (gName 5) tYes (tOp (rOwn (cR K) (spRsBin K gMul) C8.E0) (tVar 4) (tVar 5)) [5]) rfl nd (pi_tup (pv 2)) (blkOk_by (N := ["self", "k", "column", "more", "x", "y"]) (sc := defScope s_Plant_fed) (by decide +kernel)) (fun _ _ _ _ _ => pg_name (i := 4) nd rfl (Or.inr rfl)) (fun _ _ _ _ _ => pts_nil)
            (fun _ _ _ _ _ => pe_lc (own := [("y", 5)]) (g := gName 5) (tt := tYes) rfl nd (pi_tup (pe_fld (pv 0) rfl)) (blkOk_by (by kernel_rfl)) (fun _ _ _ _ _ => pg_name (i := 5) nd rfl (Or.inl rfl)) (fun _ _ _ _ _ => pts_nil)
              (fun _ _ _ _ _ => pe_op (op_met (ok_rs_mul T) dn_mul hr (by decide) T.ex.sR) (pv 4) (pv 5))))
          (pa_cons (pe_fld (pe_fld (pv 0) rfl) rfl) pa_nil)))))
      (pss_one (ps_ret (C8.pe_mk (ok_pl_init T) hr (by decide) (by rfl) (pa_cons (pe_op (op_met (ok_mt_add T) dn_add hr (by decide) T.ex.sM) (pe_fld (pv 0) rfl) (pv 3)) (pa_cons (pe_fld (pv 0) rfl) (pa_cons (pe_fld (pv 0) rfl) pa_nil))))))), ?_⟩
    refine ⟨_, rfl, x, cP K, dx, _, _, rfl, hx, T.c_Plant, T.n_Plant_a, pf_a _ _ _, a, cM K, dm, _, _, rfl, ha, T.c_Matrix, T.n_Matrix_ground, mf_ground _ _ _, _, rfl, _, rfl, x, cP K, dx, _, _, rfl, hx, T.c_Plant, T.n_Plant_a, pf_a _ _ _, a, cM K, dm, _, _, rfl, ha, T.c_Matrix, T.n_Matrix_width, mf_width _ _ _, ?_⟩
    refine ⟨p, hp, g, r, k, by rw [lk]; rfl, hg, hk, by omega, fun vk H1 s1 hvk => ?_⟩
    refine ⟨_, rfl, x, cP K, dx, _, _, rfl, s1 _ _ hx, T.c_Plant, T.n_Plant_a, pf_a _ _ _, a, cM K, dm, _, _, rfl, s1 _ _ ha, T.c_Matrix, T.n_Matrix_ground, mf_ground _ _ _, ?_⟩
    obtain ⟨ka, kvs, rfl, hka, alk⟩ := id hvk
    obtain ⟨ba, bvs, rfl, hba, alb⟩ := id hb
    refine ⟨_, rfl, ka, rfl, ⟨_, SqT.of hka⟩, fun D hD => ?_⟩
    refine lc_map (walk_tup (xs := kvs)) (fun i => b.map fun y => k.getD i 0 * y) (RowL K) mon_rowL (by rw [alk.length]; omega) hD (fun H s => SqT.of (s _ _ hka)) ?_ ?_
    · rintro i u H2 _ hi s2 ⟨acc, hacc⟩ ⟨rfl, hu⟩ Kk kk
      obtain ⟨ki, hki, hkR⟩ := alk.get' hu
      refine ⟨rfl, _, rfl, x, cP K, dx, _, _, rfl, s2 _ _ (s1 _ _ hx), T.c_Plant, T.n_Plant_b, pf_b _ _ _, ba, rfl, ⟨_, SqT.of (s2 _ _ (s1 _ _ hba))⟩, fun D2 hD2 => ?_⟩
      refine lc_map (walk_tup (xs := bvs)) (fun j => k.getD i 0 * b.getD j 0) (Rs K) mon_rs (by rw [alb.length]; omega) hD2 (fun H s => SqT.of (s _ _ (s2 _ _ (s1 _ _ hba)))) ?_ ?_
      · rintro j y H3 _ hj s3 ⟨acc2, hacc2⟩ ⟨rfl, hy⟩ Kk2 kk2
        obtain ⟨bj, hbj, hbR⟩ := alb.get' hy
        refine ⟨rfl, _, rfl, _, rfl, ?_⟩
        refine bin_rs (mon_rs _ _ _ _ (s2.trans s3) hkR) (mon_rs _ _ _ _ ((s1.trans s2).trans s3) hbR) fun z H4 s4 hz => kk2 z H4 s4 ?_
        rw [List.getD_eq_getElem?_getD, List.getD_eq_getElem?_getD, hki, hbj]
        exact imm_rs _ _ _ _ _ (s4 _ _ hacc2) trivial hz
      · intro H3 us3 s3 hD3 al3
        rw [alb.length, range_map_get' b 0 (fun y => k.getD i 0 * y)] at al3
        have h3D : H3 D = some (.lst acc) := s3 _ _ hacc
        have nDD : D2 ≠ D := fun z => by rw [z, hacc] at hD2; cases hD2
        exact kk _ _ s3 (lst_hide imm_rs h3D trivial ⟨D2, us3, rfl, hD3, al3.mono mon_rs hide_le⟩ fun z => nDD (by injection z))
    · intro H2 us2 s2 hD2 al2
      rw [alk.length, range_map_get' k 0 (fun x => b.map fun y => x * y)] at al2
      have s12 := s1.trans s2
      refine ⟨_, rfl, x, cP K, dx, _, _, rfl, s12 _ _ hx, T.c_Plant, T.n_Plant_a, pf_a _ _ _, a, cM K, dm, _, _, rfl, s12 _ _ ha, T.c_Matrix, T.n_Matrix_width, mf_width _ _ _, ?_⟩
      intro w1 dw nw ndw _
      have lo : (outerRows k b).length = MA.length := by unfold outerRows; rw [List.length_map, lk]
      have ro : ∀ x ∈ outerRows k b, x.length = MA.length := fun x hx => by rw [outer_row x hx, lb]
      refine mk_mt (mon_gr _ _ _ s12 hg) (inRows_ll (rows := outerRows k b) ⟨D, us2, rfl, hD2, al2.mono mon_rowL hide_le⟩) (by omega) (by omega) ro nw ndw fun H3 s3 hm3 => ⟨rfl, ?_⟩
      have s13 := s12.trans s3
      refine ⟨_, rfl, x, cP K, dx, _, _, rfl, s13 _ _ hx, T.c_Plant, T.n_Plant_a, pf_a _ _ _, _, rfl, ?_⟩
      obtain ⟨a3, dm3, g3, t3, e3, ha3, hg3, ht3⟩ := id hm3
      cases e3
      have hm1 := mon_mt _ _ _ _ _ s13 hm
      refine ⟨a, dm, _, w1, dm3, _, rfl, rfl, s13 _ _ ha, ha3, p, hp, .ref a, .ref w1, MA, outerRows k b, MA.length, rfl, hm1, hm3, lo.symm, h8, by omega, hA, ro, fun z H4 s4 hz => ?_⟩
      have s14 := s13.trans s4
      refine ⟨_, rfl, x, cP K, dx, _, _, rfl, s14 _ _ hx, T.c_Plant, T.n_Plant_b, pf_b _ _ _, _, rfl, x, cP K, dx, _, _, rfl, s14 _ _ hx, T.c_Plant, T.n_Plant_c, pf_c _ _ _, ?_⟩
      intro w2 dw2 nw2 ndw2 _
      have le := addRows_len lo.symm
      have hz' : Mt K (addRows MA (outerRows k b)) (addRows MA (outerRows k b)).length z H4 := by rw [le]; exact hz
      refine mk_pl hz' (.inr ((mon_rowT _ _ _ _ s14 hb).imp fun _ _ y => .inr y)) (.inr ((mon_rowT _ _ _ _ s14 hc).imp fun _ _ y => .inr y)) (by rw [le, lb]) (by rw [le, lc]) (by rw [le]; omega) nw2 ndw2 fun H5 s5 hp5 => ⟨rfl, ?_⟩
      rw [le] at hp5
      exact q _ _ (s14.trans s5) hp5
end
end K47

/-! text W8 -/
/-! less, reduce_rows -/
namespace K47
open PySem PySem.Spec PyProof.Rows L2
section
variable {P : Program} {w : World} {K : PySem.W.Frag} {mg : Str → Option Value} {base : Heap}
theorem cut_take {xs : List V} {i : Nat} (h : i ≤ xs.length) : cutV xs none (some (i : Int)) = xs.take i := by
  unfold cutV
  rw [HT.sIx_none, HT.sIx_nat, Nat.min_eq_left h, List.drop_zero, Nat.sub_zero]
theorem cut_drop {xs : List V} {i : Nat} (h : i ≤ xs.length) : cutV xs (some (i : Int)) none = xs.drop i := by
  unfold cutV
  rw [HT.sIx_none, HT.sIx_nat, Nat.min_eq_left h]
  exact List.take_of_length_le (by rw [List.length_drop]; exact Nat.le_refl _)
/-- x stood, or is new -/
def OldNew (z r : V) (H : Hp) : Prop := z = r ∨ ∀ a, z = .ref a → H a = none
theorem on_ne {z r : V} {H : Hp} {l : Addr} {o : HO} (h : OldNew z r H) (hl : H l = some o) (hr : r ≠ .ref l) : z ≠ .ref l := by
  rcases h with h | h
  · rw [h]; exact hr
  · intro e
    have := h l e
    rw [hl] at this; cases this
theorem rowL_ne {p : Nat} {x : List (Zp p)} {r : V} {H : Hp} {l : Addr} (h : RowL K x r (hide l H)) : r ≠ .ref l := by
  obtain ⟨a, vs, rfl, ha, _⟩ := h
  intro e
  injection e with e
  rw [e, hide_self] at ha; cases ha
theorem rowL_free {p : Nat} {x : List (Zp p)} {r : V} {H : Hp} {l : Addr} (h : RowL K x r H) (n : H l = none) : r ≠ .ref l := by
  obtain ⟨a, vs, rfl, ha, _⟩ := h
  intro e
  injection e with e
  rw [e, n] at ha; cases ha
/-! ### less -/
def spLess (K : PySem.W.Frag) : Sp := fun vs H Q _ => ∃ (p : Nat) (hp : P23 p) (r o : V) (row own : List (Zp p)) (c : Nat), vs = [r, o, .int (c : Int)] ∧ RowL K row r H ∧ RowL K own o H ∧ row.length = own.length ∧ row.length ≤ 1000 ∧ c < row.length ∧
  ∀ z H', Same H H' → RowL K (lessR row own c) z H' → OldNew z r H → Q z H'
theorem sc_less : FnScope ["row", "own", "column", "factor", "x", "y"] ["row", "own", "column"] (defScope s_less) := ⟨rfl, rfl, rfl, by decide +kernel, rfl, by decide +kernel, by decide +kernel⟩
theorem tl_get {F : Type} [Fld F] {l : Row F} {i : Nat} {x : F} (h : l[i]? = some x) : tl l i = x := by
  unfold tl; rw [List.getD_eq_getElem?_getD, h]; rfl
theorem al_at {α : Type} {R : α → Dn} {H : Hp} {xs : List α} {vs : List V} (a : Al R H xs vs) {i : Nat} (h : i < xs.length) (d : α) : ∃ v, vs[i]? = some v ∧ R (xs.getD i d) v H := by
  have e : xs[i]? = some (xs.getD i d) := by rw [List.getD_eq_getElem?_getD, List.getElem?_eq_getElem h]; rfl
  exact a.get e
theorem ok_less (T : Tx K mg) : C8.Cal P w K mg base 6 "less" (spLess K) [] := by
  refine cal_mk T.g_less T.d_less sc_less (fun _ _ _ _ _ _ us hl => match us, hl with | [_, _, _], _ => rfl) (fun vs H Q E h => ?_) (fun cdv A outer s H vs Q E hr h => ?_)
  · obtain ⟨p, hp, r, o, row, own, c, rfl, _⟩ := h; rfl
  · obtain ⟨p, hp, r, o, row, own, c, rfl, hrow, hown, hl, h1k, hc, q⟩ := h
    have nd := sc_less.nd
    obtain ⟨ra, rvs, rfl, hra, alr⟩ := id hrow
    obtain ⟨oa, ovs, rfl, hoa, alo⟩ := id hown
    refine ⟨_, pss_cons (ps_set (i := 3) nd rfl (Or.inr rfl) (pe_ix ix_list (pv 0) (pv 2) (fun _ _ => rfl)))
      (pss_cons (ps_if (pt_val (C8.pe_mt0 (ok_rs_zero T) hr (by decide) (pv 3))) (pss_one (ps_ret (pv 0))) pss_nil)
      (pss_one (ps_ret (pe_lc (own := [("x", 4), ("y", 5)]) (g := gTup K 2 (gCons (gName 4) (gCons (gName 5) gNil))) (tt := tYes) rfl nd (RZ.pi_zipA (by rfl) T.b_zip (pa_cons (pv 0) (pa_cons (pv 1) pa_nil))) (blkOk_by (N := ["row", "own", "column", "factor", "x", "y"]) (sc := defScope s_less) (by decide +kernel))
            (fun _ _ _ _ _ => pg_tup rfl (pgs_cons (pg_name (i := 4) nd rfl (Or.inl rfl)) (pgs_cons (pg_name (i := 5) nd rfl (Or.inl rfl)) pgs_nil))) (fun _ _ _ _ _ => pts_nil)
            (fun _ _ _ _ _ => pe_op (op_met (ok_rs_sub T) dn_sub hr (by decide) T.ex.sR) (pv 4) (pe_op (op_met (ok_rs_mul T) dn_mul hr (by decide) T.ex.sR) (pv 3) (pv 5))))))), ?_⟩
    obtain ⟨fv, hfv, hfR⟩ := al_at alr hc 0
    refine ⟨_, rfl, _, rfl, ra, rvs, _, fv, rfl, rfl, SqL.of hra, at_of rfl hfv, ?_⟩
    refine ⟨_, rfl, m_zero hfR ⟨_, rfl, ifD (fun he => ?_) fun hne => ?_⟩⟩
    · refine ⟨_, rfl, q _ _ (Same.refl _) ?_ (.inl rfl)⟩
      have e : lessR row own c = row := by unfold lessR; exact if_pos he
      rw [e]; exact hrow
    · refine ⟨_, rfl, _, rfl, ra, oa, rvs, ovs, rfl, .inl ⟨SqL.of hra, SqL.of hoa, fun D hD => ?_⟩⟩
      have lv : rvs.length = ovs.length := by rw [alr.length, alo.length, hl]
      refine lc_map (walk_zip (n := rvs.length) (by omega)) (fun j => row.getD j 0 - tl row c * own.getD j 0) (Rs K) mon_rs (by rw [alr.length]; exact h1k) hD (fun H s => ⟨SqL.of (s _ _ hra), SqL.of (s _ _ hoa)⟩) ?_ ?_
      · rintro j y H4 _ hj s4 ⟨acc, ha⟩ ⟨T3, a1, a2, rfl, hT3, rfl, h1, h2⟩ Kk kk
        have s5 : Same H4 (upd H4 T3 (.tup [a1, a2])) := same_upd hT3
        obtain ⟨x1, hx1, r1⟩ := alr.get' h1
        obtain ⟨x2, hx2, r2⟩ := alo.get' h2
        refine g_pair upd_same ⟨rfl, _, rfl, _, rfl, _, rfl, ?_⟩
        have ss := s4.trans s5
        refine bin_rs (mon_rs _ _ _ _ ss hfR) (mon_rs _ _ _ _ ss r2) fun z1 H5 s6 hz1 => ?_
        refine bin_rs (mon_rs _ _ _ _ (ss.trans s6) r1) hz1 fun z2 H6 s7 hz2 => kk z2 H6 ((s5.trans s6).trans s7) ?_
        rw [List.getD_eq_getElem?_getD, List.getD_eq_getElem?_getD, hx1, hx2]
        exact imm_rs _ _ _ _ _ (((s5.trans s6).trans s7) _ _ ha) trivial hz2
      · intro H4 us4 s4 hD4 al4
        rw [alr.length, zip_range (G := fun x y => x - tl row c * y) hl] at al4
        have e : lessR row own c = List.zipWith (fun x y => x - tl row c * y) row own := by unfold lessR; exact if_neg hne
        refine q _ _ s4 ⟨D, us4, rfl, hD4, ?_⟩ (.inr fun a e => by injection e with e; rw [← e]; exact hD)
        rw [e]
        exact al4.mono mon_rs hide_le
/-! comprehensions over lists and tuples of data -/
def LcD (J : It) (g : TG) (tt : TT) (te : TE) (vs : List Nat) (σ : L2.St) (H1 : Hp) (Q : Addr → Hp → Prop) : Prop := ∀ D, H1 D = none → ∃ W : Nat → Nat → Hp → Prop, (∃ m, W 0 m (upd H1 D (.lst []))) ∧ ∀ i m H, W i m H →
  (J.stop i H ∧ Q D H) ∨ (J.go i H ∧ ∃ Nx : Hp → Prop, (∀ H', Nx H' → ∃ m', m' < m ∧ W (i + 1) m' H') ∧ ∀ x H', J.yld i H x H' → g x (wipe σ vs) H' fun σ2 H2 => wipe σ2 vs = wipe σ vs ∧ tt σ2 H2 fun b H3 =>
    if b = true then te σ2 H3 fun y H4 => ∃ acc, H4 D = some (.lst acc) ∧ acc.length < sizeLine ∧ Nx (upd H4 D (.lst (acc ++ [y]))) else Nx H3)
section
variable {α β : Type} {R0 : α → Dn} {xs : List α} {H1 : Hp} {g : TG} {te : TE} {vs : List Nat} {σ : L2.St} {Q : Addr → Hp → Prop}
theorem map_getD (f : α → β) (d : α) : (List.range xs.length).map (fun i => f (xs.getD i d)) = xs.map f := by
  refine List.ext_getElem (by simp) fun i h1 h2 => ?_
  have h3 : i < xs.length := by simpa using h2
  simp [h3]
/-- the turn and the end of a comprehension over data -/
structure LcH (R0 : α → Dn) (xs : List α) (H1 : Hp) (g : TG) (te : TE) (vs : List Nat) (σ : L2.St) (Q : Addr → Hp → Prop) (f : α → β) (R : β → Dn) : Prop where
  m0 : ∀ x, Mon1 (R0 x)
  m1 : ∀ x, Mon1 (R x)
  hn : xs.length ≤ 1000
  hs : ∀ (D : Addr) (i : Nat) (x : α) (z : V) (H : Hp), H1 D = none → xs[i]? = some x → Same H1 H → (∃ acc, H D = some (.lst acc)) → R0 x z H1 → R0 x z H → ∀ Kk : VK, (∀ y H4, Same H H4 → R (f x) y (hide D H4) → Kk y H4) → g z (wipe σ vs) H fun σ2 H2 => wipe σ2 vs = wipe σ vs ∧ te σ2 H2 Kk
  hd : ∀ (D : Addr) (H : Hp) (us : List V), H1 D = none → Same H1 H → H D = some (.lst us) → Al R (hide D H) (xs.map f) us → Q D H
theorem LcH.run {J : It} {G : Hp → Prop} {f : α → β} {R : β → Dn} {zs : List V} (h : LcH R0 xs H1 g te vs σ Q f R) (al : Al R0 H1 xs zs) (w : Walk J zs.length G (YAt zs)) (hG : ∀ H, Same H1 H → G H) : LcD J g tYes te vs σ H1 Q := fun D hD => by
  rcases xs with _ | ⟨d, xt⟩
  · cases al
    refine lc_map w (β := Nat) (fun i => i) (fun _ _ _ => True) (fun _ _ _ _ _ _ => trivial) (by decide) hD hG (fun i x H H' hi => absurd hi (Nat.not_lt_zero _)) fun H us s hd al => ?_
    have e : us = [] := by
      have := al.length
      exact List.length_eq_zero_iff.mp this
    subst e
    exact h.hd D H [] hD s hd .nil
  · refine lc_map w (fun i => f ((d :: xt).getD i d)) R h.m1 (by rw [al.length]; exact h.hn) hD hG ?_ ?_
    · rintro i z H _ hi s ha ⟨rfl, hz⟩ Kk kk
      obtain ⟨x, hx, r⟩ := al.get' hz
      refine h.hs D i x z _ hD hx s ha r (h.m0 x _ _ _ s r) Kk fun y H4 s4 hy => kk y H4 s4 ?_
      rw [List.getD_eq_getElem?_getD, hx]; exact hy
    · intro H us s hd al2
      rw [al.length, map_getD f d] at al2
      exact h.hd D H us hD s hd al2
theorem lc_lst {f : α → β} {R : β → Dn} {v : V} (hv : LstOf R0 xs v H1) (h : LcH R0 xs H1 g te vs σ Q f R) : ∃ a, v = .ref a ∧ (∃ zs, SqL K H1 a zs) ∧ LcD (Itl K a) g tYes te vs σ H1 Q := by
  obtain ⟨a, zs, rfl, ha, al⟩ := hv
  exact ⟨a, rfl, ⟨zs, SqL.of ha⟩, h.run al walk_list fun H s => SqL.of (s _ _ ha)⟩
theorem lc_tup {f : α → β} {R : β → Dn} {v : V} (hv : TupOf R0 xs v H1) (h : LcH R0 xs H1 g te vs σ Q f R) : ∃ a, v = .ref a ∧ (∃ zs, SqT K H1 a zs) ∧ LcD (Itt K a) g tYes te vs σ H1 Q := by
  obtain ⟨a, zs, rfl, ha, al⟩ := hv
  exact ⟨a, rfl, ⟨zs, SqT.of ha⟩, h.run al walk_tup fun H s => SqT.of (s _ _ ha)⟩
theorem lc_seq {f : α → β} {R : β → Dn} {v : V} (hv : SeqOf R0 xs v H1) (h : LcH R0 xs H1 g te vs σ Q f R) : ∃ a, v = .ref a ∧ ((∃ zs, SqL K H1 a zs ∧ LcD (Itl K a) g tYes te vs σ H1 Q) ∨ (∃ zs, SqT K H1 a zs ∧ LcD (Itt K a) g tYes te vs σ H1 Q)) := by
  rcases hv with ⟨a, zs, rfl, ha, al⟩ | ⟨a, zs, rfl, ha, al⟩
  · exact ⟨a, rfl, .inl ⟨zs, SqL.of ha, h.run al walk_list fun H s => SqL.of (s _ _ ha)⟩⟩
  · exact ⟨a, rfl, .inr ⟨zs, SqT.of ha, h.run al walk_tup fun H s => SqT.of (s _ _ ha)⟩⟩
end
/-! ### reduce_rows -/
/-- the pair of reduce_rows -/
def Red (K : PySem.W.Frag) {p : Nat} (ps : List (PRow (Zp p))) : Dn := fun v H => ∃ T f l, v = .ref T ∧ H T = some (.tup [f, l]) ∧ LstOf (RowL K) (ps.map (·.1)) f H ∧ LstOf NatV (ps.map (·.2)) l H
abbrev HR (K : PySem.W.Frag) {p : Nat} (lp : Addr) (x : List (Zp p)) : Dn := fun v H => RowL K x v (hide lp H)
theorem mon_hr {p : Nat} {lp : Addr} (x : List (Zp p)) : Mon1 (HR K lp x) := fun v H H' s h => mon_rowL x _ _ _ (hide_mono s) h
theorem hide_at {l b : Addr} {H : Hp} {o : HO} (h : H b = some o) (ne : b ≠ l) : hide l H b = some o := by rw [hide_ne ne]; exact h
/-- a row that is in neither list -/
theorem rowL_hide2 {p : Nat} {x : List (Zp p)} {z : V} {H : Hp} {l D : Addr} {o o' : HO} (hl : H l = some o) (ml : Mu o) (hD : H D = some o') (mD : Mu o') (h : RowL K x z H) (n1 : z ≠ .ref l) (n2 : z ≠ .ref D) : HR K l x z (hide D H) := by
  by_cases e : l = D
  · have h2 := lst_hide imm_rs hD mD h n2
    have e2 : hide l (hide D H) = hide D H := by
      funext b
      by_cases eb : b = l
      · rw [eb, hide_self, e, hide_self]
      · rw [hide_ne eb]
    show RowL K x z (hide l (hide D H))
    rw [e2]; exact h2
  · have h2 := lst_hide imm_rs hD mD h n2
    exact lst_hide imm_rs (hide_at hl e) ml h2 n1
theorem hide_hide {l : Addr} {H : Hp} : hide l (hide l H) = hide l H := by
  funext b
  by_cases e : b = l
  · rw [e, hide_self, hide_self]
  · rw [hide_ne e]
theorem same_hh {l D : Addr} {H H' : Hp} (s : Same H H') : Same (hide l (hide D H)) (hide l (hide l H')) := by rw [hide_hide]; exact hide_mono (hide_le.trans s)
theorem hide_comm {l D : Addr} {H : Hp} : hide l (hide D H) = hide D (hide l H) := by
  funext b
  by_cases e : b = l
  · by_cases e' : b = D
    · rw [e, hide_self, ← e, e', hide_self]
    · rw [e, hide_self, ← e, hide_ne e', e, hide_self]
  · by_cases e' : b = D
    · rw [hide_ne e, e', hide_self, hide_self]
    · rw [hide_ne e, hide_ne e', hide_ne e', hide_ne e]
theorem redGo_succ {F : Type} [Fld F] [DecidableEq F] (rows : List (Row F)) (c : Nat) : redGo rows (c + 1) = redStep (redGo rows c) c := by
  unfold redGo
  rw [List.range_succ, List.foldl_append]; rfl
def spReduce (K : PySem.W.Frag) : Sp := fun vs H Q _ => ∃ (p : Nat) (hp : P23 p) (r : V) (rows : List (List (Zp p))) (L : Nat), vs = [r, .int (L : Int)] ∧ SeqOf (SeqOf (Rs K)) rows r H ∧ rows.length ≤ 500 ∧ L ≤ 1000 ∧ (∀ x ∈ rows, x.length = L) ∧
  ∀ z H', Same H H' → Red K (redR rows L) z H' → Q z H'
theorem sc_reduce_rows : FnScope ["rows", "width", "rest", "found", "pivots", "column", "places", "own", "head", "left", "row", "i", "x"] ["rows", "width"] (defScope s_reduce_rows) := ⟨rfl, rfl, rfl, by decide +kernel, rfl, by decide +kernel, by decide +kernel⟩
abbrev N_red : List Str := ["rows", "width", "rest", "found", "pivots", "column", "places", "own", "head", "left", "row", "i", "x"]
def rLstOf (K : PySem.W.Frag) : List V → Hp → VK → Prop := fun xs H Q => ∃ p ys, xs = [.ref p] ∧ (SqL K H p ys ∨ SqT K H p ys) ∧ ∀ l, H l = none → Q (.ref l) (upd H l (.lst ys))
theorem call_lstOf {X : Cx} : CallR X (.type "list") (rLstOf X.K) := call_list_of
def placesT (K : PySem.W.Frag) : TT := tNot (tB (tMeth (cR K) "is_zero" (spRsZero K) [] C8.E0 (tOp (rIxL K) (tOp (rIxL K) (tVar 2) (tVar 11)) (tVar 5)) tNil))
def lessE (K : PySem.W.Frag) : TE := tCall (spLess K) [] C8.E0 (tCons (tVar 10) (tCons (tVar 7) (tCons (tVar 5) tNil)))
theorem ok_reduce_rows (T : Tx K mg) : C8.Cal P w K mg base 7 "reduce_rows" (spReduce K) [] := by
  refine cal_mk T.g_reduce_rows T.d_reduce_rows sc_reduce_rows (fun _ _ _ _ _ _ us hl => match us, hl with | [_, _], _ => rfl) (fun vs H Q E h => ?_) (fun cdv A outer s H vs Q E hr h => ?_)
  · obtain ⟨p, hp, r, rows, L, rfl, _⟩ := h; rfl
  · obtain ⟨p, hp, r, rows, L, rfl, hrs, h500, hL, hlen, q⟩ := h
    have nd := sc_reduce_rows.nd
    refine ⟨_, pss_cons (ps_set (i := 2) nd rfl (Or.inr rfl) (pe_lc (own := [("row", 10)]) (g := gName 10) (tt := tYes) (te := tCB (rLstOf K) (tCons (tVar 10) tNil)) rfl nd (pi_seq (pv 0)) (blkOk_by (N := N_red) (sc := defScope s_reduce_rows) (by decide +kernel)) (fun _ _ _ _ _ => pg_name (i := 10) nd rfl (Or.inl rfl)) (fun _ _ _ _ _ => pts_nil)
            (fun _ _ _ _ _ => pe_callTy call_lstOf (by rfl) T.b_list boot_list (pa_cons (pv 10) pa_nil))))
      (pss_cons (ps_set (i := 3) nd rfl (Or.inl rfl) (pe_lst pa_nil))
      (pss_cons (ps_set (i := 4) nd rfl (Or.inl rfl) (pe_lst pa_nil))
      (pss_cons (ps_for PassesOwn.never rfl (pi_range1 (by rfl) T.b_range (pa_cons (pv 1) pa_nil)) (pg_name (i := 5) nd rfl (Or.inr rfl))
        (pss_cons (ps_setLc (i := 6) (own := [("i", 11)]) (g := gName 11) (tt := placesT K) rfl nd rfl rfl (sw_true rfl rfl rfl (by decide +kernel)) (pi_range1 (by rfl) T.b_range (pa_cons (pe_callB call_len_seq (by rfl) T.b_len PySem.boot_len (pa_cons (pv 2) pa_nil)) pa_nil))
            (blkOk_by (N := N_red) (sc := defScope s_reduce_rows) (by decide +kernel)) (fun _ _ _ _ _ => pg_name (i := 11) nd rfl (Or.inl rfl))
            (fun _ _ _ _ _ => pts_one (pt_not (pt_val (C8.pe_mt0 (ok_rs_zero T) hr (by decide) (pe_ix ix_list (pe_ix ix_list (pv 2) (pv 11) (fun _ _ => rfl)) (pv 5) (fun _ _ => rfl))))))
            (fun _ _ _ _ _ => pv 11))
        (pss_one (ps_if (pt_cmp (pc_gt (pe_callB call_len_seq (by rfl) T.b_len PySem.boot_len (pa_cons (pv 6) pa_nil)) pe_int))
          (pss_cons (ps_set (i := 7) nd rfl (Or.inr rfl) (pe_ix ix_list (pv 2) (pe_ix ix_list (pv 6) pe_int (fun _ _ => rfl)) (fun _ _ => rfl)))
          (pss_cons (ps_set (i := 8) nd rfl (Or.inr rfl) (C8.pe_mt0 (ok_rs_inverse T) hr (by decide) (pe_ix ix_list (pv 7) (pv 5) (fun _ _ => rfl))))
          (pss_cons (ps_set (i := 7) nd rfl (Or.inr rfl) (pe_lc (own := [("x", 12)]) (g := gName 12) (tt := tYes) (te := tOp (rOwn (cR K) (spRsBin K gMul) C8.E0) (tVar 8) (tVar 12)) rfl nd (pi_list (pv 7)) (blkOk_by (N := N_red) (sc := defScope s_reduce_rows) (by decide +kernel)) (fun _ _ _ _ _ => pg_name (i := 12) nd rfl (Or.inl rfl)) (fun _ _ _ _ _ => pts_nil)
            (fun _ _ _ _ _ => pe_op (op_met (ok_rs_mul T) dn_mul hr (by decide) T.ex.sR) (pv 8) (pv 12))))
          (pss_cons (ps_set (i := 9) nd rfl (Or.inl rfl) (pe_op op_cat (pe_slice sl_list (pv 2) po_none (po_some (pe_ix ix_list (pv 6) pe_int (fun _ _ => rfl)))) (pe_slice sl_list (pv 2) (po_some (pe_op op_add (pe_ix ix_list (pv 6) pe_int (fun _ _ => rfl)) pe_int)) po_none)))
          (pss_cons (ps_set (i := 2) nd rfl (Or.inr rfl) (pe_lc (own := [("row", 10)]) (g := gName 10) (tt := tYes) (te := lessE K) rfl nd (pi_list (pv 9)) (blkOk_by (N := N_red) (sc := defScope s_reduce_rows) (by decide +kernel)) (fun _ _ _ _ _ => pg_name (i := 10) nd rfl (Or.inl rfl)) (fun _ _ _ _ _ => pts_nil)
            (fun _ _ _ _ _ => C8.pe_c (ok_less T) hr (by decide) (by rfl) (pa_cons (pv 10) (pa_cons (pv 7) (pa_cons (pv 5) pa_nil))))))
          (pss_cons (ps_set (i := 3) nd rfl (Or.inl rfl) (pe_op op_cat (pe_lc (own := [("row", 10)]) (g := gName 10) (tt := tYes) (te := lessE K) rfl nd (pi_list (pv 3)) (blkOk_by (N := N_red) (sc := defScope s_reduce_rows) (by decide +kernel)) (fun _ _ _ _ _ => pg_name (i := 10) nd rfl (Or.inl rfl)) (fun _ _ _ _ _ => pts_nil)
            (fun _ _ _ _ _ => C8.pe_c (ok_less T) hr (by decide) (by rfl) (pa_cons (pv 10) (pa_cons (pv 7) (pa_cons (pv 5) pa_nil))))) (pe_lst (pa_cons (pv 7) pa_nil))))
          (pss_one (ps_expr (pe_bm PySem.F.plainAttrs_list PySem.F.slot_list_append PySem.F.type_list_append mt_append (pv 4) (pa_cons (pv 5) pa_nil)))))))))) pss_nil))))
      (pss_one (ps_ret (pe_tup (pa_cons (pv 3) (pa_cons (pv 4) pa_nil)))))))), ?_⟩
    have fin : ∀ (H' : Hp) (lr lf lp : Addr) (v5 v6 v7 v8 v9 : Option V) (pus : List V), Same H H' → H' lp = some (.lst pus) → Al NatV H' ((redR rows L).map (·.2)) pus → LstOf (HR K lp) ((redR rows L).map (·.1)) (.ref lf) (hide lp H') →
        tRet (tTup (tCons (tVar 3) (tCons (tVar 4) tNil))) { nx := fun _ H' => Q .non H', rt := Q } [some r, some (.int (L : Int)), some (.ref lr), some (.ref lf), some (.ref lp), v5, v6, v7, v8, v9, none, none, none] H' := by
      intro H' lr lf lp v5 v6 v7 v8 v9 pus s hlp alp hf
      refine ⟨_, rfl, _, rfl, two_line, fun t ht => ?_⟩
      have s2 : Same H' (upd H' t (.tup [.ref lf, .ref lp])) := same_upd ht
      obtain ⟨a, vs, e, ha, al⟩ := hf
      refine q _ _ (s.trans s2) ⟨t, .ref lf, .ref lp, rfl, upd_same, ⟨a, vs, e, s2 _ _ (hide_le _ _ ha), al.imp (R := HR K lp) fun x v z => mon_rowL x _ _ _ (((hide_le (l := lp)).trans (hide_le (l := lp))).trans s2) z⟩, ⟨lp, pus, rfl, s2 _ _ hlp, alp.mono mon_nat s2⟩⟩
    refine ⟨_, rfl, lc_seq (f := fun x => x) (R := fun x : List (Zp p) => RowL K x) hrs ⟨fun x => mon_seq mon_rs x, mon_rowL, by omega, ?_, ?_⟩⟩
    · rintro D i x z H1 hD hx s1 ⟨acc, ha⟩ hz0 hz Kk kk
      have copy : ∀ (ws : List V) (l : Addr), H1 l = none → Al (Rs K) H1 x ws → RowL K x (.ref l) (hide D (upd H1 l (.lst ws))) := fun ws l hl al =>
        ⟨l, ws, rfl, hide_at upd_same (fun e => by rw [e, ha] at hl; cases hl), al.imp fun y u r => imm_rs _ _ _ _ _ (same_upd hl _ _ ha) trivial (mon_rs _ _ _ _ (same_upd hl) r)⟩
      rcases hz with ⟨b, ws, rfl, hb, al⟩ | ⟨b, ws, rfl, hb, al⟩
      · exact ⟨rfl, _, rfl, b, ws, rfl, .inl (SqL.of hb), fun l hl => kk _ _ (same_upd hl) (copy ws l hl al)⟩
      · exact ⟨rfl, _, rfl, b, ws, rfl, .inr (SqT.of hb), fun l hl => kk _ _ (same_upd hl) (copy ws l hl al)⟩
    intro D H1 us hD s1__ hH1 al1
    rw [List.map_id'] at al1
    refine ⟨Nat.zero_le _, fun lf hlf => ⟨Nat.zero_le _, fun lp hlp => ?_⟩⟩
    have s12 : Same H1 (upd H1 lf (.lst [])) := same_upd hlf
    generalize e2 : upd H1 lf (.lst []) = H2 at *
    have hf2 : H2 lf = some (.lst []) := by rw [← e2]; exact upd_same
    have s23 : Same H2 (hide lp (upd H2 lp (.lst []))) := by rw [hide_upd]; exact same_hide (Same.refl _) hlp
    refine ⟨_, rfl, _, rfl, by omega, by omega, ?_⟩
    rw [show ((L : Int)).toNat = L from Int.toNat_natCast L]
    have I := fun c (h : c ≤ L) => redGo_inv hlen c h
    refine for_range (lo := 0) (fun c σ H' => ∃ (lr lf : Addr) (v5 v6 v7 v8 v9 : Option V) (pus : List V), σ = [some r, some (.int (L : Int)), some (.ref lr), some (.ref lf), some (.ref lp), v5, v6, v7, v8, v9, none, none, none] ∧
        Same H H' ∧ H' lp = some (.lst pus) ∧ Al NatV H' ((redGo rows c).fp.map (·.2)) pus ∧ LstOf (HR K lp) (redGo rows c).rest (.ref lr) (hide lp H') ∧ LstOf (HR K lp) ((redGo rows c).fp.map (·.1)) (.ref lf) (hide lp H'))
      ⟨D, lf, none, none, none, none, none, [], rfl, (s1__.trans s12).trans (same_upd hlp), upd_same, .nil, ?_, ?_⟩ ?_ ?_
    · refine ⟨D, us, rfl, s23 _ _ (s12 _ _ hH1), al1.imp fun x v z => ?_⟩
      have z2 := mon_rowL x _ _ _ ((hide_le.trans s12).trans s23) z
      show RowL K x v (hide lp (hide lp _))
      have e : hide lp (hide lp (upd H2 lp (.lst []))) = hide lp (upd H2 lp (.lst [])) := by
        funext b
        by_cases eb : b = lp
        · rw [eb, hide_self, hide_self]
        · rw [hide_ne eb]
      rw [e]; exact z2
    · exact ⟨lf, [], rfl, s23 _ _ hf2, .nil⟩
    · rintro c σ H' hc ⟨lr, lf, v5, v6, v7, v8, v9, pus, rfl, s, hlp', alp, hrest, hf⟩
      have Ic := I c (by omega)
      rw [Int.zero_add]
      generalize hst : redGo rows c = st at *
      obtain ⟨_, rus, e, hlr, alr⟩ := hrest
      cases e
      obtain ⟨_, fus, e, hlf, alf⟩ := hf
      cases e
      have hcnt := Ic.cnt
      have hrl := alr.length
      have hfl := alf.length
      rw [List.length_map] at hfl
      have hlr' := hide_le _ _ hlr
      have hlf' := hide_le _ _ hlf
      refine ⟨_, rfl, lr, rus, rfl, .inl (SqL.of hlr'), _, rfl, by omega, by omega, fun DP hDP => ?_⟩
      refine lc_sel walk_range (fun i => !decide (tl (st.rest.getD i []) c = 0)) (fun i => i) NatV mon_nat (by rw [Int.toNat_natCast, alr.length]; omega) hDP (fun _ _ => trivial) ?_ ?_
      · rintro i x H1 _ hi s1 ⟨acc, ha⟩ ⟨rfl, rfl⟩ Kk Nn kk nn
        have hi' : i < st.rest.length := by rw [Int.toNat_natCast, alr.length] at hi; exact hi
        obtain ⟨v, hv, hvR⟩ := al_at alr hi' []
        obtain ⟨ra, rvs, rfl, hra, al⟩ := mon_rowL _ _ _ _ (((hide_le (l := lp)).trans (hide_le (l := lp))).trans s1) hvR
        have lr_ : (st.rest.getD i []).length = L := Ic.lenR _ (by rw [List.getD_eq_getElem?_getD, List.getElem?_eq_getElem hi']; exact List.getElem_mem hi')
        obtain ⟨fv, hfv, hfR⟩ := al_at al (i := c) (by rw [lr_]; exact hc) 0
        refine ⟨rfl, _, rfl, _, rfl, lr, rus, _, _, rfl, rfl, SqL.of (s1 _ _ hlr'), at_of (by omega) hv, _, rfl, ra, rvs, _, fv, rfl, rfl, SqL.of hra, at_of rfl hfv, m_zero hfR ⟨_, rfl, ifND (fun hne => ?_) fun he => ?_⟩⟩
        · refine ⟨_, rfl, kk ?_ _ _ (Same.refl _) ?_⟩
          · show (!decide (tl (st.rest.getD i []) c = 0)) = true
            have hne' : ¬ tl (st.rest.getD i []) c = 0 := hne
            rw [decide_eq_false hne']; rfl
          · show V.int (0 + (i : Int)) = V.int (i : Int)
            rw [Int.zero_add]
        · refine nn ?_ _ (Same.refl _)
          show (!decide (tl (st.rest.getD i []) c = 0)) = false
          have he' : tl (st.rest.getD i []) c = 0 := he
          rw [decide_eq_true he']; rfl
      intro H1 pls s1 hD1 alP
      rw [Int.toNat_natCast, alr.length, List.map_id'] at alP
      have alP : Al NatV (hide DP H1) (placesR st.rest c) pls := alP
      have ss := s.trans s1
      cases hpl : placesR st.rest c with
      | nil =>
        rw [hpl] at alP
        cases alP
        refine ⟨_, rfl, DP, [], rfl, .inl (SqL.of hD1), _, _, rfl, rfl, _, rfl, ifF (by show ¬ ((0 : Int) < ((0 : Nat) : Int)); decide) ?_⟩
        refine ⟨lr, lf, _, _, _, _, _, pus, rfl, ss, s1 _ _ hlp', ?_, ?_, ?_⟩
        · rw [redGo_succ, hst, redStep_nil hpl]; exact alp.mono mon_nat s1
        · rw [redGo_succ, hst, redStep_nil hpl]; exact mon_lst mon_hr _ _ _ _ (hide_mono s1) ⟨lr, rus, rfl, hlr, alr⟩
        · rw [redGo_succ, hst, redStep_nil hpl]; exact mon_lst mon_hr _ _ _ _ (hide_mono s1) ⟨lf, fus, rfl, hlf, alf⟩
      | cons at_ m =>
        obtain ⟨hat, hne⟩ := placesR_head hpl
        rw [hpl] at alP
        have lpl := alP.length
        obtain ⟨pv0, hpv0, hpR⟩ := alP.get (i := 0) rfl
        have hpR : pv0 = .int (at_ : Int) := hpR
        subst hpR
        have hpos : (0 : Int) < (pls.length : Int) := by rw [lpl, List.length_cons]; omega
        refine ⟨_, rfl, DP, pls, rfl, .inl (SqL.of hD1), _, _, rfl, rfl, _, rfl, ifT hpos ?_⟩
        obtain ⟨ov, hov, hovR⟩ := al_at alr hat []
        have lr_ : ∀ r ∈ st.rest, r.length = L := Ic.lenR
        have m0 : st.rest.getD at_ [] ∈ st.rest := by rw [List.getD_eq_getElem?_getD, List.getElem?_eq_getElem hat]; exact List.getElem_mem hat
        have lown0 := lr_ _ m0
        generalize hown0 : st.rest.getD at_ [] = own0 at *
        have hovR := mon_hr _ _ _ _ s1 (mon_rowL _ _ _ _ (hide_mono (l := lp) (hide_le (l := lp))) hovR)
        obtain ⟨oa, ovs, e, hoa, alo⟩ := mon_rowL _ _ _ _ (hide_le (l := lp)) hovR
        subst e
        refine ⟨_, rfl, _, rfl, DP, pls, _, _, rfl, rfl, SqL.of hD1, at_of (j := 0) rfl hpv0, lr, rus, _, _, rfl, rfl, SqL.of (s1 _ _ hlr'), at_of rfl hov, ?_⟩
        obtain ⟨hv, hhv, hhR⟩ := al_at alo (i := c) (by omega) 0
        have hinv := hhR
        obtain ⟨ua, ud, rfl, hu⟩ := hinv
        refine ⟨_, rfl, _, rfl, oa, ovs, _, _, rfl, rfl, SqL.of hoa, at_of rfl hhv, ua, ud, _, rfl, hu, no_inverse _ _, p, hp, _, _, rfl, hhR, hne, fun hd H2 s2 hhd => ?_⟩
        have hlp2 := s2 _ _ (s1 _ _ hlp')
        have hown2 : LstOf (Rs K) own0 (.ref oa) H2 := mon_lst mon_rs _ _ _ _ s2 ⟨oa, ovs, rfl, hoa, alo⟩
        refine ⟨_, rfl, lc_lst (f := fun x => Fld.inv (tl own0 c) * x) (R := fun x : Zp p => Rs K x) hown2 ⟨mon_rs, mon_rs, by omega, ?_, ?_⟩⟩
        · rintro D2 i x z H3 hD2 hx s3 ⟨acc, ha⟩ _ hz Kk kk
          exact ⟨rfl, _, rfl, _, rfl, bin_rs (mon_rs _ _ _ _ s3 hhd) hz fun y H4 s4 hy => kk y H4 s4 (imm_rs _ _ _ _ _ (s4 _ _ ha) trivial hy)⟩
        intro D2 H3 ows hD2 s3 hH3 alO
        have hlp3 := s3 _ _ hlp2
        have nD2 : D2 ≠ lp := fun e => by rw [e, hlp2] at hD2; cases hD2
        generalize hown : own0.map (fun x => Fld.inv (tl own0 c) * x) = own at *
        have lown : own.length = L := by rw [← hown, List.length_map, lown0]
        have hown3 : RowL K own (.ref D2) H3 := ⟨D2, ows, rfl, hH3, alO.mono mon_rs hide_le⟩
        have hown3' : RowL K own (.ref D2) (hide lp H3) := lst_hide imm_rs hlp3 trivial hown3 fun e => nD2 (by injection e)
        have s13 := s2.trans s3
        have s03 := s1.trans s13
        -- left
        have hlr3 := s03 _ _ hlr'
        refine ⟨_, rfl, _, rfl, DP, pls, _, _, rfl, rfl, SqL.of (s13 _ _ hD1), at_of (j := 0) rfl hpv0, _, rfl, lr, rus, rfl, SqL.of hlr3, fun q1 hq1 => ?_⟩
        have s34 : Same H3 (upd H3 q1 (.lst (cutV rus none (some (at_ : Int))))) := same_upd hq1
        have hq1' : upd H3 q1 (.lst (cutV rus none (some (at_ : Int)))) q1 = some (.lst (rus.take at_)) := by rw [upd_same, cut_take (by omega)]
        generalize e4 : upd H3 q1 (.lst (cutV rus none (some (at_ : Int)))) = H4 at *
        refine ⟨_, rfl, _, rfl, DP, pls, _, _, rfl, rfl, SqL.of (s34 _ _ (s13 _ _ hD1)), at_of (j := 0) rfl hpv0, _, _, rfl, rfl, _, rfl, lr, rus, rfl, SqL.of (s34 _ _ hlr3), fun q2 hq2 => ?_⟩
        have s45 : Same H4 (upd H4 q2 (.lst (cutV rus (some ((at_ : Int) + 1)) none))) := same_upd hq2
        have hq2' : upd H4 q2 (.lst (cutV rus (some ((at_ : Int) + 1)) none)) q2 = some (.lst (rus.drop (at_ + 1))) := by
          have e : ((at_ : Int) + 1) = ((at_ + 1 : Nat) : Int) := by omega
          rw [upd_same, e, cut_drop (by omega)]
        generalize e5 : upd H4 q2 (.lst (cutV rus (some ((at_ : Int) + 1)) none)) = H5 at *
        refine ⟨q1, q2, _, _, rfl, rfl, s45 _ _ hq1', hq2', Nat.le_of_lt (small1000 (by rw [List.length_take, List.length_drop]; omega)), fun q3 hq3 => ?_⟩
        have s56 : Same H5 (upd H5 q3 (.lst (rus.take at_ ++ rus.drop (at_ + 1)))) := same_upd hq3
        have hq3' : upd H5 q3 (.lst (rus.take at_ ++ rus.drop (at_ + 1))) q3 = some (.lst (rus.take at_ ++ rus.drop (at_ + 1))) := upd_same
        generalize e6 : upd H5 q3 (.lst (rus.take at_ ++ rus.drop (at_ + 1))) = H6 at *
        have s36 := (s34.trans s45).trans s56
        have s06 := s03.trans s36
        have hlp6 := s06 _ _ hlp'
        have alr6 : Al (HR K lp) H6 (st.rest.take at_ ++ st.rest.drop (at_ + 1)) (rus.take at_ ++ rus.drop (at_ + 1)) :=
          ((alr.imp (R := HR K lp) (S := HR K lp) (H' := H6) fun x v z => mon_rowL x _ _ _ (hide_mono ((hide_le (l := lp)).trans s06)) z).take at_).append ((alr.imp (R := HR K lp) (S := HR K lp) (H' := H6) fun x v z => mon_rowL x _ _ _ (hide_mono ((hide_le (l := lp)).trans s06)) z).drop (at_ + 1))
        have lleft : ∀ r ∈ st.rest.take at_ ++ st.rest.drop (at_ + 1), r.length = L := fun r hr => (List.mem_append.mp hr).elim (fun z => lr_ r (List.mem_of_mem_take z)) fun z => lr_ r (List.mem_of_mem_drop z)
        have turn : ∀ (H0 : Hp) (x : List (Zp p)) (D3 : Addr) (z : V) (H7 : Hp) (Kk : VK), H3 lp = some (.lst pus) → Same H3 H0 → H0 D3 = none → x.length = L → Same H0 H7 → (∃ acc, H7 D3 = some (.lst acc)) → HR K lp x z H0 → (∀ y H4, Same H7 H4 → HR K lp (lessR x own c) y (hide D3 H4) → Kk y H4) →
            spLess K ([z, .ref D2, .int (c : Int)] ++ []) H7 Kk C8.E0 := by
          intro H0 x D3 z H7 Kk hl3 s30 hD3 lx s7 ⟨acc, ha⟩ hz kk
          have hz7 : RowL K x z (hide lp H7) := mon_rowL _ _ _ _ (hide_mono s7) hz
          refine ⟨p, hp, _, _, x, own, c, rfl, mon_rowL _ _ _ _ hide_le hz7, mon_rowL _ _ _ _ (s30.trans s7) hown3, by omega, by omega, by omega, fun y H8 s8 hy on => kk y H8 s8 ?_⟩
          have hl7 := s7 _ _ (s30 _ _ hl3)
          exact rowL_hide2 (s8 _ _ hl7) trivial (s8 _ _ ha) trivial hy (on_ne on hl7 (rowL_ne hz7)) (on_ne on ha (rowL_free (mon_rowL _ _ _ _ hide_le hz) hD3))
        refine ⟨_, rfl, lc_lst (f := fun r => lessR r own c) (R := fun x : List (Zp p) => HR K lp x) ⟨q3, _, rfl, hq3', alr6⟩ ⟨mon_hr, mon_hr, by rw [List.length_append, List.length_take, List.length_drop]; omega, ?_, ?_⟩⟩
        · rintro D3 i x z H7 hD3 hx s7 ha hz0 hz7 Kk kk
          exact ⟨rfl, _, rfl, _, rfl, _, rfl, turn H6 x D3 z H7 Kk hlp3 s36 hD3 (lleft x (List.mem_of_getElem? hx)) s7 ha hz0 kk⟩
        intro D3 H7 rus7 hD3 s7 hH7 al7
        have s07 := s06.trans s7
        have hlp7 := s07 _ _ hlp'
        have nD3 : D3 ≠ lp := fun e => by rw [e, hlp6] at hD3; cases hD3
        have hfnd7 : LstOf (HR K lp) (st.fp.map (·.1)) (.ref lf) H7 := ⟨lf, fus, rfl, s07 _ _ hlf', alf.imp (R := HR K lp) (S := HR K lp) (H' := H7) fun x v z => mon_rowL x _ _ _ (hide_mono ((hide_le (l := lp)).trans s07)) z⟩
        refine ⟨_, rfl, lc_lst (f := fun r => lessR r own c) (R := fun x : List (Zp p) => HR K lp x) hfnd7 ⟨mon_hr, mon_hr, by rw [List.length_map]; omega, ?_, ?_⟩⟩
        · rintro D4 i x z H8 hD4 hx s8 ha hz0 hz7 Kk kk
          obtain ⟨a, hma, rfl⟩ := List.mem_map.mp (List.mem_of_getElem? hx)
          exact ⟨rfl, _, rfl, _, rfl, _, rfl, turn H7 a.1 D4 z H8 Kk hlp3 (s36.trans s7) hD4 (Ic.lenF a hma) s8 ha hz0 kk⟩
        intro D4 H8 fus8 hD4 s8 hH8 al8
        have l8 := al8.length
        simp only [List.length_map] at l8
        refine ⟨_, rfl, (by show 1 ≤ sizeLine; decide), fun q4 hq4 => ?_⟩
        refine ⟨D4, q4, _, _, rfl, rfl, same_upd hq4 _ _ hH8, upd_same, Nat.le_of_lt (small1000 (by rw [l8, List.length_singleton]; omega)), fun q5 hq5 => ?_⟩
        have s89 : Same H8 (upd H8 q4 (.lst [.ref D2])) := same_upd hq4
        generalize e9 : upd H8 q4 (.lst [.ref D2]) = H9 at *
        have s910 : Same H9 (upd H9 q5 (.lst (fus8 ++ [.ref D2]))) := same_upd hq5
        have hq5' : upd H9 q5 (.lst (fus8 ++ [.ref D2])) q5 = some (.lst (fus8 ++ [.ref D2])) := upd_same
        generalize e10 : upd H9 q5 (.lst (fus8 ++ [.ref D2])) = H10 at *
        have s810 := s89.trans s910
        have s010 := (s07.trans s8).trans s810
        have hlp10 := s010 _ _ hlp'
        have lpus := alp.length
        rw [List.length_map] at lpus
        have nlp : H lp = none := by
          cases e : H lp with
          | none => rfl
          | some o =>
            have := s12 _ _ (s1__ _ _ e)
            rw [hlp] at this; cases this
        refine ⟨_, rfl, .inl ⟨rfl, _, SqL.of hlp10⟩, _, rfl, lp, pus, _, rfl, rfl, hlp10, small1000 (by omega), ?_⟩
        have hstep : redGo rows (c + 1) = ⟨(st.rest.take at_ ++ st.rest.drop (at_ + 1)).map fun r => lessR r own c, st.fp.map (fun a => (lessR a.1 own c, a.2)) ++ [(own, c)]⟩ := by
          rw [redGo_succ, hst, redStep_cons hpl, hown0, hown]
        have sH : Same H (upd H10 lp (.lst (pus ++ [.int (c : Int)]))) := same_upd' (s.trans s010) nlp
        have nD3' : D3 ≠ lp := nD3
        have nq5 : q5 ≠ lp := fun e => by
          have := (s07.trans s8).trans s89 _ _ hlp'
          rw [← e, hq5] at this; cases this
        refine ⟨D3, q5, _, _, _, _, _, pus ++ [.int (c : Int)], rfl, sH, upd_same, ?_, ?_, ?_⟩
        · rw [hstep, List.map_append, List.map_map]
          exact (Al.imp (H := H') (R := NatV) (S := NatV) (H' := upd H10 lp (.lst (pus ++ [.int (c : Int)]))) (fun _ _ z => z) alp).append (.cons (show V.int (c : Int) = V.int (c : Int) from rfl) .nil)
        · rw [hstep, hide_upd]
          refine ⟨D3, rus7, rfl, hide_at ((s8.trans s810) _ _ hH7) nD3', ?_⟩
          exact al7.imp (R := HR K lp) (S := HR K lp) fun x v z => mon_rowL x _ _ _ (same_hh (s8.trans s810)) z
        · rw [hstep, hide_upd, List.map_append, List.map_map]
          refine ⟨q5, fus8 ++ [.ref D2], rfl, hide_at hq5' nq5, ?_⟩
          rw [List.map_map] at al8
          refine (al8.imp (R := HR K lp) (S := HR K lp) (H' := hide lp H10) fun x v z => mon_rowL x _ _ _ (same_hh s810) z).append (.cons ?_ .nil)
          show RowL K own (.ref D2) (hide lp (hide lp H10))
          rw [hide_hide]
          exact mon_rowL _ _ _ _ (hide_mono (((s36.trans s7).trans s8).trans s810)) hown3'
    · rintro σ H' ⟨lr, lf, v5, v6, v7, v8, v9, pus, rfl, s, hlp', alp, _, hf⟩
      exact fin H' lr lf lp v5 v6 v7 v8 v9 pus s hlp' alp hf
end
end K47

/-! text W9 -/
/-! kernel_rows, reduced, kernel, solve -/
namespace K47
open PySem PySem.Spec PyProof.Rows L2
section
variable {F : Type} [Fld F] [DecidableEq F]
def unitRow (n i : Nat) : Row F := (List.range n).map fun j => if i = j then 1 else 0
def wideRows (rows : List (Row F)) : List (Row F) := (List.range rows.length).map fun i => rows.getD i [] ++ unitRow rows.length i
def kerRows (rows : List (Row F)) (w : Nat) : List (Row F) := ((redR (wideRows rows) (w + rows.length)).filter fun a => decide (w ≤ a.2)).map fun a => a.1.drop w
theorem unitRow_len (n i : Nat) : (unitRow n i : Row F).length = n := by simp [unitRow]
theorem wide_len {rows : List (Row F)} {w : Nat} (h : ∀ r ∈ rows, r.length = w) : ∀ r ∈ wideRows rows, r.length = w + rows.length := fun r hr => by
  obtain ⟨i, hi, e⟩ := List.mem_map.mp hr
  have hi' := List.mem_range.mp hi
  have : rows.getD i [] ∈ rows := by rw [List.getD_eq_getElem?_getD, List.getElem?_eq_getElem hi']; exact List.getElem_mem hi'
  rw [← e, List.length_append, unitRow_len, h _ this]
theorem kerRows_len {rows : List (Row F)} {w : Nat} (h : ∀ r ∈ rows, r.length = w) : ∀ r ∈ kerRows rows w, r.length = rows.length := fun r hr => by
  obtain ⟨a, ha, e⟩ := List.mem_map.mp hr
  have := (redR_ok (wide_len h)).len a (List.mem_filter.mp ha).1
  rw [← e, List.length_drop, this]; omega
theorem kerRows_cnt {rows : List (Row F)} {w : Nat} (h : ∀ r ∈ rows, r.length = w) : (kerRows rows w).length ≤ rows.length := by
  have h1 := (redR_ok (wide_len h)).cnt
  have h2 : (wideRows rows).length = rows.length := by simp [wideRows]
  unfold kerRows
  rw [List.length_map]
  exact Nat.le_trans (List.length_filter_le _ _) (by omega)
end
theorem range_filter_map {α β : Type} (ps : List α) (d : α) (p : α → Bool) (g : α → β) : ((List.range ps.length).filter fun k => p (ps.getD k d)).map (fun k => g (ps.getD k d)) = (ps.filter p).map g := by
  have e : (List.range ps.length).map (fun k => ps.getD k d) = ps := by
    have := map_getD (xs := ps) (fun x => x) d
    rw [List.map_id'] at this; exact this
  have h2 : (ps.filter p) = (((List.range ps.length).filter fun k => p (ps.getD k d)).map fun k => ps.getD k d) := by
    conv => lhs; rw [← e]
    rw [List.filter_map]; rfl
  rw [h2, List.map_map]; rfl
section
variable {P : Program} {w : World} {K : PySem.W.Frag} {mg : Str → Option Value} {base : Heap}
theorem SeqOf.un {α : Type} {R : α → Dn} {xs : List α} {v : V} {H : Hp} (h : SeqOf R xs v H) : ∃ a vs, v = .ref a ∧ Al R H xs vs ∧ ∀ H', Same H H' → (SqL K H' a vs ∨ SqT K H' a vs) := by
  rcases h with ⟨a, vs, rfl, ha, al⟩ | ⟨a, vs, rfl, ha, al⟩
  · exact ⟨a, vs, rfl, al, fun H' s => .inl (SqL.of (s _ _ ha))⟩
  · exact ⟨a, vs, rfl, al, fun H' s => .inr (SqT.of (s _ _ ha))⟩
theorem rIx_of {a : Addr} {xs : List V} {i : Int} {v : V} {H : Hp} {Q : VK} (h : SqL K H a xs ∨ SqT K H a xs) (e : atI xs i = some v) (q : Q v H) : rIx K (.ref a) (.int i) H Q := by
  rcases h with h | h
  · exact .inl ⟨a, xs, i, v, rfl, rfl, h, e, q⟩
  · exact .inr (.inl ⟨a, xs, i, v, rfl, rfl, h, e, q⟩)
def spKerRows (K : PySem.W.Frag) : Sp := fun vs H Q _ => ∃ (p : Nat) (hp : P23 p) (g r : V) (rows : List (List (Zp p))) (wd : Nat), vs = [g, r, .int (wd : Int)] ∧ Gr K p g H ∧ SeqOf (TupOf (Rs K)) rows r H ∧ rows.length ≤ 100 ∧ wd ≤ 100 ∧ (∀ x ∈ rows, x.length = wd) ∧
  ∀ z H', Same H H' → LstOf (RowL K) (kerRows rows wd) z H' → Q z H'
abbrev N_ker : List Str := ["ground", "rows", "width", "height", "wide", "i", "found", "pivots", "j", "k"]
theorem sc_kernel_rows : FnScope ["ground", "rows", "width", "height", "wide", "i", "found", "pivots", "j", "k"] ["ground", "rows", "width"] (defScope s_kernel_rows) := ⟨rfl, rfl, rfl, by decide +kernel, rfl, by decide +kernel, by decide +kernel⟩
def rInt1 : List V → Hp → VK → Prop := fun xs H Q => (∃ i, xs = [.int i] ∧ Q (.int i) H) ∨ ∃ k, xs = [.bl k] ∧ Q (.int (if k then 1 else 0)) H
theorem call_intB {X : Cx} : CallR X (.type "int") rInt1 := call_int1
def wideE (K : PySem.W.Frag) : TE := tMeth (cG K) "number" (spNumber K) [.int 1] C8.E0 (tVar 0) (tCons (tCB rInt1 (tCons (tEqI (tVar 5) (tVar 8)) tNil)) tNil)
def keepT (K : PySem.W.Frag) : TT := tB (tGe (tOp (rIxL K) (tVar 7) (tVar 9)) (tVar 2))
def cutE (K : PySem.W.Frag) : TE := tSl (rSlL K) (tOp (rIxL K) (tVar 6) (tVar 9)) (tPart (tVar 2)) tNoPart
theorem ok_kernel_rows (T : Tx K mg) : C8.Cal P w K mg base 8 "kernel_rows" (spKerRows K) [] := by
  refine cal_mk T.g_kernel_rows T.d_kernel_rows sc_kernel_rows (fun _ _ _ _ _ _ us hl => match us, hl with | [_, _, _], _ => rfl) (fun vs H Q E h => ?_) (fun cdv A outer s H vs Q E hr h => ?_)
  · obtain ⟨p, hp, g, r, rows, wd, rfl, _⟩ := h; rfl
  · obtain ⟨p, hp, g, r, rows, wd, rfl, hg, hrs, h100, hwd, hlen, q⟩ := h
    have nd := sc_kernel_rows.nd
    refine ⟨_, pss_cons (ps_set (i := 3) nd rfl (Or.inl rfl) (pe_callB call_len_seq (by rfl) T.b_len PySem.boot_len (pa_cons (pv 1) pa_nil)))
      (pss_cons (ps_set (i := 4) nd rfl (Or.inl rfl) (pe_lst pa_nil))
      (pss_cons (ps_for PassesOwn.never rfl (pi_range1 (by rfl) T.b_range (pa_cons (pv 3) pa_nil)) (pg_name (i := 5) nd rfl (Or.inr rfl))
        (pss_one (ps_expr (pe_bm PySem.F.plainAttrs_list PySem.F.slot_list_append PySem.F.type_list_append mt_append (pv 4) (pa_cons (pe_op op_cat
          (pe_callTy call_lstOf (by rfl) T.b_list boot_list (pa_cons (pe_ix ix_seq (pv 1) (pv 5) (fun _ _ => rfl)) pa_nil))
          (pe_lc (own := [("j", 8)]) (g := gName 8) (tt := tYes) (te := wideE K) rfl nd (pi_range1 (by rfl) T.b_range (pa_cons (pv 3) pa_nil)) (blkOk_by (N := N_ker) (sc := defScope s_kernel_rows) (by decide +kernel)) (fun _ _ _ _ _ => pg_name (i := 8) nd rfl (Or.inl rfl)) (fun _ _ _ _ _ => pts_nil)
            (fun _ _ _ _ _ => C8.pe_mt (ok_gr_number T) hr (by decide) (pv 0) (pa_cons (pe_callTy call_intB (by rfl) T.b_int boot_int (pa_cons (pe_cmp (pc_eqI (pv 5) (pv 8))) pa_nil)) pa_nil)))) pa_nil)))))
      (pss_cons (ps_asg (C8.pe_c (ok_reduce_rows T) hr (by decide) (by rfl) (pa_cons (pv 4) (pa_cons (pe_op op_add (pv 2) (pv 3)) pa_nil))) (pg_tup rfl (pgs_cons (pg_name (i := 6) nd rfl (Or.inr rfl)) (pgs_cons (pg_name (i := 7) nd rfl (Or.inr rfl)) pgs_nil))))
      (pss_one (ps_ret (pe_lc (own := [("k", 9)]) (g := gName 9) (tt := keepT K) (te := cutE K) rfl nd (pi_range1 (by rfl) T.b_range (pa_cons (pe_callB call_len_seq (by rfl) T.b_len PySem.boot_len (pa_cons (pv 6) pa_nil)) pa_nil)) (blkOk_by (N := N_ker) (sc := defScope s_kernel_rows) (by decide +kernel)) (fun _ _ _ _ _ => pg_name (i := 9) nd rfl (Or.inl rfl))
          (fun _ _ _ _ _ => pts_one (pt_cmp (pc_ge (pe_ix ix_list (pv 7) (pv 9) (fun _ _ => rfl)) (pv 2))))
          (fun _ _ _ _ _ => pe_slice sl_list (pe_ix ix_list (pv 6) (pv 9) (fun _ _ => rfl)) (po_some (pv 2)) po_none))))))), ?_⟩
    obtain ⟨ra, rvs, rfl, alr, hsq⟩ := hrs.un (K := K)
    have lrv := alr.length
    refine ⟨_, rfl, ra, rvs, rfl, hsq _ (Same.refl _), ?_⟩
    rw [lrv]
    refine ⟨Nat.zero_le _, fun lw hlw => ?_⟩
    have s1 : Same H (upd H lw (.lst [])) := same_upd hlw
    refine ⟨_, rfl, _, rfl, by omega, by omega, ?_⟩
    rw [show ((rows.length : Int)).toNat = rows.length from Int.toNat_natCast _]
    have lwide : ∀ n, n ≤ rows.length → ((wideRows rows).take n).length = n := fun n h => by rw [List.length_take]; simp [wideRows]; omega
    refine for_range (lo := 0) (fun c σ H' => ∃ (v5 : Option V) (us : List V), σ = [some g, some (.ref ra), some (.int (wd : Int)), some (.int (rows.length : Int)), some (.ref lw), v5, none, none, none, none] ∧
        Same H H' ∧ H' lw = some (.lst us) ∧ Al (HR K lw) H' ((wideRows rows).take c) us)
      ⟨none, [], rfl, s1, upd_same, .nil⟩ ?_ ?_
    · rintro c σ H' hc ⟨v5, us, rfl, s, hus, alu⟩
      rw [Int.zero_add]
      obtain ⟨_, hv, xa, xvs, rfl, hxa, alx⟩ := al_at alr hc []
      have lus := alu.length
      rw [lwide c (by omega)] at lus
      refine ⟨_, rfl, .inl ⟨rfl, _, SqL.of hus⟩, _, rfl, _, rfl, rIx_of (hsq _ s) (at_of rfl hv) ?_⟩
      refine ⟨xa, xvs, rfl, .inr (SqT.of (s _ _ hxa)), fun l1 hl1 => ?_⟩
      have s2 : Same H' (upd H' l1 (.lst xvs)) := same_upd hl1
      have hl1' : upd H' l1 (.lst xvs) l1 = some (.lst xvs) := upd_same
      generalize e2 : upd H' l1 (.lst xvs) = H2 at *
      refine ⟨_, rfl, _, rfl, by omega, by omega, fun D hD => ?_⟩
      refine lc_map walk_range (fun j => if c = j then (1 : Zp p) else 0) (Rs K) mon_rs (by rw [Int.toNat_natCast]; omega) hD (fun _ _ => trivial) ?_ ?_
      · rintro j x H3 _ hj s3 ⟨acc, ha⟩ ⟨rfl, hx⟩ Kk kk
        have hx : x = .int (j : Int) := by rw [hx]; show V.int (0 + (j : Int)) = _; rw [Int.zero_add]
        subst hx
        obtain ⟨ga, gd, e, hga⟩ := mon_gr _ _ _ ((s.trans s2).trans s3) hg
        subst e
        refine ⟨rfl, _, rfl, ga, gd, _, rfl, hga, no_number _, _, rfl, _, rfl, _, _, rfl, rfl, .inr ⟨_, rfl, p, hp, _, _, rfl, ⟨ga, gd, rfl, hga⟩, fun z H4 s4 hz => kk z H4 s4 ?_⟩⟩
        have e : (zi p (if decide ((c : Int) = (j : Int)) = true then 1 else 0)) = (if c = j then (1 : Zp p) else 0) := by
          by_cases h : c = j
          · subst h; rw [if_pos rfl, decide_eq_true rfl, if_pos rfl]; exact zi_one
          · rw [if_neg h, decide_eq_false (by omega), if_neg (by decide)]; exact zi_zero
        rw [e] at hz
        exact imm_rs _ _ _ _ _ (s4 _ _ ha) trivial hz
      · intro H3 ws s3 hD3 alw
        rw [Int.toNat_natCast] at alw
        have s03 := (s.trans s2).trans s3
        have lws := alw.length
        rw [List.length_map, List.length_range] at lws
        have lx := alx.length
        have hrowlen : (rows.getD c []).length = wd := hlen _ (by rw [List.getD_eq_getElem?_getD, List.getElem?_eq_getElem hc]; exact List.getElem_mem hc)
        refine ⟨l1, D, _, _, rfl, rfl, s3 _ _ hl1', hD3, Nat.le_of_lt (small1000 (by omega)), fun q1 hq1 => ?_⟩
        have s4 : Same H3 (upd H3 q1 (.lst (xvs ++ ws))) := same_upd hq1
        have hus3 := s4 _ _ ((s2.trans s3) _ _ hus)
        have nq1 : q1 ≠ lw := fun e => by rw [e, (s2.trans s3) _ _ hus] at hq1; cases hq1
        have hlw0 : Same H (upd (upd H3 q1 (.lst (xvs ++ ws))) lw (.lst (us ++ [.ref q1]))) := same_upd' (s03.trans s4) hlw
        refine ⟨lw, us, _, rfl, rfl, hus3, small1000 (by omega), some (.int (c : Int)), us ++ [.ref q1], rfl, hlw0, upd_same, ?_⟩
        have hw : (wideRows rows)[c]? = some (rows.getD c [] ++ unitRow rows.length c) := by
          unfold wideRows; rw [List.getElem?_map, List.getElem?_range hc]; rfl
        rw [take_snoc hw]
        refine (alu.imp (R := HR K lw) (S := HR K lw) fun x v z => mon_rowL x _ _ _ (by rw [hide_upd]; exact hide_mono ((s2.trans s3).trans s4)) z).snoc ?_
        show RowL K _ _ (hide lw _)
        rw [hide_upd]
        refine lst_hide imm_rs hus3 trivial ⟨q1, _, rfl, upd_same, ?_⟩ (fun e => nq1 (by injection e))
        exact (alx.mono mon_rs (s03.trans s4)).append (alw.mono mon_rs (hide_le.trans s4))
    · rintro σ H' ⟨v5, us, rfl, s, hus, alu⟩
      have e : (wideRows rows).take rows.length = wideRows rows := List.take_of_length_le (by simp [wideRows])
      rw [e] at alu
      refine ⟨_, rfl, _, rfl, _, rfl, _, _, rfl, rfl, p, hp, .ref lw, wideRows rows, wd + rows.length, by rw [Int.natCast_add]; rfl, .inl ⟨lw, us, rfl, hus, ?_⟩, by simp [wideRows]; omega, by omega, wide_len hlen, fun z H2 s2 ⟨t, f, l, e, ht, hf, hl⟩ => ?_⟩
      · exact alu.imp (R := HR K lw) (S := SeqOf (Rs K)) fun x v z => .inl (mon_rowL x _ _ _ hide_le z)
      subst e
      generalize hps : redR (wideRows rows) (wd + rows.length) = ps at *
      have R := redR_ok (wide_len hlen)
      rw [hps] at R
      have lps := R.cnt
      have lww : (wideRows rows).length = rows.length := by simp [wideRows]
      obtain ⟨fa, fvs, rfl, hfa, alf⟩ := hf
      obtain ⟨la, lvs, rfl, hla, all⟩ := hl
      have lf := alf.length
      rw [List.length_map] at lf
      refine g_pair ht ?_
      refine ⟨_, rfl, fa, fvs, rfl, .inl (SqL.of hfa), _, rfl, by omega, by omega, fun D hD => ?_⟩
      refine lc_sel walk_range (fun k => decide (wd ≤ (ps.getD k ([], 0)).2)) (fun k => (ps.getD k ([], 0)).1.drop wd) (fun x : List (Zp p) => RowL K x) mon_rowL (by rw [Int.toNat_natCast]; omega) hD (fun _ _ => trivial) ?_ ?_
      · rintro k x H3 _ hk s3 ⟨acc, ha⟩ ⟨rfl, hx⟩ Kk Nn kk nn
        have hx : x = .int (k : Int) := by rw [hx]; show V.int (0 + (k : Int)) = _; rw [Int.zero_add]
        subst hx
        have hk' : k < ps.length := by rw [Int.toNat_natCast, lf] at hk; exact hk
        obtain ⟨fv, hfv, hfR⟩ := al_at alf (i := k) (by rw [List.length_map]; exact hk') []
        obtain ⟨lv, hlv, hlR⟩ := al_at all (i := k) (by rw [List.length_map]; exact hk') 0
        have e1 : (ps.map (·.1)).getD k [] = (ps.getD k ([], 0)).1 := by
          rw [List.getD_eq_getElem?_getD, List.getD_eq_getElem?_getD, List.getElem?_map, List.getElem?_eq_getElem hk']; rfl
        have e2 : (ps.map (·.2)).getD k 0 = (ps.getD k ([], 0)).2 := by
          rw [List.getD_eq_getElem?_getD, List.getD_eq_getElem?_getD, List.getElem?_map, List.getElem?_eq_getElem hk']; rfl
        rw [e1] at hfR
        rw [e2] at hlR
        have hlR : lv = .int (((ps.getD k ([], 0)).2 : Nat) : Int) := hlR
        subst hlR
        have hmem : ps.getD k ([], 0) ∈ ps := by rw [List.getD_eq_getElem?_getD, List.getElem?_eq_getElem hk']; exact List.getElem_mem hk'
        have hpl := R.len _ hmem
        generalize ps.getD k ([], 0) = a at *
        refine ⟨rfl, _, rfl, _, rfl, la, lvs, _, _, rfl, rfl, SqL.of (s3 _ _ hla), at_of rfl hlv, _, rfl, _, _, rfl, rfl, _, rfl, ifD (fun hge => ?_) fun hlt => ?_⟩
        · obtain ⟨xa, xvs, rfl, hxa, alx⟩ := mon_rowL _ _ _ _ s3 hfR
          have lx := alx.length
          refine ⟨_, rfl, _, rfl, fa, fvs, _, _, rfl, rfl, SqL.of (s3 _ _ hfa), at_of rfl hfv, _, rfl, _, rfl, xa, xvs, rfl, SqL.of hxa, fun q1 hq1 => ?_⟩
          rw [cut_drop (by omega)]
          refine kk (decide_eq_true (by omega)) _ _ (same_upd hq1) ?_
          have ha' := same_upd (o := .lst (xvs.drop wd)) hq1 _ _ ha
          refine lst_hide imm_rs ha' trivial ⟨q1, _, rfl, upd_same, (alx.mono mon_rs (same_upd hq1)).drop wd⟩ fun e => ?_
          injection e with e
          rw [e, ha] at hq1; cases hq1
        · exact nn (decide_eq_false (by omega)) _ (Same.refl _)
      · intro H3 ws s3 hD3 alw
        rw [Int.toNat_natCast, lf, range_filter_map ps ([], 0) (fun a => decide (wd ≤ a.2)) (fun a => a.1.drop wd)] at alw
        have alw2 := alw.mono mon_rowL hide_le
        refine q _ _ ((s.trans s2).trans s3) ⟨D, ws, rfl, hD3, ?_⟩
        unfold kerRows
        rw [hps]
        exact alw2
end
end K47

/-! text W10 -/
/-! reduced, kernel, solve -/
namespace K47
open PySem PySem.Spec PyProof.Rows L2
section
variable {P : Program} {w : World} {K : PySem.W.Frag} {mg : Str → Option Value} {base : Heap}
/-! ### reduced -/
def redRows {F : Type} [Fld F] [DecidableEq F] (rows : List (Row F)) (w : Nat) : List (Row F) := (redR rows w).map (·.1)
theorem redRows_len {F : Type} [Fld F] [DecidableEq F] {rows : List (Row F)} {w : Nat} (h : ∀ r ∈ rows, r.length = w) : ∀ r ∈ redRows rows w, r.length = w := fun r hr => by
  obtain ⟨a, ha, e⟩ := List.mem_map.mp hr
  rw [← e]; exact (redR_ok h).len a ha
theorem redRows_cnt {F : Type} [Fld F] [DecidableEq F] {rows : List (Row F)} {w : Nat} (h : ∀ r ∈ rows, r.length = w) : (redRows rows w).length ≤ rows.length := by
  unfold redRows; rw [List.length_map]; exact (redR_ok h).cnt
/-- the pair of reduced -/
def Rdm (K : PySem.W.Frag) {p : Nat} [P23 p] (rows : List (List (Zp p))) (wd : Nat) : Dn := fun v H => ∃ T m t, v = .ref T ∧ H T = some (.tup [m, t]) ∧ Mt K (redRows rows wd) wd m H
def spReduced (K : PySem.W.Frag) : Sp := fun vs H Q _ => ∃ (p : Nat) (hp : P23 p) (m : V) (rows : List (List (Zp p))) (wd : Nat), vs = [m] ∧ Mt K rows wd m H ∧ rows.length ≤ 8 ∧ wd ≤ 64 ∧ (∀ x ∈ rows, x.length = wd) ∧ ∀ z H', Same H H' → Rdm K rows wd z H' → Q z H'
theorem sc_reduced : FnScope ["m", "rows", "pivots"] ["m"] (defScope s_reduced) := ⟨rfl, rfl, rfl, by decide +kernel, rfl, by decide +kernel, by decide +kernel⟩
theorem rows_seq {p : Nat} {rows : List (List (Zp p))} {v : V} {H : Hp} (h : RowsT K rows v H) : SeqOf (SeqOf (Rs K)) rows v H := .inr (h.imp fun _ _ z => .inr z)
theorem rows_seqT {p : Nat} {rows : List (List (Zp p))} {v : V} {H : Hp} (h : RowsT K rows v H) : SeqOf (TupOf (Rs K)) rows v H := .inr h
theorem ok_reduced (T : Tx K mg) : C8.Cal P w K mg base 12 "reduced" (spReduced K) [] := by
  refine cal_mk T.g_reduced T.d_reduced sc_reduced (fun _ _ _ _ _ _ us hl => match us, hl with | [_], _ => rfl) (fun vs H Q E h => ?_) (fun cdv A outer s H vs Q E hr h => ?_)
  · obtain ⟨p, hp, m, rows, wd, rfl, _⟩ := h; rfl
  · obtain ⟨p, hp, m, rows, wd, rfl, ⟨a, dx, g, t, rfl, ha, hg, ht⟩, h8, h64, hlen, q⟩ := h
    have nd := sc_reduced.nd
    refine ⟨_, pss_cons (ps_asg (C8.pe_c (ok_reduce_rows T) hr (by decide) (by rfl) (pa_cons (pe_fld (pv 0) rfl) (pa_cons (pe_fld (pv 0) rfl) pa_nil))) (pg_tup rfl (pgs_cons (pg_name (i := 1) nd rfl (Or.inl rfl)) (pgs_cons (pg_name (i := 2) nd rfl (Or.inl rfl)) pgs_nil))))
      (pss_one (ps_ret (pe_tup (pa_cons (C8.pe_mk (ok_mt_init T) hr (by decide) (by rfl) (pa_cons (pe_fld (pv 0) rfl) (pa_cons (pv 1) (pa_cons (pe_fld (pv 0) rfl) pa_nil)))) (pa_cons (pe_callTy call_tuple_of (by rfl) T.b_tuple boot_tuple (pa_cons (pv 2) pa_nil)) pa_nil))))), ?_⟩
    refine ⟨_, rfl, a, cM K, dx, _, _, rfl, ha, T.c_Matrix, T.n_Matrix_rows, mf_rows _ _ _, _, rfl, a, cM K, dx, _, _, rfl, ha, T.c_Matrix, T.n_Matrix_width, mf_width _ _ _, ?_⟩
    refine ⟨p, hp, t, rows, wd, rfl, rows_seq ht, by omega, by omega, hlen, fun z H1 s1 ⟨tt, f, l, e, htt, hf, hl⟩ => ?_⟩
    subst e
    refine g_pair htt ?_
    refine ⟨_, rfl, a, cM K, dx, _, _, rfl, s1 _ _ ha, T.c_Matrix, T.n_Matrix_ground, mf_ground _ _ _, _, rfl, _, rfl, a, cM K, dx, _, _, rfl, s1 _ _ ha, T.c_Matrix, T.n_Matrix_width, mf_width _ _ _, ?_⟩
    intro x dx' nx nd' _
    have hc := redRows_cnt hlen
    have hl' := redRows_len hlen
    refine mk_mt (mon_gr _ _ _ s1 hg) (inRows_ll (rows := redRows rows wd) hf) (by omega) h64 hl' nx nd' fun H2 s2 hm => ⟨rfl, ?_⟩
    obtain ⟨la, lvs, rfl, hla, all⟩ := hl
    refine ⟨_, rfl, la, lvs, rfl, .inl ⟨SqL.of (s2 _ _ hla), fun q1 hq1 => ⟨two_line, fun q2 hq2 => ?_⟩⟩⟩
    have s3 := same_upd (o := .tup lvs) hq1
    have s4 := same_upd (o := .tup [.ref x, .ref q1]) hq2
    exact q _ _ ((s1.trans s2).trans (s3.trans s4)) ⟨q2, .ref x, .ref q1, rfl, upd_same, mon_mt _ _ _ _ _ (s3.trans s4) hm⟩
/-- len(m) -/
theorem m_len {p : Nat} {rows : List (List (Zp p))} {wd : Nat} {m : V} {H : Hp} {Q : VK} (h : Mt K rows wd m H) (h8 : rows.length ≤ 1000) (q : Q (.int (rows.length : Int)) H) : rLenOwn (cM K) (spMtLen K) C8.E0 [m] H Q := by
  obtain ⟨a, dx, g, t, e, ha, hg, ht⟩ := id h
  subst e
  exact ⟨a, dx, _, rfl, ha, p, _, rows, wd, rfl, h, _, rfl, by omega, by omega, q⟩
/-! ### kernel -/
def kerMat {F : Type} [Fld F] [DecidableEq F] (rows : List (Row F)) (w : Nat) : List (Row F) := redRows (kerRows rows w) rows.length
def spKernel (K : PySem.W.Frag) : Sp := fun vs H Q _ => ∃ (p : Nat) (hp : P23 p) (m : V) (rows : List (List (Zp p))) (wd : Nat), vs = [m] ∧ Mt K rows wd m H ∧ rows.length ≤ 8 ∧ wd ≤ 64 ∧ (∀ x ∈ rows, x.length = wd) ∧ ∀ z H', Same H H' → Mt K (kerMat rows wd) rows.length z H' → Q z H'
theorem sc_kernel : FnScope ["m", "rows"] ["m"] (defScope s_kernel) := ⟨rfl, rfl, rfl, by decide +kernel, rfl, by decide +kernel, by decide +kernel⟩
theorem ok_kernel (T : Tx K mg) : C8.Cal P w K mg base 12 "kernel" (spKernel K) [] := by
  refine cal_mk T.g_kernel T.d_kernel sc_kernel (fun _ _ _ _ _ _ us hl => match us, hl with | [_], _ => rfl) (fun vs H Q E h => ?_) (fun cdv A outer s H vs Q E hr h => ?_)
  · obtain ⟨p, hp, m, rows, wd, rfl, _⟩ := h; rfl
  · obtain ⟨p, hp, m, rows, wd, rfl, hm, h8, h64, hlen, q⟩ := h
    have nd := sc_kernel.nd
    obtain ⟨a, dx, g, t, rfl, ha, hg, ht⟩ := id hm
    refine ⟨_, pss_cons (ps_set (i := 1) nd rfl (Or.inl rfl) (pe_ix ix_tup (C8.pe_c (ok_reduce_rows T) hr (by decide) (by rfl) (pa_cons (C8.pe_c (ok_kernel_rows T) hr (by decide) (by rfl) (pa_cons (pe_fld (pv 0) rfl) (pa_cons (pe_fld (pv 0) rfl) (pa_cons (pe_fld (pv 0) rfl) pa_nil)))) (pa_cons (pe_callB (len_met (ok_mt_len T) hr (by decide)) (by rfl) T.b_len PySem.boot_len (pa_cons (pv 0) pa_nil)) pa_nil))) pe_int (fun _ _ => rfl)))
      (pss_one (ps_ret (C8.pe_mk (ok_mt_init T) hr (by decide) (by rfl) (pa_cons (pe_fld (pv 0) rfl) (pa_cons (pv 1) (pa_cons (pe_callB (len_met (ok_mt_len T) hr (by decide)) (by rfl) T.b_len PySem.boot_len (pa_cons (pv 0) pa_nil)) pa_nil)))))), ?_⟩
    refine ⟨_, rfl, a, cM K, dx, _, _, rfl, ha, T.c_Matrix, T.n_Matrix_ground, mf_ground _ _ _, _, rfl, a, cM K, dx, _, _, rfl, ha, T.c_Matrix, T.n_Matrix_rows, mf_rows _ _ _, _, rfl, a, cM K, dx, _, _, rfl, ha, T.c_Matrix, T.n_Matrix_width, mf_width _ _ _, ?_⟩
    refine ⟨p, hp, g, t, rows, wd, rfl, hg, rows_seqT ht, by omega, by omega, hlen, fun z H1 s1 hz => ?_⟩
    have hkl := kerRows_len hlen
    have hkc := kerRows_cnt hlen
    refine ⟨_, rfl, a, dx, _, rfl, s1 _ _ ha, p, _, rows, wd, rfl, mon_mt _ _ _ _ _ s1 hm, _, rfl, by omega, by omega, ?_⟩
    refine ⟨p, hp, z, kerRows rows wd, rows.length, rfl, .inl (hz.imp fun _ _ y => .inl y), by omega, by omega, hkl, fun z2 H2 s2 ⟨tt, f, l, e, htt, hf, hl⟩ => ?_⟩
    subst e
    have s12 := s1.trans s2
    refine ⟨tt, [f, l], _, f, rfl, rfl, SqT.of htt, at_of (j := 0) rfl rfl, ?_⟩
    refine ⟨_, rfl, a, cM K, dx, _, _, rfl, s12 _ _ ha, T.c_Matrix, T.n_Matrix_ground, mf_ground _ _ _, _, rfl, _, rfl, a, dx, _, rfl, s12 _ _ ha, p, _, rows, wd, rfl, mon_mt _ _ _ _ _ s12 hm, _, rfl, by omega, by omega, ?_⟩
    intro x dx' nx nd' _
    have hc := redRows_cnt hkl
    exact mk_mt (mon_gr _ _ _ s12 hg) (inRows_ll (rows := kerMat rows wd) hf) (by show (redRows _ _).length ≤ 8; omega) (by omega) (redRows_len hkl) nx nd' fun H3 s3 hm3 => ⟨rfl, q _ _ (s12.trans s3) hm3⟩
/-! ### solve -/
def solved {F : Type} [Fld F] [DecidableEq F] (rows : List (Row F)) (row : Row F) (wd : Nat) : Prop := ∃ r ∈ kerRows (rows ++ [row.map fun x => -x]) wd, tl r rows.length ≠ 0
def spSolve (K : PySem.W.Frag) : Sp := fun vs H Q _ => ∃ (p : Nat) (hp : P23 p) (m r : V) (rows : List (List (Zp p))) (row : List (Zp p)) (wd : Nat), vs = [m, r] ∧ Mt K rows wd m H ∧ RowT K row r H ∧ rows.length ≤ 8 ∧ wd ≤ 64 ∧ (∀ x ∈ rows, x.length = wd) ∧ row.length = wd ∧
  ∀ z H', Same H H' → (z = .non ∧ ¬ solved rows row wd ∨ (∃ a, z = .ref a) ∧ solved rows row wd) → Q z H'
theorem sc_solve : FnScope ["m", "w", "rows", "row", "x"] ["m", "w"] (defScope s_solve) := ⟨rfl, rfl, rfl, by decide +kernel, rfl, by decide +kernel, by decide +kernel⟩
theorem atI_end {xs : List V} {n : Nat} {v : V} (h : xs[n]? = some v) (hl : xs.length = n + 1) : atI xs (-1) = some v := by
  have e : xs = xs.take n ++ [v] := by
    have := take_snoc h
    rw [List.take_of_length_le (by omega)] at this
    exact this
  rw [e]; exact atI_last _ _
theorem al_cut {α : Type} {R : α → Dn} {H : Hp} {xs : List α} {vs : List V} (al : Al R H xs vs) (lo hi : Option Int) : ∃ ys : List α, Al R H ys (cutV vs lo hi) ∧ ys.length ≤ xs.length :=
  ⟨_, (al.drop _).take _, by rw [List.length_take, List.length_drop]; omega⟩
abbrev N_sol : List Str := ["m", "w", "rows", "row", "x"]
def overE (K : PySem.W.Frag) : TE := tMeth (cR K) "over" (spRsOver K) [] C8.E0 (tVar 4) (tCons (tOp (rIxL K) (tVar 3) (tUn (rU fun i => .int (-i)) (tC (.int 1)))) tNil)
theorem ok_solve (T : Tx K mg) : C8.Cal P w K mg base 9 "solve" (spSolve K) [] := by
  refine cal_mk T.g_solve T.d_solve sc_solve (fun _ _ _ _ _ _ us hl => match us, hl with | [_, _], _ => rfl) (fun vs H Q E h => ?_) (fun cdv A outer s H vs Q E hr h => ?_)
  · obtain ⟨p, hp, m, r, rows, row, wd, rfl, _⟩ := h; rfl
  · obtain ⟨p, hp, m, r, rows, row, wd, rfl, hm, hrow, h8, h64, hlen, hrl, q⟩ := h
    have nd := sc_solve.nd
    obtain ⟨a, dx, g, t, rfl, ha, hg, ht⟩ := id hm
    obtain ⟨ra, rvs, rfl, hra, alr⟩ := id hrow
    obtain ⟨ta, tvs, rfl, hta, alt⟩ := id ht
    refine ⟨_, pss_cons (ps_if (pt_cmp (pc_neI (pe_callB call_len_seq (by rfl) T.b_len PySem.boot_len (pa_cons (pv 1) pa_nil)) (pe_fld (pv 0) rfl))) (pss_one ps_never) pss_nil)
      (pss_cons (ps_set (i := 2) nd rfl (Or.inl rfl) (pe_op op_cat (pe_callTy call_lstOf (by rfl) T.b_list boot_list (pa_cons (pe_fld (pv 0) rfl) pa_nil))
        (pe_lst (pa_cons (pe_callTy call_tuple_of (by rfl) T.b_tuple boot_tuple (pa_cons
          (pe_lc (own := [("x", 4)]) (g := gName 4) (tt := tYes) (te := tUn (rNegOwn (cR K) (spRsNeg K) C8.E0) (tVar 4)) rfl nd (pi_tup (pv 1)) (blkOk_by (N := N_sol) (sc := defScope s_solve) (by decide +kernel)) (fun _ _ _ _ _ => pg_name (i := 4) nd rfl (Or.inl rfl)) (fun _ _ _ _ _ => pts_nil)
            (fun _ _ _ _ _ => pe_un (neg_met (ok_rs_neg T) hr (by decide)) (pv 4))) pa_nil)) pa_nil))))
      (pss_cons (ps_for PassesOwn.never rfl (pi_list (C8.pe_c (ok_kernel_rows T) hr (by decide) (by rfl) (pa_cons (pe_fld (pv 0) rfl) (pa_cons (pv 2) (pa_cons (pe_fld (pv 0) rfl) pa_nil))))) (pg_name (i := 3) nd rfl (Or.inr rfl))
        (pss_one (ps_if (pt_not (pt_val (C8.pe_mt0 (ok_rs_zero T) hr (by decide) (pe_ix ix_list (pv 3) (pe_un un_neg pe_int) (fun _ _ => rfl)))))
          (pss_one (ps_ret (pe_callTy call_tuple_of (by rfl) T.b_tuple boot_tuple (pa_cons
            (pe_lc (own := [("x", 4)]) (g := gName 4) (tt := tYes) (te := overE K) rfl nd (pi_list (pe_slice sl_list (pv 3) po_none (po_some (pe_un un_neg pe_int)))) (blkOk_by (N := N_sol) (sc := defScope s_solve) (by decide +kernel)) (fun _ _ _ _ _ => pg_name (i := 4) nd rfl (Or.inl rfl)) (fun _ _ _ _ _ => pts_nil)
              (fun _ _ _ _ _ => C8.pe_mt (ok_rs_over T) hr (by decide) (pv 4) (pa_cons (pe_ix ix_list (pv 3) (pe_un un_neg pe_int) (fun _ _ => rfl)) pa_nil))) pa_nil)))) pss_nil)))
      (pss_one (ps_ret pe_non)))), ?_⟩
    have e : (rvs.length : Int) = (wd : Int) := by rw [alr.length, hrl]
    refine ⟨_, rfl, ra, rvs, rfl, .inr (SqT.of hra), _, rfl, a, cM K, dx, _, _, rfl, ha, T.c_Matrix, T.n_Matrix_width, mf_width _ _ _, _, _, rfl, rfl, _, rfl, ifNF e ?_⟩
    refine ⟨_, rfl, a, cM K, dx, _, _, rfl, ha, T.c_Matrix, T.n_Matrix_rows, mf_rows _ _ _, ta, tvs, rfl, .inr (SqT.of hta), fun l1 hl1 => ?_⟩
    have s1 : Same H (upd H l1 (.lst tvs)) := same_upd hl1
    have hl1' : upd H l1 (.lst tvs) l1 = some (.lst tvs) := upd_same
    generalize e1 : upd H l1 (.lst tvs) = H1 at *
    refine ⟨_, rfl, lc_tup (f := fun x : Zp p => -x) (R := fun x : Zp p => Rs K x) (mon_rowT _ _ _ _ s1 hrow) ⟨mon_rs, mon_rs, by omega, ?_, ?_⟩⟩
    · rintro D i x z H2 hD hx s2 ⟨acc, hacc⟩ _ hz Kk kk
      exact ⟨rfl, _, rfl, neg_rs hz fun y H3 s3 hy => kk y H3 s3 (imm_rs _ _ _ _ _ (s3 _ _ hacc) trivial hy)⟩
    intro D H2 us hD s2 hH2 alu
    refine ⟨D, us, rfl, .inl ⟨SqL.of hH2, fun t1 ht1 => ?_⟩⟩
    have s3 : Same H2 (upd H2 t1 (.tup us)) := same_upd ht1
    have ht1' : upd H2 t1 (.tup us) t1 = some (.tup us) := upd_same
    generalize e3 : upd H2 t1 (.tup us) = H3 at *
    refine ⟨(by show 1 ≤ sizeLine; decide), fun l2 hl2 => ?_⟩
    have s4 : Same H3 (upd H3 l2 (.lst [.ref t1])) := same_upd hl2
    have ltv := alt.length
    refine ⟨l1, l2, _, _, rfl, rfl, s4 _ _ (s3 _ _ (s2 _ _ hl1')), upd_same, Nat.le_of_lt (small1000 (by rw [List.length_singleton]; omega)), fun l3 hl3 => ?_⟩
    generalize e4 : upd H3 l2 (.lst [.ref t1]) = H4 at *
    have s5 : Same H4 (upd H4 l3 (.lst (tvs ++ [.ref t1]))) := same_upd hl3
    have hl3' : upd H4 l3 (.lst (tvs ++ [.ref t1])) l3 = some (.lst (tvs ++ [.ref t1])) := upd_same
    generalize e5 : upd H4 l3 (.lst (tvs ++ [.ref t1])) = H5 at *
    have s25 := (s3.trans s4).trans s5
    have s05 := (s1.trans s2).trans s25
    have hrows : LstOf (TupOf (Rs K)) (rows ++ [row.map fun x => -x]) (.ref l3) H5 := ⟨l3, _, rfl, hl3', (alt.mono mon_rowT s05).snoc ⟨t1, us, rfl, (s4.trans s5) _ _ ht1', alu.mono mon_rs (hide_le.trans s25)⟩⟩
    have hlen' : ∀ x ∈ rows ++ [row.map fun x => -x], x.length = wd := fun x hx => by
      rcases List.mem_append.mp hx with h | h
      · exact hlen x h
      · rw [List.mem_singleton.mp h, List.length_map, hrl]
    have hll : (rows ++ [row.map fun x => -x]).length = rows.length + 1 := by simp
    refine ⟨_, rfl, a, cM K, dx, _, _, rfl, s05 _ _ ha, T.c_Matrix, T.n_Matrix_ground, mf_ground _ _ _, _, rfl, _, rfl, a, cM K, dx, _, _, rfl, s05 _ _ ha, T.c_Matrix, T.n_Matrix_width, mf_width _ _ _, ?_⟩
    refine ⟨p, hp, g, .ref l3, _, wd, rfl, mon_gr _ _ _ s05 hg, .inl hrows, by omega, by omega, hlen', fun z H6 s6 hz => ?_⟩
    have hkl := kerRows_len hlen'
    have hkc := kerRows_cnt hlen'
    rw [hll] at hkl hkc
    have s06 := s05.trans s6
    obtain ⟨za, zvs, rfl, hza, alz⟩ := hz
    have lz := alz.length
    refine ⟨za, rfl, ⟨_, SqL.of hza⟩, ?_⟩
    refine for_it (walk_list (xs := zvs)) (fun i σ H' => ∃ v3, σ = [some (.ref a), some (.ref ra), some (.ref l3), v3, none] ∧ Same H6 H' ∧ ∀ r ∈ (kerRows (rows ++ [row.map fun x => -x]) wd).take i, tl r rows.length = 0)
      ⟨none, rfl, Same.refl _, fun r hr => by rw [List.take_zero] at hr; cases hr⟩ (fun i σ H' _ ⟨_, _, s, _⟩ => SqL.of (s _ _ hza)) ?_ ?_
    · rintro i x σ H' _ hi ⟨v3, rfl, s, hi0⟩ ⟨rfl, hx⟩
      obtain ⟨kr, hkr, hR⟩ := alz.get' hx
      obtain ⟨xa, xvs, rfl, hxa, alx⟩ := mon_rowL _ _ _ _ s hR
      have hkm : kr ∈ kerRows (rows ++ [row.map fun x => -x]) wd := List.mem_of_getElem? hkr
      have lk := hkl kr hkm
      have lx := alx.length
      obtain ⟨fv, hfv, hfR⟩ := al_at alx (i := rows.length) (by omega) 0
      refine ⟨_, rfl, _, rfl, xa, xvs, _, fv, rfl, rfl, SqL.of hxa, atI_end hfv (by omega), m_zero hfR ⟨_, rfl, ifND (fun hne => ?_) fun he => ?_⟩⟩
      · refine ⟨_, rfl, _, rfl, _, rfl, xa, xvs, rfl, SqL.of hxa, fun q1 hq1 => ?_⟩
        have s7 : Same _ (upd _ q1 (.lst (cutV xvs none (some (-1))))) := same_upd hq1
        obtain ⟨ys, aly, hly⟩ := al_cut alx none (some (-1))
        have hys : LstOf (Rs K) ys (.ref q1) (upd _ q1 (.lst (cutV xvs none (some (-1))))) := ⟨q1, _, rfl, upd_same, aly.mono mon_rs s7⟩
        refine lc_lst (f := fun x : Zp p => gOver p x (tl kr rows.length)) (R := fun x : Zp p => Rs K x) hys ⟨mon_rs, mon_rs, by omega, ?_, ?_⟩
        · rintro D2 i2 x z H7 hD2 hx2 s8 ⟨acc, hacc⟩ _ hz2 Kk kk
          obtain ⟨ua, ud, rfl, hu⟩ := id hz2
          have s78 := s7.trans s8
          refine ⟨rfl, _, rfl, ua, ud, _, rfl, hu, no_over _ _, _, rfl, _, rfl, xa, xvs, _, fv, rfl, rfl, SqL.of (s78 _ _ hxa), atI_end hfv (by omega), p, hp, _, _, _, _, rfl, hz2, mon_rs _ _ _ _ s78 hfR, hne, fun y H8 s9 hy => kk y H8 s9 (imm_rs _ _ _ _ _ (s9 _ _ hacc) trivial hy)⟩
        · intro D2 H7 us7 hD2 s8 hH7 al7
          refine ⟨D2, us7, rfl, .inl ⟨SqL.of hH7, fun t2 ht2 => ?_⟩⟩
          exact q _ _ (((s06.trans s).trans (s7.trans s8)).trans (same_upd ht2)) (.inr ⟨⟨t2, rfl⟩, kr, hkm, hne⟩)
      · refine ⟨some (.ref xa), rfl, s, fun r hr => ?_⟩
        rw [take_snoc hkr] at hr
        rcases List.mem_append.mp hr with h | h
        · exact hi0 r h
        · rw [List.mem_singleton.mp h]; exact he
    · rintro σ H' ⟨v3, rfl, s, h0⟩
      rw [List.take_of_length_le (by omega)] at h0
      exact q _ _ (s06.trans s) (.inl ⟨rfl, fun ⟨r, hr, hn⟩ => hn (h0 r hr)⟩)
end
end K47

/-! text W11 -/
/-! Krylov rows; the spaces -/
namespace K47
open PySem PySem.Spec PyProof.Rows L2
section
variable {F : Type} [Fld F] [DecidableEq F]
def kpow (A : List (Row F)) (n : Nat) (v : Row F) : Nat → Row F
  | 0 => v
  | k + 1 => rowTimes (kpow A n v k) A n
def krows (A : List (Row F)) (n : Nat) (v : Row F) (k : Nat) : List (Row F) := (List.range k).map (kpow A n v)
theorem kpow_len {A : List (Row F)} {n : Nat} {v : Row F} (hv : v.length = n) (hA : ∀ r ∈ A, r.length = n) : ∀ k, (kpow A n v k).length = n
  | 0 => hv
  | k + 1 => rowTimes_len hA
theorem krows_len {A : List (Row F)} {n : Nat} {v : Row F} {k : Nat} (hv : v.length = n) (hA : ∀ r ∈ A, r.length = n) : ∀ r ∈ krows A n v k, r.length = n := fun r hr => by
  obtain ⟨i, _, e⟩ := List.mem_map.mp hr
  rw [← e]; exact kpow_len hv hA i
theorem krows_cnt {A : List (Row F)} {n : Nat} {v : Row F} {k : Nat} : (krows A n v k).length = k := by simp [krows]
theorem krows_succ {A : List (Row F)} {n : Nat} {v : Row F} {k : Nat} : krows A n v (k + 1) = krows A n v k ++ [kpow A n v k] := by
  unfold krows; rw [List.range_succ, List.map_append]; rfl
/-- where the loop of krylov_rows ends -/
def KStop (A : List (Row F)) (n : Nat) (v : Row F) (m : Nat) : Prop := m ≤ 8 ∧ (∀ k, k < m → ¬ solved (krows A n v k) (kpow A n v k) n) ∧ solved (krows A n v m) (kpow A n v m) n
end
section
variable {P : Program} {w : World} {K : PySem.W.Frag} {mg : Str → Option Value} {base : Heap}
/-! ### own_row -/
def spOwnRow (K : PySem.W.Frag) : Sp := fun vs H Q _ => ∃ (p : Nat) (hp : P23 p) (m v : V) (rows : List (List (Zp p))) (row : List (Zp p)), vs = [m, v] ∧ Mt K rows rows.length m H ∧ RowT K row v H ∧ row.length = rows.length ∧ ∀ H', Same H H' → Q v H'
theorem sc_own_row : FnScope ["a", "v", "x"] ["a", "v"] (defScope s_own_row) := ⟨rfl, rfl, rfl, by decide +kernel, rfl, by decide +kernel, by decide +kernel⟩
theorem ok_own_row (T : Tx K mg) : C8.Cal P w K mg base 2 "own_row" (spOwnRow K) [] := by
  refine cal_mk T.g_own_row T.d_own_row sc_own_row (fun _ _ _ _ _ _ us hl => match us, hl with | [_, _], _ => rfl) (fun vs H Q E h => ?_) (fun cdv A outer s H vs Q E hr h => ?_)
  · obtain ⟨p, hp, m, v, rows, row, rfl, _⟩ := h; rfl
  · obtain ⟨p, hp, m, v, rows, row, rfl, hm, hv, hl, q⟩ := h
    have nd := sc_own_row.nd
    obtain ⟨a, dx, g, t, rfl, ha, hg, ht⟩ := id hm
    refine ⟨_, pss_cons (ps_expr (C8.pe_c (ok_check_square T) hr (by decide) (by rfl) (pa_cons (pv 0) pa_nil)))
      (pss_cons (ps_if (PW.pt (pw_or (pt_not (pt_val (pe_isSeq (i := 1) T))) (pw_or1 (pt_cmp (pc_neI (pe_callB call_len_seq (by rfl) T.b_len PySem.boot_len (pa_cons (pv 1) pa_nil)) (pe_fld (pv 0) rfl)))))) (pss_one ps_never) pss_nil)
      (pss_cons (ps_for PassesOwn.never rfl (pi_tup (pv 1)) (pg_name (i := 2) nd rfl (Or.inl rfl))
        (pss_one (ps_if (pt_not (pt_val (C8.pe_mt (ok_gr_member T) hr (by decide) (pe_fld (pv 0) rfl) (pa_cons (pv 2) pa_nil)))) (pss_one ps_never) pss_nil)))
      (pss_one (ps_ret (pe_callTy call_tuple_of (by rfl) T.b_tuple boot_tuple (pa_cons (pv 1) pa_nil)))))), ?_⟩
    have hsq : IsSq v H := SeqOf.sq (R := Rs K) (xs := row) (.inr hv)
    refine ⟨_, rfl, p, _, rows, rfl, hm, _, rfl, hsq, fun H1 s1 => ⟨true, rfl, iteF ?_⟩⟩
    obtain ⟨va, vvs, rfl, hva, alv⟩ := mon_rowT _ _ _ _ s1 hv
    obtain ⟨ga, gd, rfl, hga⟩ := mon_gr _ _ _ s1 hg
    have ha1 := s1 _ _ ha
    have e : (vvs.length : Int) = (rows.length : Int) := by rw [alv.length, hl]
    refine ⟨_, rfl, va, vvs, rfl, .inr (SqT.of hva), _, rfl, a, cM K, dx, _, _, rfl, ha1, T.c_Matrix, T.n_Matrix_width, mf_width _ _ _, _, _, rfl, rfl, _, rfl, ifNF e ?_⟩
    refine ⟨_, rfl, va, rfl, ⟨_, SqT.of hva⟩, ?_⟩
    refine for_it (walk_tup (xs := vvs)) (fun i σ H' => ∃ v2, σ = [some (.ref a), some (.ref va), v2] ∧ H' = H1) ⟨none, rfl, rfl⟩ (fun i σ H' _ ⟨_, _, e⟩ => by rw [e]; exact SqT.of hva) ?_ ?_
    · rintro i x σ H' _ hi ⟨v2, rfl, rfl⟩ ⟨rfl, hx⟩
      obtain ⟨n, hn, hR⟩ := alv.get' hx
      exact ⟨_, rfl, a, cM K, dx, _, _, rfl, ha1, T.c_Matrix, T.n_Matrix_ground, mf_ground _ _ _, ga, gd, _, rfl, hga, no_member _, _, rfl, p, hp, _, x, n, rfl, ⟨ga, gd, rfl, hga⟩, hR, true, rfl, iteF ⟨some x, rfl, rfl⟩⟩
    · rintro σ H' ⟨v2, rfl, rfl⟩
      exact ⟨_, rfl, va, vvs, rfl, .inr ⟨SqT.of hva, q _ s1⟩⟩
/-! ### krylov_rows -/
def Kr (K : PySem.W.Frag) {p : Nat} (rows : List (List (Zp p))) : Dn := fun v H => ∃ T l r, v = .ref T ∧ H T = some (.tup [l, r]) ∧ LstOf (RowT K) rows l H
def spKryRows (K : PySem.W.Frag) : Sp := fun vs H Q _ => ∃ (p : Nat) (hp : P23 p) (m v : V) (A : List (List (Zp p))) (b : List (Zp p)) (k : Nat), vs = [m, v] ∧ Mt K A A.length m H ∧ RowT K b v H ∧ b.length = A.length ∧ A.length ≤ 8 ∧ (∀ x ∈ A, x.length = A.length) ∧ KStop A A.length b k ∧
  ∀ z H', Same H H' → Kr K (krows A A.length b k) z H' → Q z H'
theorem sc_krylov_rows : FnScope ["a", "v", "rows", "row"] ["a", "v"] (defScope s_krylov_rows) := ⟨rfl, rfl, rfl, by decide +kernel, rfl, by decide +kernel, by decide +kernel⟩
theorem no_before (g t : V) (w : Int) : (mf g t w).lookup ("before" : Str) = none := by kernel_rfl
theorem no_transposed (g t : V) (w : Int) : (mf g t w).lookup ("transposed" : Str) = none := by kernel_rfl
theorem no_size (a b c : V) : (pf a b c).lookup ("size" : Str) = none := by kernel_rfl
theorem ok_krylov_rows (T : Tx K mg) : C8.Cal P w K mg base 12 "krylov_rows" (spKryRows K) [] := by
  refine cal_mk T.g_krylov_rows T.d_krylov_rows sc_krylov_rows (fun _ _ _ _ _ _ us hl => match us, hl with | [_, _], _ => rfl) (fun vs H Q E h => ?_) (fun cdv A outer s H vs Q E hr h => ?_)
  · obtain ⟨p, hp, m, v, MA, b, k, rfl, _⟩ := h; rfl
  · obtain ⟨p, hp, m, v, MA, b, n, rfl, hm, hv, hl, h8, hA, ⟨hn8, hns, hst⟩, q⟩ := h
    have nd := sc_krylov_rows.nd
    obtain ⟨a, dx, g, t, rfl, ha, hg, ht⟩ := id hm
    refine ⟨_, pss_cons (ps_set (i := 2) nd rfl (Or.inl rfl) (pe_lst pa_nil))
      (pss_cons (ps_set (i := 3) nd rfl (Or.inl rfl) (pv 1))
      (pss_cons (ps_while PassesOwn.never (pt_cmp (pc_isN (C8.pe_c (ok_solve T) hr (by decide) (by rfl) (pa_cons (C8.pe_mk (ok_mt_init T) hr (by decide) (by rfl) (pa_cons (pe_fld (pv 0) rfl) (pa_cons (pv 2) (pa_cons (pe_fld (pv 0) rfl) pa_nil)))) (pa_cons (pv 3) pa_nil)))))
        (pss_cons (ps_set (i := 2) nd rfl (Or.inl rfl) (pe_op op_cat (pv 2) (pe_lst (pa_cons (pv 3) pa_nil))))
        (pss_one (ps_set (i := 3) nd rfl (Or.inl rfl) (C8.pe_mt (ok_mt_before T) hr (by decide) (pv 0) (pa_cons (pv 3) pa_nil))))))
      (pss_one (ps_ret (pe_tup (pa_cons (pv 2) (pa_cons (pv 3) pa_nil))))))), ?_⟩
    refine ⟨Nat.zero_le _, fun l hl0 => ⟨_, rfl, ?_⟩⟩
    have s1 : Same H (upd H l (.lst [])) := same_upd hl0
    refine ⟨fun mm σ H' => ∃ (j : Nat) (lv rv : V), j + mm = n ∧ σ = [some (.ref a), some v, some lv, some rv] ∧ Same H H' ∧ LstOf (RowT K) (krows MA MA.length b j) lv H' ∧ RowT K (kpow MA MA.length b j) rv H', ⟨n, 0, .ref l, v, by omega, rfl, s1, ⟨l, [], rfl, upd_same, .nil⟩, mon_rowT _ _ _ _ s1 hv⟩, ?_⟩
    rintro mm σ H' ⟨j, lv, rv, hj, rfl, s, hlv, hrv⟩
    refine ⟨_, rfl, a, cM K, dx, _, _, rfl, s _ _ ha, T.c_Matrix, T.n_Matrix_ground, mf_ground _ _ _, _, rfl, _, rfl, a, cM K, dx, _, _, rfl, s _ _ ha, T.c_Matrix, T.n_Matrix_width, mf_width _ _ _, ?_⟩
    intro x dx' nx nd' _
    have hkl := krows_len (k := j) hl hA
    have hpl := kpow_len hl hA j
    have hkc : (krows MA MA.length b j).length = j := krows_cnt
    refine mk_mt (mon_gr _ _ _ s hg) (inRows_lt hlv) (by omega) (by omega) hkl nx nd' fun H1 s1' hm1 => ⟨rfl, ?_⟩
    refine ⟨_, rfl, p, hp, .ref x, rv, _, _, _, rfl, hm1, mon_rowT _ _ _ _ s1' hrv, by omega, by omega, hkl, hpl, fun z H2 s2 hz => ⟨_, rfl, ?_⟩⟩
    have s12 := s1'.trans s2
    by_cases hjn : j < n
    · have hz : z = .non := by
        rcases hz with ⟨e, _⟩ | ⟨_, h⟩
        · exact e
        · exact (hns j hjn h).elim
      refine ifT hz ⟨fun σ' H' => ∃ (lv rv : V), σ' = [some (.ref a), some v, some lv, some rv] ∧ Same H H' ∧ LstOf (RowT K) (krows MA MA.length b (j + 1)) lv H' ∧ RowT K (kpow MA MA.length b (j + 1)) rv H', fun σ' H' ⟨lv, rv, h1, h2, h3, h4⟩ => ⟨mm - 1, by omega, j + 1, lv, rv, by omega, h1, h2, h3, h4⟩, ?_⟩
      obtain ⟨la, lvs, rfl, hla, all⟩ := hlv
      have ll := all.length
      refine ⟨_, rfl, _, rfl, (by show 1 ≤ sizeLine; decide), fun l1 hl1 => ?_⟩
      have s3 : Same H2 (upd H2 l1 (.lst [rv])) := same_upd hl1
      refine ⟨la, l1, _, _, rfl, rfl, s3 _ _ (s12 _ _ hla), upd_same, Nat.le_of_lt (small1000 (by rw [List.length_singleton]; omega)), fun l2 hl2 => ?_⟩
      have s4 := same_upd (o := .lst (lvs ++ [rv])) hl2
      have s14 := s12.trans (s3.trans s4)
      have sH := s.trans s14
      refine ⟨_, rfl, a, dx, _, rfl, sH _ _ ha, no_before _ _ _, _, rfl, p, hp, .ref a, rv, MA, _, _, rfl, mon_mt _ _ _ _ _ sH hm, mon_rowT _ _ _ _ s14 hrv, hpl, by omega, by omega, hA, fun z2 H3 s5 hz2 => ?_⟩
      refine ⟨.ref l2, z2, rfl, sH.trans s5, ?_, hz2⟩
      rw [krows_succ]
      exact ⟨l2, _, rfl, s5 _ _ upd_same, (all.mono mon_rowT (s14.trans s5)).snoc (mon_rowT _ _ _ _ (s14.trans s5) hrv)⟩
    · have hjn : j = n := by omega
      subst hjn
      have hz : ¬ z = .non := by
        rcases hz with ⟨_, h⟩ | ⟨⟨a, e⟩, _⟩
        · exact (h hst).elim
        · rw [e]; intro h; cases h
      refine ifF hz ⟨_, rfl, _, rfl, two_line, fun t1 ht1 => ?_⟩
      have s3 := same_upd (o := .tup [lv, rv]) ht1
      exact q _ _ ((s.trans s12).trans s3) ⟨t1, lv, rv, rfl, upd_same, mon_lst mon_rowT _ _ _ _ (s12.trans s3) hlv⟩
end
end K47

/-! text W12 -/
/-! krylov; the spaces -/
namespace K47
open PySem PySem.Spec PyProof.Rows L2
section
variable {F : Type} [Fld F] [DecidableEq F]
def ownMat (A : List (Row F)) (n : Nat) (b : Row F) (m : Nat) : List (Row F) := redRows (krows A n b m) n
def obsCols (A : List (Row F)) (n : Nat) (c : Row F) : List (Row F) := krows (transp A n) n c n
def darkMat (A : List (Row F)) (n : Nat) (c : Row F) : List (Row F) := kerMat (transp (obsCols A n c) n) n
def sumCnt (A : List (Row F)) (n : Nat) (b c : Row F) (m : Nat) : Nat := (redR (ownMat A n b m ++ darkMat A n c) n).length
theorem ownMat_len {A : List (Row F)} {n : Nat} {b : Row F} {m : Nat} (hb : b.length = n) (hA : ∀ r ∈ A, r.length = n) : ∀ r ∈ ownMat A n b m, r.length = n := redRows_len (krows_len hb hA)
theorem ownMat_cnt {A : List (Row F)} {n : Nat} {b : Row F} {m : Nat} (hb : b.length = n) (hA : ∀ r ∈ A, r.length = n) : (ownMat A n b m).length ≤ m := by
  have := redRows_cnt (krows_len (k := m) hb hA)
  rw [krows_cnt] at this; exact this
theorem obs_len {A : List (Row F)} {n : Nat} {c : Row F} (hc : c.length = n) (hn : A.length = n) : ∀ r ∈ obsCols A n c, r.length = n := krows_len hc fun r hr => by rw [transp_row r hr, hn]
theorem obsT_row {A : List (Row F)} {n : Nat} {c : Row F} : ∀ r ∈ transp (obsCols A n c) n, r.length = n := fun r hr => by rw [transp_row r hr]; exact krows_cnt
theorem darkMat_len {A : List (Row F)} {n : Nat} {c : Row F} : ∀ r ∈ darkMat A n c, r.length = n := fun r hr => by
  have h := redRows_len (kerRows_len (obsT_row (A := A) (n := n) (c := c))) r hr
  rw [transp_len] at h; exact h
theorem darkMat_cnt {A : List (Row F)} {n : Nat} {c : Row F} : (darkMat A n c).length ≤ n := by
  have h1 := redRows_cnt (kerRows_len (obsT_row (A := A) (n := n) (c := c)))
  have h2 := kerRows_cnt (obsT_row (A := A) (n := n) (c := c))
  rw [transp_len] at h2
  unfold darkMat kerMat
  omega
end
section
variable {P : Program} {w : World} {K : PySem.W.Frag} {mg : Str → Option Value} {base : Heap}
/-- a plant of size n -/
structure PlOk {p : Nat} (n : Nat) (A : List (List (Zp p))) (b c : List (Zp p)) : Prop where
  hn : A.length = n
  hA : ∀ x ∈ A, x.length = n
  hb : b.length = n
  hc : c.length = n
  h8 : n ≤ 8
/-! ### krylov -/
def spKrylov (K : PySem.W.Frag) : Sp := fun vs H Q _ => ∃ (p : Nat) (hp : P23 p) (m v : V) (A : List (List (Zp p))) (b : List (Zp p)) (k : Nat), vs = [m, v] ∧ Mt K A A.length m H ∧ RowT K b v H ∧ b.length = A.length ∧ A.length ≤ 8 ∧ (∀ x ∈ A, x.length = A.length) ∧ KStop A A.length b k ∧
  ∀ z H', Same H H' → Mt K (krows A A.length b k) A.length z H' → Q z H'
theorem sc_krylov : FnScope ["a", "v"] ["a", "v"] (defScope s_krylov) := ⟨rfl, rfl, rfl, by decide +kernel, rfl, by decide +kernel, by decide +kernel⟩
theorem ok_krylov (T : Tx K mg) : C8.Cal P w K mg base 13 "krylov" (spKrylov K) [] := by
  refine cal_mk T.g_krylov T.d_krylov sc_krylov (fun _ _ _ _ _ _ us hl => match us, hl with | [_, _], _ => rfl) (fun vs H Q E h => ?_) (fun cdv A outer s H vs Q E hr h => ?_)
  · obtain ⟨p, hp, m, v, MA, b, k, rfl, _⟩ := h; rfl
  · obtain ⟨p, hp, m, v, MA, b, n, rfl, hm, hv, hl, h8, hA, hst, q⟩ := h
    have nd := sc_krylov.nd
    obtain ⟨a, dx, g, t, rfl, ha, hg, ht⟩ := id hm
    refine ⟨_, pss_one (ps_ret (C8.pe_mk (ok_mt_init T) hr (by decide) (by rfl) (pa_cons (pe_fld (pv 0) rfl) (pa_cons (pe_ix ix_tup (C8.pe_c (ok_krylov_rows T) hr (by decide) (by rfl) (pa_cons (pv 0) (pa_cons (C8.pe_c (ok_own_row T) hr (by decide) (by rfl) (pa_cons (pv 0) (pa_cons (pv 1) pa_nil))) pa_nil))) pe_int (fun _ _ => rfl)) (pa_cons (pe_fld (pv 0) rfl) pa_nil))))), ?_⟩
    refine ⟨_, rfl, a, cM K, dx, _, _, rfl, ha, T.c_Matrix, T.n_Matrix_ground, mf_ground _ _ _, _, rfl, _, rfl, _, rfl, p, hp, .ref a, v, MA, b, rfl, hm, hv, hl, fun H1 s1 => ?_⟩
    refine ⟨p, hp, .ref a, v, MA, b, n, rfl, mon_mt _ _ _ _ _ s1 hm, mon_rowT _ _ _ _ s1 hv, hl, h8, hA, hst, fun z H2 s2 ⟨tt, l, r, e, htt, hl2⟩ => ?_⟩
    subst e
    have s12 := s1.trans s2
    refine ⟨tt, [l, r], _, l, rfl, rfl, SqT.of htt, at_of (j := 0) rfl rfl, _, rfl, a, cM K, dx, _, _, rfl, s12 _ _ ha, T.c_Matrix, T.n_Matrix_width, mf_width _ _ _, ?_⟩
    intro x dx' nx nd' _
    have hk8 := hst.1
    have hkc : (krows MA MA.length b n).length = n := krows_cnt
    exact mk_mt (mon_gr _ _ _ s12 hg) (inRows_lt hl2) (by omega) (by omega) (krows_len hl hA) nx nd' fun H3 s3 hm3 => ⟨rfl, q _ _ (s12.trans s3) hm3⟩
/-! ### reachable_space -/
def spReach (K : PySem.W.Frag) : Sp := fun vs H Q _ => ∃ (p : Nat) (hp : P23 p) (m : V) (n : Nat) (A : List (List (Zp p))) (b c : List (Zp p)) (k : Nat), vs = [m] ∧ Pl K n A b c m H ∧ PlOk n A b c ∧ KStop A n b k ∧
  ∀ z H', Same H H' → Mt K (ownMat A n b k) n z H' → Q z H'
theorem sc_reach : FnScope ["plant"] ["plant"] (defScope s_reachable_space) := ⟨rfl, rfl, rfl, by decide +kernel, rfl, by decide +kernel, by decide +kernel⟩
theorem ok_reach (T : Tx K mg) : C8.Cal P w K mg base 14 "reachable_space" (spReach K) [] := by
  refine cal_mk T.g_reachable_space T.d_reachable_space sc_reach (fun _ _ _ _ _ _ us hl => match us, hl with | [_], _ => rfl) (fun vs H Q E h => ?_) (fun cdv A outer s H vs Q E hr h => ?_)
  · obtain ⟨p, hp, m, n, MA, b, c, k, rfl, _⟩ := h; rfl
  · obtain ⟨p, hp, m, n, MA, b, c, k, rfl, ⟨x, dx, vm, vb, vc, rfl, hx, hm, hb, hc⟩, ok, hst, q⟩ := h
    obtain ⟨hn, hA, lb, lc, h8⟩ := ok
    refine ⟨_, pss_one (ps_ret (pe_ix ix_tup (C8.pe_c (ok_reduced T) hr (by decide) (by rfl) (pa_cons (C8.pe_c (ok_krylov T) hr (by decide) (by rfl) (pa_cons (pe_fld (pv 0) rfl) (pa_cons (pe_fld (pv 0) rfl) pa_nil))) pa_nil)) pe_int (fun _ _ => rfl))), ?_⟩
    subst hn
    refine ⟨_, rfl, x, cP K, dx, _, _, rfl, hx, T.c_Plant, T.n_Plant_a, pf_a _ _ _, _, rfl, x, cP K, dx, _, _, rfl, hx, T.c_Plant, T.n_Plant_b, pf_b _ _ _, ?_⟩
    refine ⟨p, hp, vm, vb, MA, b, k, rfl, hm, hb, lb, h8, hA, hst, fun z H1 s1 hz => ?_⟩
    have hkc : (krows MA MA.length b k).length = k := krows_cnt
    have := hst.1
    refine ⟨p, hp, z, _, _, rfl, hz, by omega, by omega, krows_len lb hA, fun z2 H2 s2 ⟨tt, m2, t2, e, htt, hm2⟩ => ?_⟩
    subst e
    exact ⟨tt, [m2, t2], _, m2, rfl, rfl, SqT.of htt, at_of (j := 0) rfl rfl, q _ _ (s1.trans s2) hm2⟩
/-! ### unobservable_space -/
def spDark (K : PySem.W.Frag) : Sp := fun vs H Q _ => ∃ (p : Nat) (hp : P23 p) (m : V) (n : Nat) (A : List (List (Zp p))) (b c : List (Zp p)), vs = [m] ∧ Pl K n A b c m H ∧ PlOk n A b c ∧ ∀ z H', Same H H' → Mt K (darkMat A n c) n z H' → Q z H'
theorem sc_dark : FnScope ["plant", "flat", "columns", "column", "_"] ["plant"] (defScope s_unobservable_space) := ⟨rfl, rfl, rfl, by decide +kernel, rfl, by decide +kernel, by decide +kernel⟩
theorem ok_dark (T : Tx K mg) : C8.Cal P w K mg base 13 "unobservable_space" (spDark K) [] := by
  refine cal_mk T.g_unobservable_space T.d_unobservable_space sc_dark (fun _ _ _ _ _ _ us hl => match us, hl with | [_], _ => rfl) (fun vs H Q E h => ?_) (fun cdv A outer s H vs Q E hr h => ?_)
  · obtain ⟨p, hp, m, n, MA, b, c, rfl, _⟩ := h; rfl
  · obtain ⟨p, hp, m, n, MA, b, c, rfl, hpl, ok, q⟩ := h
    obtain ⟨x, dx, vm, vb, vc, rfl, hx, hm, hb, hc⟩ := id hpl
    obtain ⟨hn, hA, lb, lc, h8⟩ := ok
    obtain ⟨ma, dm, g, t, rfl, hma, hg, ht⟩ := id hm
    have nd := sc_dark.nd
    refine ⟨_, pss_cons (ps_set (i := 1) nd rfl (Or.inl rfl) (C8.pe_mt0 (ok_mt_transp T) hr (by decide) (pe_fld (pv 0) rfl)))
      (pss_cons (ps_set (i := 2) nd rfl (Or.inl rfl) (pe_lst pa_nil))
      (pss_cons (ps_set (i := 3) nd rfl (Or.inl rfl) (pe_fld (pv 0) rfl))
      (pss_cons (ps_for PassesOwn.never rfl (pi_range1 (by rfl) T.b_range (pa_cons (C8.pe_mt0 (ok_pl_size T) hr (by decide) (pv 0)) pa_nil)) (pg_name (i := 4) nd rfl (Or.inl rfl))
        (pss_cons (ps_expr (pe_bm PySem.F.plainAttrs_list PySem.F.slot_list_append PySem.F.type_list_append mt_append (pv 2) (pa_cons (pv 3) pa_nil)))
        (pss_one (ps_set (i := 3) nd rfl (Or.inl rfl) (C8.pe_mt (ok_mt_before T) hr (by decide) (pv 1) (pa_cons (pv 3) pa_nil))))))
      (pss_one (ps_ret (C8.pe_c (ok_kernel T) hr (by decide) (by rfl) (pa_cons (C8.pe_mt0 (ok_mt_transp T) hr (by decide) (C8.pe_mk (ok_mt_init T) hr (by decide) (by rfl) (pa_cons (pe_fld (pe_fld (pv 0) rfl) rfl) (pa_cons (pv 2) (pa_cons (C8.pe_mt0 (ok_pl_size T) hr (by decide) (pv 0)) pa_nil))))) pa_nil))))))), ?_⟩
    refine ⟨_, rfl, x, cP K, dx, _, _, rfl, hx, T.c_Plant, T.n_Plant_a, pf_a _ _ _, ma, dm, _, rfl, hma, no_transposed _ _ _, p, hp, _, MA, n, rfl, hm, h8, by omega, hA, fun fv H1 s1 hfv => ?_⟩
    rw [hn] at hfv
    refine ⟨Nat.zero_le _, fun l hl => ?_⟩
    have s2 : Same H1 (upd H1 l (.lst [])) := same_upd hl
    have s12 := s1.trans s2
    refine ⟨_, rfl, x, cP K, dx, _, _, rfl, s12 _ _ hx, T.c_Plant, T.n_Plant_c, pf_c _ _ _, ?_⟩
    refine ⟨_, rfl, x, dx, _, rfl, s12 _ _ hx, no_size _ _ _, p, _, n, MA, b, c, rfl, mon_pl _ _ _ _ _ _ _ s12 hpl, _, rfl, by omega, by omega, ?_⟩
    rw [show ((n : Int)).toNat = n from Int.toNat_natCast n]
    have hT : ∀ r ∈ transp MA n, r.length = n := fun r hr => by rw [transp_row r hr, hn]
    have lT : (transp MA n).length = n := transp_len _ _
    have hl0 : H l = none := s1.free hl
    refine for_range (lo := 0) (fun k σ H' => ∃ (cv : V) (us : List V) (v4 : Option V), σ = [some (.ref x), some fv, some (.ref l), some cv, v4] ∧ Same H1 H' ∧ H' l = some (.lst us) ∧ Al (RowT K) (hide l H') (krows (transp MA n) n c k) us ∧ RowT K (kpow (transp MA n) n c k) cv (hide l H'))
      ⟨vc, [], none, rfl, s2, upd_same, .nil, ?_⟩ ?_ ?_
    · rw [hide_upd]
      exact mon_rowT _ _ _ _ (same_hide s1 hl0) hc
    · rintro k σ H' hk ⟨cv, us, v4, rfl, s, hus, alu, hcv⟩
      have lus := alu.length
      rw [krows_cnt] at lus
      refine ⟨_, rfl, .inl ⟨rfl, _, SqL.of hus⟩, _, rfl, l, us, _, rfl, rfl, hus, small1000 (by omega), ?_⟩
      have hH : Same H1 (upd H' l (.lst (us ++ [cv]))) := same_upd' s hl
      have hus2 : upd H' l (.lst (us ++ [cv])) l = some (.lst (us ++ [cv])) := upd_same
      have hcv2 : RowT K (kpow (transp MA n) n c k) cv (upd H' l (.lst (us ++ [cv]))) := by
        have : hide l (upd H' l (.lst (us ++ [cv]))) = hide l H' := hide_upd
        exact mon_rowT _ _ _ _ (hide_le (l := l)) (this ▸ hcv)
      have hfv2 := mon_mt _ _ _ _ _ hH hfv
      obtain ⟨fa, fd, fg, ft, rfl, hfa, _, _⟩ := id hfv2
      refine ⟨_, rfl, fa, fd, _, rfl, hfa, no_before _ _ _, _, rfl, p, hp, .ref fa, cv, transp MA n, _, n, rfl, hfv2, hcv2, by rw [kpow_len lc hT, lT], by omega, by omega, hT, fun z H3 s3 hz => ?_⟩
      refine ⟨z, us ++ [cv], _, rfl, hH.trans s3, s3 _ _ hus2, ?_, imm_rowT _ _ _ _ _ (s3 _ _ hus2) trivial hz⟩
      rw [krows_succ]
      have hs : Same (hide l H') (hide l H3) := by
        have := hide_mono (l := l) s3
        rw [hide_upd] at this; exact this
      exact (alu.mono mon_rowT hs).snoc (mon_rowT _ _ _ _ hs hcv)
    · rintro σ H' ⟨cv, us, v4, rfl, s, hus, alu, hcv⟩
      have sH := s1.trans s
      have hol := obs_len (A := MA) (c := c) lc hn
      refine ⟨_, rfl, x, cP K, dx, _, _, rfl, sH _ _ hx, T.c_Plant, T.n_Plant_a, pf_a _ _ _, ma, cM K, dm, _, _, rfl, sH _ _ hma, T.c_Matrix, T.n_Matrix_ground, mf_ground _ _ _, _, rfl, _, rfl, x, dx, _, rfl, sH _ _ hx, no_size _ _ _, p, _, n, MA, b, c, rfl, mon_pl _ _ _ _ _ _ _ sH hpl, ?_⟩
      intro y dy ny ndy _
      have loc : (obsCols MA n c).length = n := krows_cnt
      refine mk_mt (mon_gr _ _ _ sH hg) (inRows_lt (rows := obsCols MA n c) ⟨l, us, rfl, hus, alu.mono mon_rowT hide_le⟩) (by omega) (by omega) hol ny ndy fun H3 s3 hm3 => ⟨rfl, ?_⟩
      obtain ⟨ya, yd, yg, yt, e, hya, _, _⟩ := id hm3
      cases e
      refine ⟨y, yd, _, rfl, hya, no_transposed _ _ _, p, hp, _, _, n, rfl, hm3, h8, by omega, hol, fun tv H4 s4 htv => ?_⟩
      rw [loc] at htv
      have lt : (transp (obsCols MA n c) n).length = n := transp_len _ _
      refine ⟨p, hp, tv, _, n, rfl, htv, by omega, by omega, obsT_row, fun z H5 s5 hz => ?_⟩
      rw [lt] at hz
      exact q _ _ ((sH.trans s3).trans (s4.trans s5)) hz
end
end K47

/-! text W13 -/
/-! is_reachable, is_observable, four_sizes -/
namespace K47
open PySem PySem.Spec PyProof.Rows L2
section
variable {P : Program} {w : World} {K : PySem.W.Frag} {mg : Str → Option Value} {base : Heap}
def spIsReach (K : PySem.W.Frag) : Sp := fun vs H Q _ => ∃ (p : Nat) (hp : P23 p) (m : V) (n : Nat) (A : List (List (Zp p))) (b c : List (Zp p)) (k : Nat), vs = [m] ∧ Pl K n A b c m H ∧ PlOk n A b c ∧ KStop A n b k ∧
  ∀ H', Same H H' → Q (.bl (decide (((ownMat A n b k).length : Int) = n))) H'
theorem sc_is_reach : FnScope ["plant"] ["plant"] (defScope s_is_reachable) := ⟨rfl, rfl, rfl, by decide +kernel, rfl, by decide +kernel, by decide +kernel⟩
theorem ok_is_reach (T : Tx K mg) : C8.Cal P w K mg base 15 "is_reachable" (spIsReach K) [] := by
  refine cal_mk T.g_is_reachable T.d_is_reachable sc_is_reach (fun _ _ _ _ _ _ us hl => match us, hl with | [_], _ => rfl) (fun vs H Q E h => ?_) (fun cdv A outer s H vs Q E hr h => ?_)
  · obtain ⟨p, hp, m, n, MA, b, c, k, rfl, _⟩ := h; rfl
  · obtain ⟨p, hp, m, n, MA, b, c, k, rfl, hpl, ok, hst, q⟩ := h
    obtain ⟨x, dx, vm, vb, vc, rfl, hx, hm, hb, hc⟩ := id hpl
    refine ⟨_, pss_one (ps_ret (pe_cmp (pc_eqI (pe_callB (len_met (ok_mt_len T) hr (by decide)) (by rfl) T.b_len PySem.boot_len (pa_cons (C8.pe_c (ok_reach T) hr (by decide) (by rfl) (pa_cons (pv 0) pa_nil)) pa_nil)) (C8.pe_mt0 (ok_pl_size T) hr (by decide) (pv 0))))), ?_⟩
    refine ⟨_, rfl, p, hp, .ref x, n, MA, b, c, k, rfl, hpl, ok, hst, fun z H1 s1 hz => ?_⟩
    obtain ⟨a, dm, g, t, rfl, ha, hg, ht⟩ := id hz
    have h1 := ownMat_cnt (m := k) ok.hb ok.hA
    have h2 := hst.1
    refine ⟨a, dm, _, rfl, ha, p, _, _, n, rfl, hz, _, rfl, by omega, by omega, ?_⟩
    exact ⟨_, rfl, x, dx, _, rfl, s1 _ _ hx, no_size _ _ _, p, _, n, MA, b, c, rfl, mon_pl _ _ _ _ _ _ _ s1 hpl, _, _, rfl, rfl, q H1 s1⟩
def spIsObs (K : PySem.W.Frag) : Sp := fun vs H Q _ => ∃ (p : Nat) (hp : P23 p) (m : V) (n : Nat) (A : List (List (Zp p))) (b c : List (Zp p)), vs = [m] ∧ Pl K n A b c m H ∧ PlOk n A b c ∧
  ∀ H', Same H H' → Q (.bl (decide (((darkMat A n c).length : Int) = 0))) H'
theorem sc_is_obs : FnScope ["plant"] ["plant"] (defScope s_is_observable) := ⟨rfl, rfl, rfl, by decide +kernel, rfl, by decide +kernel, by decide +kernel⟩
theorem ok_is_obs (T : Tx K mg) : C8.Cal P w K mg base 14 "is_observable" (spIsObs K) [] := by
  refine cal_mk T.g_is_observable T.d_is_observable sc_is_obs (fun _ _ _ _ _ _ us hl => match us, hl with | [_], _ => rfl) (fun vs H Q E h => ?_) (fun cdv A outer s H vs Q E hr h => ?_)
  · obtain ⟨p, hp, m, n, MA, b, c, rfl, _⟩ := h; rfl
  · obtain ⟨p, hp, m, n, MA, b, c, rfl, hpl, ok, q⟩ := h
    refine ⟨_, pss_one (ps_ret (pe_cmp (pc_eqI (pe_callB (len_met (ok_mt_len T) hr (by decide)) (by rfl) T.b_len PySem.boot_len (pa_cons (C8.pe_c (ok_dark T) hr (by decide) (by rfl) (pa_cons (pv 0) pa_nil)) pa_nil)) pe_int))), ?_⟩
    refine ⟨_, rfl, p, hp, m, n, MA, b, c, rfl, hpl, ok, fun z H1 s1 hz => ?_⟩
    obtain ⟨a, dm, g, t, rfl, ha, hg, ht⟩ := id hz
    have h1 := darkMat_cnt (A := MA) (n := n) (c := c)
    have h2 := ok.h8
    exact ⟨a, dm, _, rfl, ha, p, _, _, n, rfl, hz, _, rfl, by omega, by omega, _, _, rfl, rfl, q H1 s1⟩
/-! ### four_sizes -/
def Four (r b d s : Int) : Dn := fun v H => ∃ t, v = .ref t ∧ H t = some (.tup [.int r, .int b, .int d, .int s])
def spFour (K : PySem.W.Frag) : Sp := fun vs H Q _ => ∃ (p : Nat) (hp : P23 p) (m : V) (n : Nat) (A : List (List (Zp p))) (b c : List (Zp p)) (k : Nat), vs = [m] ∧ Pl K n A b c m H ∧ PlOk n A b c ∧ KStop A n b k ∧
  ∀ z H', Same H H' → (∃ t, z = .ref t ∧ H' t = some (.tup [
      .int ((ownMat A n b k).length - ((ownMat A n b k).length + (darkMat A n c).length - sumCnt A n b c k)),
      .int ((ownMat A n b k).length + (darkMat A n c).length - sumCnt A n b c k),
      .int (n - (ownMat A n b k).length - (darkMat A n c).length + ((ownMat A n b k).length + (darkMat A n c).length - sumCnt A n b c k)),
      .int ((darkMat A n c).length - ((ownMat A n b k).length + (darkMat A n c).length - sumCnt A n b c k))])) → Q z H'
theorem sc_four : FnScope ["plant", "own", "dark", "r", "s", "both"] ["plant"] (defScope s_four_sizes) := ⟨rfl, rfl, rfl, by decide +kernel, rfl, by decide +kernel, by decide +kernel⟩
theorem ok_four (T : Tx K mg) : C8.Cal P w K mg base 15 "four_sizes" (spFour K) [] := by
  refine cal_mk T.g_four_sizes T.d_four_sizes sc_four (fun _ _ _ _ _ _ us hl => match us, hl with | [_], _ => rfl) (fun vs H Q E h => ?_) (fun cdv A outer s H vs Q E hr h => ?_)
  · obtain ⟨p, hp, m, n, MA, b, c, k, rfl, _⟩ := h; rfl
  · obtain ⟨p, hp, m, n, MA, b, c, k, rfl, hpl, ok, hst, q⟩ := h
    obtain ⟨x, dx, vm, vb, vc, rfl, hx, hm, hb, hc⟩ := id hpl
    have nd := sc_four.nd
    refine ⟨_, pss_cons (ps_set (i := 1) nd rfl (Or.inl rfl) (C8.pe_c (ok_reach T) hr (by decide) (by rfl) (pa_cons (pv 0) pa_nil)))
      (pss_cons (ps_set (i := 2) nd rfl (Or.inl rfl) (C8.pe_c (ok_dark T) hr (by decide) (by rfl) (pa_cons (pv 0) pa_nil)))
      (pss_cons (ps_set (i := 3) nd rfl (Or.inl rfl) (pe_callB (len_met (ok_mt_len T) hr (by decide)) (by rfl) T.b_len PySem.boot_len (pa_cons (pv 1) pa_nil)))
      (pss_cons (ps_set (i := 4) nd rfl (Or.inl rfl) (pe_callB (len_met (ok_mt_len T) hr (by decide)) (by rfl) T.b_len PySem.boot_len (pa_cons (pv 2) pa_nil)))
      (pss_cons (ps_set (i := 5) nd rfl (Or.inl rfl) (pe_op op_sub (pe_op op_add (pv 3) (pv 4)) (pe_callB call_len_seq (by rfl) T.b_len PySem.boot_len (pa_cons
        (pe_ix ix_tup (C8.pe_c (ok_reduce_rows T) hr (by decide) (by rfl) (pa_cons (pe_op op_cat (pe_callTy call_lstOf (by rfl) T.b_list boot_list (pa_cons (pe_fld (pv 1) rfl) pa_nil)) (pe_callTy call_lstOf (by rfl) T.b_list boot_list (pa_cons (pe_fld (pv 2) rfl) pa_nil)))
          (pa_cons (C8.pe_mt0 (ok_pl_size T) hr (by decide) (pv 0)) pa_nil))) pe_int (fun _ _ => rfl)) pa_nil))))
      (pss_one (ps_ret (pe_tup (pa_cons (pe_op op_sub (pv 3) (pv 5)) (pa_cons (pv 5) (pa_cons (pe_op op_add (pe_op op_sub (pe_op op_sub (C8.pe_mt0 (ok_pl_size T) hr (by decide) (pv 0)) (pv 3)) (pv 4)) (pv 5)) (pa_cons (pe_op op_sub (pv 4) (pv 5)) pa_nil))))))))))), ?_⟩
    have h1 := ownMat_cnt (m := k) ok.hb ok.hA
    have h2 := hst.1
    have h3 := darkMat_cnt (A := MA) (n := n) (c := c)
    have h4 := ok.h8
    have lo := ownMat_len (m := k) ok.hb ok.hA
    have ld := darkMat_len (A := MA) (n := n) (c := c)
    refine ⟨_, rfl, p, hp, .ref x, n, MA, b, c, k, rfl, hpl, ok, hst, fun ov H1 s1 hov => ?_⟩
    refine ⟨_, rfl, p, hp, .ref x, n, MA, b, c, rfl, mon_pl _ _ _ _ _ _ _ s1 hpl, ok, fun dv H2 s2 hdv => ?_⟩
    have hov2 := mon_mt _ _ _ _ _ s2 hov
    have hpl2 := mon_pl _ _ _ _ _ _ _ (s1.trans s2) hpl
    obtain ⟨oa, od, og, ot, rfl, hoa, _, hot⟩ := id hov2
    obtain ⟨da, dd, dg, dt, rfl, hda, _, hdt⟩ := id hdv
    obtain ⟨ota, ovs, rfl, hota, alo⟩ := id hot
    obtain ⟨dta, dvs, rfl, hdta, ald⟩ := id hdt
    have llo := alo.length
    have lld := ald.length
    refine ⟨_, rfl, oa, od, _, rfl, hoa, p, _, _, n, rfl, hov2, _, rfl, by omega, by omega, ?_⟩
    refine ⟨_, rfl, da, dd, _, rfl, hda, p, _, _, n, rfl, hdv, _, rfl, by omega, by omega, ?_⟩
    refine ⟨_, rfl, _, rfl, _, _, rfl, rfl, ?_⟩
    refine ⟨_, rfl, oa, cM K, od, _, _, rfl, hoa, T.c_Matrix, T.n_Matrix_rows, mf_rows _ _ _, ota, ovs, rfl, .inr (SqT.of hota), fun l1 hl1 => ?_⟩
    have s3 : Same H2 (upd H2 l1 (.lst ovs)) := same_upd hl1
    have e1 : upd H2 l1 (.lst ovs) l1 = some (.lst ovs) := upd_same
    generalize upd H2 l1 (.lst ovs) = H3 at *
    refine ⟨_, rfl, da, cM K, dd, _, _, rfl, s3 _ _ hda, T.c_Matrix, T.n_Matrix_rows, mf_rows _ _ _, dta, dvs, rfl, .inr (SqT.of (s3 _ _ hdta)), fun l2 hl2 => ?_⟩
    have s4 : Same H3 (upd H3 l2 (.lst dvs)) := same_upd hl2
    have e2 : upd H3 l2 (.lst dvs) l2 = some (.lst dvs) := upd_same
    generalize upd H3 l2 (.lst dvs) = H4 at *
    refine ⟨l1, l2, _, _, rfl, rfl, s4 _ _ e1, e2, Nat.le_of_lt (small1000 (by omega)), fun l3 hl3 => ?_⟩
    have s5 : Same H4 (upd H4 l3 (.lst (ovs ++ dvs))) := same_upd hl3
    have e3 : upd H4 l3 (.lst (ovs ++ dvs)) l3 = some (.lst (ovs ++ dvs)) := upd_same
    generalize upd H4 l3 (.lst (ovs ++ dvs)) = H5 at *
    have s25 := (s3.trans s4).trans s5
    refine ⟨_, rfl, x, dx, _, rfl, s25 _ _ (s2 _ _ (s1 _ _ hx)), no_size _ _ _, p, _, n, MA, b, c, rfl, mon_pl _ _ _ _ _ _ _ s25 hpl2, ?_⟩
    have hrows : SeqOf (SeqOf (Rs K)) (ownMat MA n b k ++ darkMat MA n c) (.ref l3) H5 := .inl ⟨l3, _, rfl, e3, ((alo.mono mon_rowT s25).imp fun _ _ z => .inr z).append ((ald.mono mon_rowT s25).imp fun _ _ z => .inr z)⟩
    refine ⟨p, hp, .ref l3, _, n, rfl, hrows, by rw [List.length_append]; omega, by omega, fun r hr => (List.mem_append.mp hr).elim (lo r) (ld r), fun z H6 s6 ⟨tt, f, l, e, htt, hf, hl⟩ => ?_⟩
    subst e
    obtain ⟨la, lvs, rfl, hla, all⟩ := hl
    have lll := all.length
    rw [List.length_map] at lll
    refine ⟨tt, [f, .ref la], _, .ref la, rfl, rfl, SqT.of htt, at_of (j := 1) rfl rfl, la, lvs, rfl, .inl (SqL.of hla), _, _, rfl, rfl, ?_⟩
    rw [lll]
    have s26 := s25.trans s6
    refine ⟨_, rfl, _, rfl, _, _, rfl, rfl, _, rfl, _, rfl, x, dx, _, rfl, s26 _ _ (s2 _ _ (s1 _ _ hx)), no_size _ _ _, p, _, n, MA, b, c, rfl, mon_pl _ _ _ _ _ _ _ s26 hpl2, ?_⟩
    refine ⟨_, rfl, _, _, rfl, rfl, _, rfl, _, _, rfl, rfl, _, rfl, _, _, rfl, rfl, _, rfl, _, rfl, _, _, rfl, rfl, (by show 4 ≤ sizeLine; decide), fun t1 ht1 => ?_⟩
    exact q _ _ (((s1.trans s2).trans s26).trans (same_upd ht1)) ⟨t1, rfl, upd_same⟩
end
end K47

/-! text L1 -/
/-! the law's draws -/
namespace K47
open PySem PySem.Spec PyProof.Rows L2
section
variable {P : Program} {w : World} {K : PySem.W.Frag} {mg : Str → Option Value} {base : Heap}
/-- the state: a list of two ints -/
def LawSt (l : Addr) (H : Hp) : Prop := ∃ s t : Int, H l = some (.lst [.int s, .int t]) ∧ 0 ≤ s ∧ 0 ≤ t ∧ t < 2147483647
def spState (K : PySem.W.Frag) : Sp := fun vs H Q _ => ∃ (a : Addr) (ns : List Int), vs = [.ref a] ∧ SqL K H a (ns.map V.int) ∧ ∀ l H', Same H H' → H l = none → LawSt l H' → Q (.ref l) H'
theorem sc_law_state : FnScope ["_law_script", "_law_seed", "_law_total", "_law_cell"] ["_law_script"] (defScope s_law_state) := ⟨rfl, rfl, rfl, by decide +kernel, rfl, by decide +kernel, by decide +kernel⟩
theorem cut_mem {xs : List V} {lo hi : Option Int} {i : Nat} {x : V} (h : (cutV xs lo hi)[i]? = some x) : x ∈ xs := List.mem_of_mem_drop (List.mem_of_mem_take (List.mem_of_getElem? h))
theorem ok_law_state (T : Tx K mg) : C8.Cal P w K mg base 1 "_law_state" (spState K) [] := by
  refine cal_mk T.g_law_state T.d_law_state sc_law_state (fun _ _ _ _ _ _ us hl => match us, hl with | [_], _ => rfl) (fun vs H Q E h => ?_) (fun cdv A outer s H vs Q E hr h => ?_)
  · obtain ⟨a, ns, rfl, _⟩ := h; rfl
  · obtain ⟨a, ns, rfl, ha, q⟩ := h
    have nd := sc_law_state.nd
    refine ⟨_, pss_cons (ps_set (i := 1) nd rfl (Or.inl rfl) pe_int)
      (pss_cons (ps_set (i := 2) nd rfl (Or.inl rfl) pe_int)
      (pss_cons (ps_for PassesOwn.never rfl (pi_list (pe_slice sl_list (pv 0) po_none (po_some pe_int))) (pg_name (i := 3) nd rfl (Or.inl rfl))
        (pss_cons (ps_set (i := 1) nd rfl (Or.inl rfl) (pe_op op_add (pe_op op_mul (pv 1) pe_int) (pe_callB call_abs (by rfl) T.b_abs boot_abs (pa_cons (pv 3) pa_nil))))
        (pss_one (ps_set (i := 2) nd rfl (Or.inl rfl) (pe_op op_mod (pe_callTy call_int1 (by rfl) T.b_int boot_int (pa_cons (pe_op op_add (pe_op op_mul (pv 2) pe_int) (pv 3)) pa_nil)) pe_int)))))
      (pss_one (ps_ret (pe_lst (pa_cons (pv 1) (pa_cons (pv 2) pa_nil))))))), ?_⟩
    refine ⟨_, rfl, _, rfl, a, _, rfl, ha, fun l1 hl1 => ?_⟩
    have s1 : Same H (upd H l1 (.lst (cutV (ns.map V.int) none (some 63)))) := same_upd hl1
    refine ⟨l1, rfl, ⟨_, SqL.of upd_same⟩, ?_⟩
    refine for_it (walk_list (xs := cutV (ns.map V.int) none (some 63))) (fun i σ H' => ∃ (sd tt : Int) (v3 : Option V), σ = [some (.ref a), some (.int sd), some (.int tt), v3] ∧ H' = upd H l1 (.lst (cutV (ns.map V.int) none (some 63))) ∧ 0 ≤ sd ∧ 0 ≤ tt ∧ tt < 2147483647)
      ⟨0, 1, none, rfl, rfl, by decide, by decide, by decide⟩ (fun i σ H' _ ⟨_, _, _, _, e, _⟩ => by rw [e]; exact SqL.of upd_same) ?_ ?_
    · rintro i x σ H' _ hi ⟨sd, tt, v3, rfl, rfl, h0, h1, h2⟩ ⟨rfl, hx⟩
      obtain ⟨c, _, rfl⟩ := List.mem_map.mp (cut_mem hx)
      refine ⟨_, rfl, _, _, rfl, rfl, .inr ⟨by decide, by decide⟩, _, rfl, _, rfl, _, _, rfl, rfl, ?_⟩
      refine ⟨_, rfl, _, _, rfl, rfl, .inr ⟨by decide, by decide⟩, _, rfl, _, _, rfl, rfl, .inl ⟨_, rfl, _, _, rfl, rfl, (by show (0 : Int) < 2147483647; decide), ?_⟩⟩
      refine ⟨_, _, _, rfl, rfl, ?_, Int.emod_nonneg _ (by decide), Int.emod_lt_of_pos _ (by decide)⟩
      split <;> omega
    · rintro σ H' ⟨sd, tt, v3, rfl, rfl, h0, h1, h2⟩
      refine ⟨_, rfl, _, rfl, two_line, fun l hl => q l _ (s1.trans (same_upd hl)) (s1.free hl) ⟨sd, tt, upd_same, h0, h1, h2⟩⟩
/-! ### _law_take -/
def spTake (K : PySem.W.Frag) : Sp := fun vs H Q _ => ∃ (l : Addr) (m : Nat), vs = [.ref l, .int (m : Int)] ∧ LawSt l H ∧ 0 < m ∧ m < 1000 ∧ ∀ (v : Nat) H', v < m → LawSt l H' → (∀ b, b ≠ l → H' b = H b) → Q (.int (v : Int)) H'
theorem sc_law_take : FnScope ["_law_state_here", "_law_m", "_law_value"] ["_law_state_here", "_law_m"] (defScope s_law_take) := ⟨rfl, rfl, rfl, by decide +kernel, rfl, by decide +kernel, by decide +kernel⟩
theorem ok_law_take (T : Tx K mg) : C8.Cal P w K mg base 1 "_law_take" (spTake K) [] := by
  refine cal_mk T.g_law_take T.d_law_take sc_law_take (fun _ _ _ _ _ _ us hl => match us, hl with | [_, _], _ => rfl) (fun vs H Q E h => ?_) (fun cdv A outer s H vs Q E hr h => ?_)
  · obtain ⟨l, m, rfl, _⟩ := h; rfl
  · obtain ⟨l, m, rfl, ⟨sd, tt, hl, h0, h1, h2⟩, hm, hm2, q⟩ := h
    have nd := sc_law_take.nd
    refine ⟨_, pss_cons (ps_if (pt_cmp (pc_gt (pe_ix ix_list (pv 0) pe_int (fun _ _ => rfl)) pe_int))
        (pss_cons (ps_set (i := 2) nd rfl (Or.inl rfl) (pe_op op_mod (pe_callTy call_int1 (by rfl) T.b_int boot_int (pa_cons (pe_ix ix_list (pv 0) pe_int (fun _ _ => rfl)) pa_nil)) (pv 1)))
        (pss_cons (ps_asg (pe_op op_fdiv (pe_ix ix_list (pv 0) pe_int (fun _ _ => rfl)) (pv 1)) (pg_sub (pv 0) pe_int set_list))
        (pss_one (ps_ret (pv 2))))) pss_nil)
      (pss_cons (ps_asg (pe_op op_mod (pe_callTy call_int1 (by rfl) T.b_int boot_int (pa_cons (pe_op op_add (pe_op op_mul (pe_ix ix_list (pv 0) pe_int (fun _ _ => rfl)) pe_int) pe_int) pa_nil)) pe_int) (pg_sub (pv 0) pe_int set_list))
      (pss_one (ps_ret (pe_op op_mod (pe_callTy call_int1 (by rfl) T.b_int boot_int (pa_cons (pe_op op_fdiv (pe_ix ix_list (pv 0) pe_int (fun _ _ => rfl)) pe_int) pa_nil)) (pv 1))))), ?_⟩
    have mpos : (0 : Int) < (m : Int) := by omega
    refine ⟨_, rfl, l, _, _, _, rfl, rfl, SqL.of hl, at_of (j := 0) rfl rfl, _, _, rfl, rfl, _, rfl, ifD (fun hpos => ?_) fun hneg => ?_⟩
    · refine ⟨_, rfl, l, _, _, _, rfl, rfl, SqL.of hl, at_of (j := 0) rfl rfl, .inl ⟨_, rfl, _, rfl, _, _, rfl, rfl, mpos, ?_⟩⟩
      refine ⟨_, rfl, l, _, _, _, rfl, rfl, SqL.of hl, at_of (j := 0) rfl rfl, _, rfl, _, _, rfl, rfl, ⟨mpos, by omega⟩, ?_⟩
      refine ⟨_, rfl, l, _, _, 0, rfl, rfl, hl, rfl, _, rfl, ?_⟩
      have e : (((sd % (m : Int)).toNat : Nat) : Int) = sd % (m : Int) := Int.toNat_of_nonneg (Int.emod_nonneg _ (by omega))
      have hlt := Int.emod_lt_of_pos sd mpos
      have := q (sd % (m : Int)).toNat (upd H l (.lst [.int (sd / (m : Int)), .int tt])) (by omega) ⟨_, _, upd_same, Int.ediv_nonneg h0 (by omega), h1, h2⟩ fun b hb => upd_ne hb
      rw [e] at this
      exact this
    · refine ⟨_, rfl, l, _, _, _, rfl, rfl, SqL.of hl, at_of (j := 1) rfl rfl, _, _, rfl, rfl, .inr ⟨by decide, by decide⟩, _, _, rfl, rfl, .inl ⟨_, rfl, _, _, rfl, rfl, (by show (0 : Int) < 2147483647; decide), ?_⟩⟩
      refine ⟨_, rfl, l, _, _, 1, rfl, rfl, hl, rfl, ?_⟩
      have hx0 : 0 ≤ (tt * 48271 + 11) % 2147483647 := Int.emod_nonneg _ (by decide)
      have hx1 : (tt * 48271 + 11) % 2147483647 < 2147483647 := Int.emod_lt_of_pos _ (by decide)
      show tSeq _ _ _ _ (upd H l (.lst [.int sd, .int ((tt * 48271 + 11) % 2147483647)]))
      generalize (tt * 48271 + 11) % 2147483647 = x at *
      have hl2 : upd H l (.lst [.int sd, .int x]) l = some (.lst [.int sd, .int x]) := upd_same
      refine ⟨_, rfl, l, _, _, _, rfl, rfl, SqL.of hl2, at_of (j := 1) rfl rfl, _, _, rfl, rfl, ⟨by decide, by decide⟩, .inl ⟨_, rfl, _, rfl, _, _, rfl, rfl, mpos, ?_⟩⟩
      have e : ((((x / 7) % (m : Int)).toNat : Nat) : Int) = (x / 7) % (m : Int) := Int.toNat_of_nonneg (Int.emod_nonneg _ (by omega))
      have hlt := Int.emod_lt_of_pos (x / 7) mpos
      have := q ((x / 7) % (m : Int)).toNat (upd H l (.lst [.int sd, .int x])) (by omega) ⟨_, _, upd_same, h0, hx0, hx1⟩ fun b hb => upd_ne hb
      rw [e] at this
      exact this
end
end K47

/-! text L2 -/
/-! the law's rows -/
namespace K47
open PySem PySem.Spec PyProof.Rows L2
section
variable {P : Program} {w : World} {K : PySem.W.Frag} {mg : Str → Option Value} {base : Heap}
/-! ### _law_rest -/
def spRest : Sp := fun vs H Q _ => ∃ (p : Nat) (hp : P23 p) (x : Int), vs = [.int (p : Int), .int x] ∧ Q (.int ((zi p x).val : Int)) H
theorem sc_law_rest : FnScope ["_law_p", "_law_x"] ["_law_p", "_law_x"] (defScope s_law_rest) := ⟨rfl, rfl, rfl, by decide +kernel, rfl, by decide +kernel, by decide +kernel⟩
theorem ok_law_rest (T : Tx K mg) : C8.Cal P w K mg base 1 "_law_rest" spRest [] := by
  refine cal_mk T.g_law_rest T.d_law_rest sc_law_rest (fun _ _ _ _ _ _ us hl => match us, hl with | [_, _], _ => rfl) (fun vs H Q E h => ?_) (fun cdv A outer s H vs Q E hr h => ?_)
  · obtain ⟨p, hp, x, rfl, _⟩ := h; rfl
  · obtain ⟨p, hp, x, rfl, q⟩ := h
    refine ⟨_, pss_cons (ps_if (pt_cmp (pc_eqI (pv 0) pe_int)) (pss_one (ps_ret (pv 1))) pss_nil)
      (pss_one (ps_ret (pe_op op_mod (pe_callTy call_int1 (by rfl) T.b_int boot_int (pa_cons (pv 1) pa_nil)) (pv 0)))), ?_⟩
    have hp2 := P23.two p
    have h0 : ¬ ((p : Int) = 0) := by omega
    refine ⟨_, rfl, _, _, rfl, rfl, _, rfl, ifF h0 ⟨_, rfl, .inl ⟨_, rfl, _, rfl, _, _, rfl, rfl, (by omega), ?_⟩⟩⟩
    rw [zi_val] at q
    exact q
/-! ### _law_row -/
def spRow (K : PySem.W.Frag) : Sp := fun vs H Q _ => ∃ (p : Nat) (hp : P23 p) (l : Addr) (n : Nat), vs = [.ref l, .int (p : Int), .int (n : Int)] ∧ LawSt l H ∧ n ≤ 100 ∧
  ∀ z (row : List (Zp p)) H', row.length = n → Same (hide l H) (hide l H') → LawSt l H' → (∀ a, z = .ref a → H a = none) → LstOf In row z (hide l H') → Q z H'
theorem sc_law_row : FnScope ["_law_state_here", "_law_p", "_law_n", "_law_k"] ["_law_state_here", "_law_p", "_law_n"] (defScope s_law_row) := ⟨rfl, rfl, rfl, by decide +kernel, rfl, by decide +kernel, by decide +kernel⟩
abbrev N_row : List Str := ["_law_state_here", "_law_p", "_law_n", "_law_k"]
def sevenA : TA := tCons (tC (.int 0)) (tCons (tC (.int 1)) (tCons (tC (.int 0)) (tCons (tUn (rU fun i => .int (-i)) (tC (.int 1))) (tCons (tC (.int 2)) (tCons (tC (.int 0)) (tCons (tC (.int 1)) tNil))))))
def rowE (K : PySem.W.Frag) : TE := tCall spRest [] C8.E0 (tCons (tVar 1) (tCons (tOp (rIxL K) (tLst sevenA) (tCall (spTake K) [] C8.E0 (tCons (tVar 0) (tCons (tC (.int 7)) tNil)))) tNil))
theorem seven_at (v : Nat) (h : v < 7) : ∃ c : Int, atI [V.int 0, V.int 1, V.int 0, V.int (-1), V.int 2, V.int 0, V.int 1] (v : Int) = some (.int c) := by
  match v, h with
  | 0, _ => exact ⟨0, rfl⟩
  | 1, _ => exact ⟨1, rfl⟩
  | 2, _ => exact ⟨0, rfl⟩
  | 3, _ => exact ⟨-1, rfl⟩
  | 4, _ => exact ⟨2, rfl⟩
  | 5, _ => exact ⟨0, rfl⟩
  | 6, _ => exact ⟨1, rfl⟩
theorem lawSt_mono {l : Addr} {H H' : Hp} (s : Same H H') (h : LawSt l H) : LawSt l H' := by
  obtain ⟨a, b, e, r⟩ := h
  exact ⟨a, b, s _ _ e, r⟩
theorem lawSt_some {l : Addr} {H : Hp} (h : LawSt l H) : ∃ o, H l = some o ∧ Mu o := by
  obtain ⟨a, b, e, r⟩ := h
  exact ⟨_, e, trivial⟩
theorem hide_eq {l : Addr} {H H' : Hp} (k : ∀ b, b ≠ l → H' b = H b) : hide l H' = hide l H := by
  funext b
  by_cases e : b = l
  · rw [e, hide_self, hide_self]
  · rw [hide_ne e, hide_ne e, k b e]
theorem hs_upd {l D : Addr} {H H' : Hp} {o : HO} (s : Same (hide l H) (hide l H')) (h : H D = none) : Same (hide l H) (hide l (upd H' D o)) := fun b u e => by
  have nb : b ≠ D := fun z => by
    have := hide_le _ _ e
    rw [z, h] at this; cases this
  have := s b u e
  by_cases el : b = l
  · rw [el, hide_self] at this; cases this
  · rw [hide_ne el] at this ⊢; rw [upd_ne nb]; exact this
theorem al_in {p : Nat} {H H' : Hp} {xs : List (Zp p)} {vs : List V} (h : Al In H xs vs) : Al In H' xs vs := Al.imp (R := In) (S := In) (H := H) (H' := H') (fun _ _ z => z) h
theorem ok_law_row (T : Tx K mg) : C8.Cal P w K mg base 2 "_law_row" (spRow K) [] := by
  refine cal_mk T.g_law_row T.d_law_row sc_law_row (fun _ _ _ _ _ _ us hl => match us, hl with | [_, _, _], _ => rfl) (fun vs H Q E h => ?_) (fun cdv A outer s H vs Q E hr h => ?_)
  · obtain ⟨p, hp, l, n, rfl, _⟩ := h; rfl
  · obtain ⟨p, hp, l, n, rfl, hst, hn, q⟩ := h
    have nd := sc_law_row.nd
    refine ⟨_, pss_one (ps_ret (pe_lc (own := [("_law_k", 3)]) (g := gName 3) (tt := tYes) (te := rowE K) rfl nd (pi_range1 (by rfl) T.b_range (pa_cons (pv 2) pa_nil)) (blkOk_by (N := N_row) (sc := defScope s_law_row) (by decide +kernel)) (fun _ _ _ _ _ => pg_name (i := 3) nd rfl (Or.inl rfl)) (fun _ _ _ _ _ => pts_nil)
      (fun _ _ _ _ _ => C8.pe_c (ok_law_rest T) hr (by decide) (by rfl) (pa_cons (pv 1) (pa_cons (pe_ix ix_list (pe_lst (pa_cons pe_int (pa_cons pe_int (pa_cons pe_int (pa_cons (pe_un un_neg pe_int) (pa_cons pe_int (pa_cons pe_int (pa_cons pe_int pa_nil))))))))
        (C8.pe_c (ok_law_take T) hr (by decide) (by rfl) (pa_cons (pv 0) (pa_cons pe_int pa_nil))) (fun _ _ => rfl)) pa_nil))))), ?_⟩
    refine ⟨_, rfl, _, rfl, by omega, by omega, fun D hD => ?_⟩
    rw [show ((n : Int)).toNat = n from Int.toNat_natCast n]
    obtain ⟨o0, hl0, _⟩ := lawSt_some hst
    have nDl : D ≠ l := fun e => by rw [e, hl0] at hD; cases hD
    refine lc_it walk_range (fun i H' => Same (hide l H) (hide l H') ∧ LawSt l H' ∧ ∃ (acc : List V) (row : List (Zp p)), H' D = some (.lst acc) ∧ row.length = i ∧ Al In H row acc)
      ⟨hide_mono (same_upd hD), lawSt_mono (same_upd hD) hst, [], [], upd_same, rfl, .nil⟩ (fun _ _ _ _ => trivial) ?_ ?_
    · rintro i x H' _ hi ⟨s, hs, acc, row, hacc, hrl, al⟩ ⟨rfl, rfl⟩
      refine ⟨rfl, _, rfl, _, rfl, (by show 7 ≤ sizeLine; decide), fun q1 hq1 => ?_⟩
      have s2 : Same _ (upd _ q1 (.lst [V.int 0, V.int 1, V.int 0, V.int (-1), V.int 2, V.int 0, V.int 1])) := same_upd hq1
      refine ⟨_, rfl, l, 7, rfl, lawSt_mono s2 hs, by decide, by decide, fun v H3 hv hs3 k3 => ?_⟩
      obtain ⟨o1, hl1, _⟩ := lawSt_some hs
      have nq1 : q1 ≠ l := fun e => by rw [e, hl1] at hq1; cases hq1
      obtain ⟨c, hc⟩ := seven_at v hv
      have hq3 : H3 q1 = some (.lst [V.int 0, V.int 1, V.int 0, V.int (-1), V.int 2, V.int 0, V.int 1]) := by rw [k3 q1 nq1]; exact upd_same
      have hD3 : H3 D = some (.lst acc) := by rw [k3 D nDl]; exact s2 _ _ hacc
      have hl := al.length
      refine ⟨q1, _, _, _, rfl, rfl, SqL.of hq3, hc, p, hp, c, rfl, acc, hD3, small1000 (by omega), ?_, ?_, acc ++ [.int ((zi p c).val : Int)], row ++ [zi p c], upd_same, by rw [List.length_append, List.length_singleton]; omega, al.snoc (show In (zi p c) (V.int ((zi p c).val : Int)) H from rfl)⟩
      · exact hs_upd (s.trans (by rw [hide_eq k3]; exact hide_mono s2)) hD
      · obtain ⟨a, b, e, r⟩ := hs3
        exact ⟨a, b, by rw [upd_ne (fun e => nDl e.symm)]; exact e, r⟩
    · rintro H' ⟨s, hs, acc, row, hacc, hrl, al⟩
      exact q (.ref D) row H' hrl s hs (fun a e => by injection e with e; rw [← e]; exact hD) ⟨D, acc, rfl, hide_at hacc nDl, al_in al⟩
/-! ### _law_rows -/
def spRows (K : PySem.W.Frag) : Sp := fun vs H Q _ => ∃ (p : Nat) (hp : P23 p) (l : Addr) (n : Nat), vs = [.ref l, .int (p : Int), .int (n : Int)] ∧ LawSt l H ∧ n ≤ 100 ∧
  ∀ z (rows : List (List (Zp p))) H', rows.length = n → (∀ r ∈ rows, r.length = n) → Same (hide l H) (hide l H') → LawSt l H' → LstOf (LstOf In) rows z (hide l H') → Q z H'
theorem sc_law_rows : FnScope ["_law_state_here", "_law_p", "_law_n", "_law_k"] ["_law_state_here", "_law_p", "_law_n"] (defScope s_law_rows) := ⟨rfl, rfl, rfl, by decide +kernel, rfl, by decide +kernel, by decide +kernel⟩
theorem mon_lin {p : Nat} (xs : List (Zp p)) : Mon1 (LstOf In xs) := mon_lst mon_in xs
theorem hide_swap_same {l D : Addr} {H H' : Hp} (s : Same (hide l H) (hide l H')) : Same (hide l (hide D H)) (hide l (hide D H')) := by
  rw [hide_comm, hide_comm (H := H')]; exact hide_mono s
theorem ok_law_rows (T : Tx K mg) : C8.Cal P w K mg base 3 "_law_rows" (spRows K) [] := by
  refine cal_mk T.g_law_rows T.d_law_rows sc_law_rows (fun _ _ _ _ _ _ us hl => match us, hl with | [_, _, _], _ => rfl) (fun vs H Q E h => ?_) (fun cdv A outer s H vs Q E hr h => ?_)
  · obtain ⟨p, hp, l, n, rfl, _⟩ := h; rfl
  · obtain ⟨p, hp, l, n, rfl, hst, hn, q⟩ := h
    have nd := sc_law_rows.nd
    refine ⟨_, pss_one (ps_ret (pe_lc (own := [("_law_k", 3)]) (g := gName 3) (tt := tYes) (te := tCall (spRow K) [] C8.E0 (tCons (tVar 0) (tCons (tVar 1) (tCons (tVar 2) tNil)))) rfl nd (pi_range1 (by rfl) T.b_range (pa_cons (pv 2) pa_nil)) (blkOk_by (N := N_row) (sc := defScope s_law_rows) (by decide +kernel)) (fun _ _ _ _ _ => pg_name (i := 3) nd rfl (Or.inl rfl)) (fun _ _ _ _ _ => pts_nil)
      (fun _ _ _ _ _ => C8.pe_c (ok_law_row T) hr (by decide) (by rfl) (pa_cons (pv 0) (pa_cons (pv 1) (pa_cons (pv 2) pa_nil)))))), ?_⟩
    refine ⟨_, rfl, _, rfl, by omega, by omega, fun D hD => ?_⟩
    rw [show ((n : Int)).toNat = n from Int.toNat_natCast n]
    obtain ⟨o0, hl0, _⟩ := lawSt_some hst
    have nDl : D ≠ l := fun e => by rw [e, hl0] at hD; cases hD
    refine lc_it walk_range (fun i H' => Same (hide l H) (hide l H') ∧ LawSt l H' ∧ ∃ (acc : List V) (rows : List (List (Zp p))), H' D = some (.lst acc) ∧ rows.length = i ∧ (∀ r ∈ rows, r.length = n) ∧ Al (LstOf In) (hide l (hide D H')) rows acc)
      ⟨hide_mono (same_upd hD), lawSt_mono (same_upd hD) hst, [], [], upd_same, rfl, (fun r hr => nomatch hr), .nil⟩ (fun _ _ _ _ => trivial) ?_ ?_
    · rintro i x H' _ hi ⟨s, hs, acc, rows, hacc, hrl, hall, al⟩ ⟨rfl, rfl⟩
      refine ⟨rfl, _, rfl, _, rfl, _, rfl, p, hp, l, n, rfl, hs, hn, fun z row H3 hrow s3 hs3 hnew hz => ?_⟩
      have hl := al.length
      have hacc3 : H3 D = some (.lst acc) := by
        have := s3 D _ (hide_at hacc nDl)
        rw [hide_ne nDl] at this; exact this
      refine ⟨acc, hacc3, small1000 (by omega), hs_upd (s.trans s3) hD, ?_, acc ++ [z], rows ++ [row], upd_same, by rw [List.length_append, List.length_singleton]; omega, ?_, ?_⟩
      · obtain ⟨a, b, e, r⟩ := hs3
        exact ⟨a, b, by rw [upd_ne (fun e => nDl e.symm)]; exact e, r⟩
      · intro r hr
        rcases List.mem_append.mp hr with h | h
        · exact hall r h
        · rw [List.mem_singleton.mp h]; exact hrow
      · rw [hide_upd]
        refine (al.mono mon_lin (hide_swap_same s3)).snoc ?_
        rw [hide_comm]
        obtain ⟨a, vs, rfl, ha, hav⟩ := hz
        refine ⟨a, vs, rfl, hide_at ha fun e => ?_, al_in hav⟩
        have := hnew a rfl
        rw [e, hacc] at this; cases this
    · rintro H' ⟨s, hs, acc, rows, hacc, hrl, hall, al⟩
      exact q (.ref D) rows H' hrl hall s hs ⟨D, acc, rfl, hide_at hacc nDl, al.mono mon_lin (hide_mono hide_le)⟩
end
end K47

/-! text L3 -/
/-! the law's products -/
namespace K47
open PySem PySem.Spec PyProof.Rows L2
section
variable {F : Type} [Fld F] [DecidableEq F]
def lsum : List F → F
  | [] => 0
  | x :: xs => x + lsum xs
def rowBefore (row : Row F) (rows : List (Row F)) (n : Nat) : Row F := (List.range n).map fun j => lsum ((List.range row.length).map fun k => row.getD k 0 * (rows.getD k []).getD j 0)
def dotF (row col : Row F) : F := lsum ((List.range row.length).map fun k => row.getD k 0 * col.getD k 0)
end
theorem zi_congr {p : Nat} [P23 p] {a b : Int} (h : a % (p : Int) = b % (p : Int)) : zi p a = zi p b := zi_eq (by rw [h, ← zi_val])
theorem zi_hom {p : Nat} [P23 p] (a b : Int) : zi p (a + b) = zi p a + zi p b := by
  rw [← zi_add]
  refine zi_congr ?_
  rw [zi_val, zi_val, Int.emod_add_emod, Int.add_emod_emod]
theorem zi_mulh {p : Nat} [P23 p] (a b : Int) : zi p (a * b) = zi p a * zi p b := by
  rw [← zi_mul]
  refine zi_congr ?_
  rw [zi_val, zi_val, Int.mul_emod, ← Int.mul_emod]
theorem zi_sum {p : Nat} [P23 p] {α : Type} (f : α → Int) (g : α → Zp p) (h : ∀ x, zi p (f x) = g x) : ∀ l : List α, zi p ((l.map f).sum) = lsum (l.map g)
  | [] => zi_zero
  | x :: l => by
    rw [List.map_cons, List.sum_cons, zi_hom, h, zi_sum f g h l]; rfl
def IntV (n : Int) : Dn := fun v _ => v = .int n
theorem mon_int (n : Int) : Mon1 (IntV n) := fun _ _ _ _ h => h
theorem al_int {H : Hp} : ∀ {ns : List Int} {us : List V}, Al IntV H ns us → us = ns.map V.int
  | _, _, .nil => rfl
  | _, _, .cons h t => by rw [al_int t, h]; rfl
section
variable {P : Program} {w : World} {K : PySem.W.Frag} {mg : Str → Option Value} {base : Heap}
def rLenS (K : PySem.W.Frag) : List V → Hp → VK → Prop := fun xs H Q => ∃ p ys, xs = [.ref p] ∧ (SqL K H p ys ∨ SqT K H p ys) ∧ Q (.int ys.length) H
theorem call_lenS {X : Cx} : CallR X (.builtin "len") (rLenS X.K) := call_len_seq
theorem small_mul {p : Nat} [hp : P23 p] (x y : Zp p) : CMul (x.val : Int) (y.val : Int) := by
  have h1 := x.isLt
  have h2 := P23.le p
  have : ((2 : Int) ^ 64) = 18446744073709551616 := by decide
  refine .inl ⟨?_, ?_⟩ <;> omega
/-! ### _law_before -/
def spBefL (K : PySem.W.Frag) : Sp := fun vs H Q _ => ∃ (p : Nat) (hp : P23 p) (r rs : V) (row : List (Zp p)) (rows : List (List (Zp p))) (n : Nat), vs = [.int (p : Int), r, rs, .int (n : Int)] ∧ SeqOf In row r H ∧ LstOf (LstOf In) rows rs H ∧ row.length = rows.length ∧ row.length ≤ 100 ∧ n ≤ 100 ∧ (∀ x ∈ rows, x.length = n) ∧
  ∀ z H', Same H H' → (∀ a, z = .ref a → H a = none) → LstOf In (rowBefore row rows n) z H' → Q z H'
abbrev N_bef : List Str := ["_law_p", "_law_row_here", "_law_rows_here", "_law_n", "_law_j", "_law_k"]
theorem sc_law_before : FnScope ["_law_p", "_law_row_here", "_law_rows_here", "_law_n", "_law_j", "_law_k"] ["_law_p", "_law_row_here", "_law_rows_here", "_law_n"] (defScope s_law_before) := ⟨rfl, rfl, rfl, by decide +kernel, rfl, by decide +kernel, by decide +kernel⟩
def prodE (K : PySem.W.Frag) : TE := tOp (rI CMul fun i j => .int (i * j)) (tOp (rIx K) (tVar 1) (tVar 5)) (tOp (rIxL K) (tOp (rIxL K) (tVar 2) (tVar 5)) (tVar 4))
def befE (K : PySem.W.Frag) : TE := tCall spRest [] C8.E0 (tCons (tVar 0) (tCons (tCB (rSum K) (tCons (tLc (iRng1 (tCons (tCB (rLenS K) (tCons (tVar 1) tNil)) tNil)) (gName 5) tYes (prodE K) [5]) tNil)) tNil))
theorem lst_at {α : Type} {R : α → Dn} {xs : List α} {v : V} {H : Hp} (h : LstOf R xs v H) {i : Nat} (hi : i < xs.length) (d : α) : ∃ a vs u, v = .ref a ∧ SqL K H a vs ∧ atI vs (i : Int) = some u ∧ R (xs.getD i d) u H := by
  obtain ⟨a, vs, rfl, ha, al⟩ := h
  obtain ⟨u, hu, hR⟩ := al_at al hi d
  exact ⟨a, vs, u, rfl, SqL.of ha, at_of rfl hu, hR⟩
theorem seq_at {α : Type} {R : α → Dn} {xs : List α} {v : V} {H : Hp} (h : SeqOf R xs v H) {i : Nat} (hi : i < xs.length) (d : α) : ∃ u, R (xs.getD i d) u H ∧ ∀ Q : VK, Q u H → rIx K v (.int (i : Int)) H Q := by
  obtain ⟨a, vs, rfl, al, hs⟩ := h.un (K := K)
  obtain ⟨u, hu, hR⟩ := al_at al hi d
  exact ⟨u, hR, fun Q q => rIx_of (hs H (Same.refl _)) (at_of rfl hu) q⟩
theorem range_lt {xs : List (α)} {i : Nat} (h : i < xs.length) (d : α) : xs.getD i d ∈ xs := by
  rw [List.getD_eq_getElem?_getD, List.getElem?_eq_getElem h]; exact List.getElem_mem h
theorem ok_law_before (T : Tx K mg) : C8.Cal P w K mg base 2 "_law_before" (spBefL K) [] := by
  refine cal_mk T.g_law_before T.d_law_before sc_law_before (fun _ _ _ _ _ _ us hl => match us, hl with | [_, _, _, _], _ => rfl) (fun vs H Q E h => ?_) (fun cdv A outer s H vs Q E hr h => ?_)
  · obtain ⟨p, hp, r, rs, row, rows, n, rfl, _⟩ := h; rfl
  · obtain ⟨p, hp, r, rs, row, rows, n, rfl, hrow, hrows, hl, h100, hn, hall, q⟩ := h
    have nd := sc_law_before.nd
    refine ⟨_, pss_one (ps_ret (pe_lc (own := [("_law_j", 4)]) (g := gName 4) (tt := tYes) (te := befE K) rfl nd (pi_range1 (by rfl) T.b_range (pa_cons (pv 3) pa_nil)) (blkOk_by (N := N_bef) (sc := defScope s_law_before) (by decide +kernel)) (fun _ _ _ _ _ => pg_name (i := 4) nd rfl (Or.inr rfl)) (fun _ _ _ _ _ => pts_nil)
      (fun _ _ _ _ _ => C8.pe_c (ok_law_rest T) hr (by decide) (by rfl) (pa_cons (pv 0) (pa_cons (pe_callB (cr_sum rfl) (by rfl) T.b_sum boot_sum (pa_cons
        (pe_lc (own := [("_law_k", 5)]) (g := gName 5) (tt := tYes) (te := prodE K) rfl nd (pi_range1 (by rfl) T.b_range (pa_cons (pe_callB call_lenS (by rfl) T.b_len PySem.boot_len (pa_cons (pv 1) pa_nil)) pa_nil)) (blkOk_by (by kernel_rfl)) (fun _ _ _ _ _ => pg_name (i := 5) nd rfl (Or.inl rfl)) (fun _ _ _ _ _ => pts_nil)
          (fun _ _ _ _ _ => pe_op op_mul (pe_ix ix_seq (pv 1) (pv 5) (fun _ _ => rfl)) (pe_ix ix_list (pe_ix ix_list (pv 2) (pv 5) (fun _ _ => rfl)) (pv 4) (fun _ _ => rfl)))) pa_nil)) pa_nil))))), ?_⟩
    refine ⟨_, rfl, _, rfl, by omega, by omega, fun D hD => ?_⟩
    refine lc_map walk_range (fun j => lsum ((List.range row.length).map fun k => row.getD k 0 * (rows.getD k []).getD j 0)) In mon_in (by omega) hD (fun _ _ => trivial) ?_ ?_
    · rintro j x H1 _ hj s1 ⟨acc, ha⟩ ⟨rfl, hx⟩ Kk kk
      have hx : x = .int (j : Int) := by rw [hx]; show V.int (0 + (j : Int)) = _; rw [Int.zero_add]
      subst hx
      have hrow1 := mon_seq mon_in row _ _ _ s1 hrow
      obtain ⟨ra, rvs, rfl, alr, hsq⟩ := hrow1.un (K := K)
      have lr := alr.length
      refine ⟨rfl, _, rfl, _, rfl, ra, rvs, rfl, hsq _ (Same.refl _), _, rfl, by omega, by omega, fun D2 hD2 => ?_⟩
      refine lc_map walk_range (fun k => ((row.getD k 0).val : Int) * (((rows.getD k []).getD j 0).val : Int)) IntV mon_int (by omega) hD2 (fun _ _ => trivial) ?_ ?_
      · rintro k y H2 _ hk s2 ⟨acc2, ha2⟩ ⟨rfl, hy⟩ Kk2 kk2
        have hy : y = .int (k : Int) := by rw [hy]; show V.int (0 + (k : Int)) = _; rw [Int.zero_add]
        subst hy
        have hk' : k < row.length := by omega
        have s12 := s1.trans s2
        obtain ⟨u, hu, hix⟩ := seq_at (K := K) (mon_seq mon_in row _ _ _ s2 hrow1) hk' 0
        obtain ⟨a1, vs1, u1, rfl, hs1, at1, hR1⟩ := lst_at (K := K) (mon_lst mon_lin rows _ _ _ s12 hrows) (i := k) (by omega) []
        have lrow := hall _ (range_lt (by omega : k < rows.length) [])
        obtain ⟨a2, vs2, u2, rfl, hs2, at2, hR2⟩ := lst_at (K := K) hR1 (i := j) (by omega) 0
        refine ⟨rfl, _, rfl, _, rfl, hix _ ⟨_, rfl, _, rfl, a1, vs1, _, _, rfl, rfl, hs1, at1, _, rfl, a2, vs2, _, _, rfl, rfl, hs2, at2, _, _, hu, hR2, small_mul _ _, kk2 _ _ (Same.refl _) rfl⟩⟩
      · intro H2 us2 s2 hD2' al2
        have e := al_int al2
        rw [show ((rvs.length : Int)).toNat = rvs.length from Int.toNat_natCast _, lr] at e
        subst e
        refine ⟨D2, _, rfl, SqL.of hD2', p, hp, _, rfl, kk _ _ s2 ?_⟩
        show V.int _ = V.int _
        rw [zi_sum _ (fun k => row.getD k 0 * (rows.getD k []).getD j 0) (fun k => zi_mul _ _)]
    · intro H1 us1 s1 hD1 al1
      rw [show ((n : Int)).toNat = n from Int.toNat_natCast _] at al1
      exact q _ _ s1 (fun a e => by injection e with e; rw [← e]; exact hD) ⟨D, us1, rfl, hD1, al_in al1⟩
/-! ### _law_dot -/
def spDot (K : PySem.W.Frag) : Sp := fun vs H Q _ => ∃ (p : Nat) (hp : P23 p) (r c : V) (row col : List (Zp p)), vs = [.int (p : Int), r, c] ∧ SeqOf In row r H ∧ LstOf In col c H ∧ row.length = col.length ∧ row.length ≤ 100 ∧
  ∀ H', Same H H' → Q (.int ((dotF row col).val : Int)) H'
abbrev N_dot : List Str := ["_law_p", "_law_row_here", "_law_column", "_law_k"]
theorem sc_law_dot : FnScope ["_law_p", "_law_row_here", "_law_column", "_law_k"] ["_law_p", "_law_row_here", "_law_column"] (defScope s_law_dot) := ⟨rfl, rfl, rfl, by decide +kernel, rfl, by decide +kernel, by decide +kernel⟩
def dotE (K : PySem.W.Frag) : TE := tOp (rI CMul fun i j => .int (i * j)) (tOp (rIx K) (tVar 1) (tVar 3)) (tOp (rIxL K) (tVar 2) (tVar 3))
theorem ok_law_dot (T : Tx K mg) : C8.Cal P w K mg base 2 "_law_dot" (spDot K) [] := by
  refine cal_mk T.g_law_dot T.d_law_dot sc_law_dot (fun _ _ _ _ _ _ us hl => match us, hl with | [_, _, _], _ => rfl) (fun vs H Q E h => ?_) (fun cdv A outer s H vs Q E hr h => ?_)
  · obtain ⟨p, hp, r, c, row, col, rfl, _⟩ := h; rfl
  · obtain ⟨p, hp, r, c, row, col, rfl, hrow, hcol, hl, h100, q⟩ := h
    have nd := sc_law_dot.nd
    refine ⟨_, pss_one (ps_ret (C8.pe_c (ok_law_rest T) hr (by decide) (by rfl) (pa_cons (pv 0) (pa_cons (pe_callB (cr_sum rfl) (by rfl) T.b_sum boot_sum (pa_cons
        (pe_lc (own := [("_law_k", 3)]) (g := gName 3) (tt := tYes) (te := dotE K) rfl nd (pi_range1 (by rfl) T.b_range (pa_cons (pe_callB call_lenS (by rfl) T.b_len PySem.boot_len (pa_cons (pv 1) pa_nil)) pa_nil)) (blkOk_by (N := N_dot) (sc := defScope s_law_dot) (by decide +kernel)) (fun _ _ _ _ _ => pg_name (i := 3) nd rfl (Or.inl rfl)) (fun _ _ _ _ _ => pts_nil)
          (fun _ _ _ _ _ => pe_op op_mul (pe_ix ix_seq (pv 1) (pv 3) (fun _ _ => rfl)) (pe_ix ix_list (pv 2) (pv 3) (fun _ _ => rfl)))) pa_nil)) pa_nil)))), ?_⟩
    obtain ⟨ra, rvs, rfl, alr, hsq⟩ := id (hrow.un (K := K))
    have lr := alr.length
    refine ⟨_, rfl, _, rfl, ra, rvs, rfl, hsq _ (Same.refl _), _, rfl, by omega, by omega, fun D2 hD2 => ?_⟩
    refine lc_map walk_range (fun k => ((row.getD k 0).val : Int) * ((col.getD k 0).val : Int)) IntV mon_int (by omega) hD2 (fun _ _ => trivial) ?_ ?_
    · rintro k y H2 _ hk s2 ⟨acc2, ha2⟩ ⟨rfl, hy⟩ Kk2 kk2
      have hy : y = .int (k : Int) := by rw [hy]; show V.int (0 + (k : Int)) = _; rw [Int.zero_add]
      subst hy
      have hk' : k < row.length := by omega
      obtain ⟨u, hu, hix⟩ := seq_at (K := K) (mon_seq mon_in row _ _ _ s2 hrow) hk' 0
      obtain ⟨a2, vs2, u2, rfl, hs2, at2, hR2⟩ := lst_at (K := K) (mon_lin col _ _ _ s2 hcol) (i := k) (by omega) 0
      refine ⟨rfl, _, rfl, _, rfl, hix _ ⟨_, rfl, _, rfl, a2, vs2, _, _, rfl, rfl, hs2, at2, _, _, hu, hR2, small_mul _ _, kk2 _ _ (Same.refl _) rfl⟩⟩
    · intro H2 us2 s2 hD2' al2
      have e := al_int al2
      rw [show ((rvs.length : Int)).toNat = rvs.length from Int.toNat_natCast _, lr] at e
      subst e
      refine ⟨D2, _, rfl, SqL.of hD2', p, hp, _, rfl, ?_⟩
      rw [zi_sum _ (fun k => row.getD k 0 * col.getD k 0) (fun k => zi_mul _ _)]
      exact q _ s2
/-! ### _law_is -/
def spIs : Sp := fun vs H Q _ => ∃ (a b : Bool), vs = [.bl a, .bl b] ∧ Q (.bl (decide (a = b))) H
theorem sc_law_is : FnScope ["_law_told", "_law_due"] ["_law_told", "_law_due"] (defScope s_law_is) := ⟨rfl, rfl, rfl, by decide +kernel, rfl, by decide +kernel, by decide +kernel⟩
theorem ok_law_is (T : Tx K mg) : C8.Cal P w K mg base 1 "_law_is" spIs [] := by
  refine cal_mk T.g_law_is T.d_law_is sc_law_is (fun _ _ _ _ _ _ us hl => match us, hl with | [_, _], _ => rfl) (fun vs H Q E h => ?_) (fun cdv A outer s H vs Q E hr h => ?_)
  · obtain ⟨a, b, rfl, _⟩ := h; rfl
  · obtain ⟨a, b, rfl, q⟩ := h
    refine ⟨_, pss_one (ps_ret (pe_and (pe_callB call_isi (by rfl) T.b_isinstance boot_isinstance (pa_cons (pv 0) (pa_cons (pe_bltn (v := .ty "bool") (by rfl) T.b_bool boot_bool rfl) pa_nil)))
      (pe_one (pe_cmpR op_eq (pv 0) (pv 1) (nomark _))))), ?_⟩
    refine ⟨_, rfl, _, _, _, _, true, rfl, .ty _, .base (.bl a), kit_bool_bool, true, rfl, ?_⟩
    refine iteT ⟨_, rfl, _, rfl, rfl, ?_⟩
    have e : decide (V.bl a = V.bl b) = decide (a = b) := by cases a <;> cases b <;> decide
    rw [e]; exact q
end
end K47

/-! text X3 -/
/-! a dict display with one tuple key; sorted of tuples of ints of any length -/
namespace K47
open PySem PySem.Spec PyProof.Rows L2
def tDisp1T (tk tv : TE) : TE := fun σ H Q => ∀ p, H p = none → tk σ (upd H p (.dT [])) fun x H1 => tv σ H1 fun y H2 => ∃ b ks, x = .ref b ∧ H2 b = some (.tup (ks.map kV)) ∧ H2 p = some (.dT []) ∧ Q (.ref p) (upd H2 p (.dT [(ks, y)]))
def pairQ (R : V → V → Prop) : List (V × V) → Prop
  | [(x, y)] => R x y
  | _ => False
theorem pairQ_out {R : V → V → Prop} : ∀ {ps : List (V × V)}, pairQ R ps → ∃ x y, ps = [(x, y)] ∧ R x y
  | [(x, y)], h => ⟨x, y, rfl, h⟩
  | [], h => h.elim
  | _ :: _ :: _, h => h.elim
theorem pe_disp1T {X : Cx} {k v : Expr} {tk tv : TE} {pos : Pos} (hu : X.A.units + 1 < cLine) (hk : PE X k tk) (hv : PE X v tv) : PE X (.Dict [some k] [v] pos) (tDisp1T tk tv) := by
  refine ⟨fun pins s σ H Q I q => ?_⟩
  have hn := I.hok.fresh (Nat.le_refl s.heap.objs.size)
  have I1 := I.laid (a := s.heap.objs.size) (o := .dT []) (h' := s.heap.push { cls := .type "dict", data := .dict #[] }) (t' := s.toks) (fun _ _ q => Heap.get?_push_of_some _ q) (Nat.le_refl _) (dt_empty s.heap I.big)
  have hl : (pairTrees [some k] [v] X.env pos).length = 1 := by rw [pairTrees_length _ _ _ _ rfl rfl]; rfl
  rw [arm_eval_Dict, zip_pairTrees [some k] [v] X.env pos rfl rfl, dictDisplay_pairs _ (by intro h; rw [h] at hl; cases hl) (by rw [hl]; decide)]
  refine wpAny_bind (wpAny_standAt (wpAny_bind (wpAny_subDictH (knd := tupleKind (mixKind X.prog X.w)) (Q := fun d s' => wpAny (model X.prog X.w) X.A (pure (Value.ref d)) (EP X pins σ Q) X.xe s') (by exact Nat.lt_of_le_of_lt (Nat.le_succ _) hu) (by rw [hl]; decide) ?_)))
  have h0 : tPairs [(tk, tv)] σ (upd H s.heap.objs.size (.dT [])) (fun ps H2 => pairQ (fun x y => ∃ b ks, x = .ref b ∧ H2 b = some (.tup (ks.map kV)) ∧ H2 s.heap.objs.size = some (.dT []) ∧ Q (.ref s.heap.objs.size) (upd H2 s.heap.objs.size (.dT [(ks, y)]))) ps) := q _ hn
  refine thn ((pps_cons hk hv pps_nil).run pins _ σ _ _ I1 h0) fun ws s2 ⟨ps, H2, I2, rel, q2⟩ => ?_
  obtain ⟨x, y, rfl, q2⟩ := pairQ_out q2
  obtain ⟨b, ks, rfl, hb, hp, q2⟩ := q2
  cases rel with
  | @cons _ p1 _ rest hp1 t =>
    cases t
    obtain ⟨u, w2⟩ := p1
    obtain ⟨ru, rw2⟩ := hp1
    cases (show u = Value.ref b from ru)
    obtain ⟨z, hd, xs, kt, dd⟩ := dt_of I2.hok hp
    cases kt
    refine ⟨[(ks, b, w2)], ⟨rfl, rfl, key_of I2.hok hb, trivial⟩, dd, fun h' tk' dd' hs => wpAny_pure ?_⟩
    obtain ⟨q0, es, ep, hq, h2, h3, h4, _, h5⟩ := dd'
    have kt1 : KT H2 (putK [] ks y) (storedH [] ks b w2) := KT.put (kvs := []) (xs := []) .nil ks hb rw2
    refine ⟨.ref s.heap.objs.size, upd H2 s.heap.objs.size (.dT [(ks, y)]), d_write (t' := tk') I2 (by rw [hp]; exact True.intro) hs ⟨q0, hq⟩ ⟨(by show 1 ≤ sizeLine; decide), hd, _, kt1.keeps fun c ys ec => ?_, q0, es, ep, hq, h2, h3, h4, h5⟩, rfl, q2⟩
    rw [upd_ne (ne_of ec hp (fun z => nomatch z))]
    exact ec
/-! ### sorted -/
theorem perm_short {α : Type} {a b : List α} (h : a.Perm b) (h2 : b.length < 2) : a = b := by
  rcases b with _ | ⟨x, _ | ⟨y, t⟩⟩
  · exact h.eq_nil
  · exact h.eq_singleton
  · simp at h2; omega
theorem pw_short {α : Type} {R : α → α → Prop} {a : List α} (h2 : a.length < 2) : a.Pairwise R := by
  rcases a with _ | ⟨x, _ | ⟨y, t⟩⟩
  · exact .nil
  · exact List.pairwise_singleton _ _
  · simp at h2; omega
def noLt : Value → Value → Bool := fun _ _ => false
theorem swo_no : SrtO.Swo noLt := ⟨fun _ _ h => absurd h Bool.false_ne_true, fun _ _ _ _ _ => rfl⟩
theorem cr_sort1 {X : Cx} : CallR X (.builtin "sorted") (fun vs H Q => ∃ (a : Addr) (xs : List V), vs = [V.ref a] ∧ SqL X.K H a xs ∧ xs.length < 2 ∧ ∀ p : Addr, H p = none → Q (.ref p) (upd H p (.lst xs))) := by
  intro pins s σ H vs us Q I r h
  obtain ⟨a, xs, rfl, hs, h2, q⟩ := h
  obtain ⟨its, rv, hl, hz⟩ := I.list hs
  rw [Vals.ref1 r]
  have lv := rv.length
  refine SrtO.sorted_ord (ltv := noLt) swo_no hl.isList (by rw [← lv]; exact hz) (fun h => absurd h (by omega)) fun out h1 hb => ?_
  obtain ⟨ep, he'⟩ := PyProof.Rows.sortedAll_at s.heap its out.toArray
  have e : out = its := perm_short hb.perm (by omega)
  subst e
  exact ⟨.ref _, upd H (s.heap.objs.size + 1) (.lst xs), I.laid (t' := s.toks) (fun _ _ => PyProof.Rows.sortedAll_old) (Nat.le_succ _) ⟨hz, out, ep, rv, he'⟩, rfl, q _ (I.hok.fresh (Nat.le_succ _))⟩
/-- sorted(xs) of fewer than 64 tuples of d ints in [0, B); d may be 0, of one item then -/
def rSortL (K : PySem.W.Frag) (d : Nat) (B : Int) : List V → Hp → VK → Prop := fun vs H Q => ∃ (a : Addr) (xs : List V), vs = [V.ref a] ∧ SqL K H a xs ∧ xs.length < 64 ∧ (d = 0 → xs.length < 2) ∧ (∀ x ∈ xs, ∃ ns, TupI K H x ns ∧ ns.length = d ∧ TS.Bd B ns) ∧
  ∀ (ys : List V) (p : Addr), ys.Perm xs → ys.Pairwise (fun x y => ∀ n m, TupI K H x n → TupI K H y m → TS.code B n ≤ TS.code B m) → H p = none → Q (.ref p) (upd H p (.lst ys))
theorem cr_sortL {X : Cx} {d : Nat} {B : Int} : CallR X (.builtin "sorted") (rSortL X.K d B) := by
  intro pins s σ H vs us Q I r h
  obtain ⟨a, xs, e, hs, h64, h0, hx, q⟩ := h
  by_cases hd : d = 0
  · refine cr_sort1 pins s σ H vs us Q I r ⟨a, xs, e, hs, h0 hd, fun p hp => q xs p (List.Perm.refl _) (pw_short (h0 hd)) hp⟩
  · exact cr_sortT (by omega) pins s σ H vs us Q I r ⟨a, xs, e, hs, h64, hx, q⟩
end K47

/-! text L4 -/
/-! the law's lists of states -/
namespace K47
open PySem PySem.Spec PyProof.Rows L2
section
variable {F : Type} [Fld F] [DecidableEq F]
def addMul (n : Nat) (word : Row F) (a : F) (row : Row F) : Row F := (List.range n).map fun k => word.getD k 0 + a * row.getD k 0
def spanStep (n : Nat) (found : List (Row F)) (row : Row F) : List (Row F) := found.flatMap fun word => Fld.all.map fun a => addMul n word a row
def spanL (rows : List (Row F)) (n : Nat) : List (Row F) := rows.foldl (spanStep n) [List.replicate n 0]
def statesL (F : Type) [Fld F] : Nat → List (Row F)
  | 0 => [[]]
  | n + 1 => (statesL F n).flatMap fun row => Fld.all.map fun x => row ++ [x]
def lpow (rows : List (Row F)) (n : Nat) (x : Row F) : Nat → Row F
  | 0 => x
  | k + 1 => rowBefore (lpow rows n x k) rows n
def darkB (rows : List (Row F)) (x c : Row F) (n : Nat) : Bool := (List.range (2 * n + 1)).all fun k => decide (dotF (lpow rows n x k) c = 0)
def insK (found : List (Row F)) (x : Row F) : List (Row F) := if x ∈ found then found else found ++ [x]
def reachOne (rows : List (Row F)) (b : Row F) (n : Nat) (found : List (Row F)) (x : Row F) : List (Row F) := Fld.all.foldl (fun f u => insK f (addMul n (rowBefore x rows n) u b)) found
def reachStep (rows : List (Row F)) (b : Row F) (n : Nat) (found : List (Row F)) : List (Row F) := found.foldl (reachOne rows b n) found
def reachL (rows : List (Row F)) (b : Row F) (n : Nat) : Nat → List (Row F)
  | 0 => [List.replicate n 0]
  | t + 1 => reachStep rows b n (reachL rows b n t)
theorem flat_len {α β : Type} {f : α → List β} {m : Nat} (h : ∀ x, (f x).length = m) : ∀ l : List α, (l.flatMap f).length = l.length * m
  | [] => by simp
  | x :: l => by rw [List.flatMap_cons, List.length_append, h, flat_len h l, List.length_cons, Nat.add_mul]; omega
theorem spanStep_len {n : Nat} {found : List (Row F)} {row : Row F} : (spanStep n found row).length = found.length * (Fld.all (F := F)).length := flat_len (fun x => by rw [List.length_map]) found
theorem spanFold_len {n : Nat} : ∀ (rows found : List (Row F)), (rows.foldl (spanStep n) found).length = found.length * (Fld.all (F := F)).length ^ rows.length
  | [], found => by simp
  | r :: rows, found => by
    rw [List.foldl_cons, spanFold_len rows, spanStep_len, List.length_cons, Nat.pow_succ, Nat.mul_assoc, Nat.mul_comm ((Fld.all (F := F)).length) _]
theorem spanL_len {n : Nat} (rows : List (Row F)) : (spanL rows n).length = (Fld.all (F := F)).length ^ rows.length := by
  unfold spanL; rw [spanFold_len]; simp
theorem statesL_len : ∀ n : Nat, (statesL F n).length = (Fld.all (F := F)).length ^ n
  | 0 => rfl
  | n + 1 => by rw [statesL, flat_len (fun x => by rw [List.length_map]), statesL_len n, Nat.pow_succ]
theorem addMul_len (n : Nat) (word : Row F) (a : F) (row : Row F) : (addMul n word a row).length = n := by simp [addMul]
theorem spanFold_row {n : Nat} : ∀ (rows found : List (Row F)), (∀ x ∈ found, x.length = n) → ∀ x ∈ rows.foldl (spanStep n) found, x.length = n
  | [], found, h => h
  | r :: rows, found, h => spanFold_row rows _ fun x hx => by
    obtain ⟨w, _, hx⟩ := List.mem_flatMap.mp hx
    obtain ⟨a, _, e⟩ := List.mem_map.mp hx
    rw [← e]; exact addMul_len _ _ _ _
theorem spanL_row {n : Nat} (rows : List (Row F)) : ∀ x ∈ spanL rows n, x.length = n := spanFold_row rows _ fun x hx => by rw [List.mem_singleton.mp hx, List.length_replicate]
theorem statesL_row : ∀ (n : Nat) (x : Row F), x ∈ statesL F n → x.length = n
  | 0, x, hx => by rw [List.mem_singleton.mp hx]; rfl
  | n + 1, x, hx => by
    obtain ⟨w, hw, hx⟩ := List.mem_flatMap.mp hx
    obtain ⟨a, _, e⟩ := List.mem_map.mp hx
    rw [← e, List.length_append, statesL_row n w hw]; rfl
theorem rowBefore_len (row : Row F) (rows : List (Row F)) (n : Nat) : (rowBefore row rows n).length = n := by simp [rowBefore]
theorem lpow_len {rows : List (Row F)} {n : Nat} {x : Row F} (hx : x.length = n) : ∀ k, (lpow rows n x k).length = n
  | 0 => hx
  | k + 1 => rowBefore_len _ _ _
end
theorem all_zp {p : Nat} [P23 p] : (Fld.all (F := Zp p)) = (List.range p).map fun (a : Nat) => zi p (a : Int) := by
  refine List.ext_getElem (by show (List.finRange p).length = _; simp) fun i h1 h2 => ?_
  have hi : i < p := by simpa using h2
  rw [List.getElem_map, List.getElem_range]
  show (List.finRange p)[i]'_ = _
  rw [List.getElem_finRange]
  have := zi_self (p := p) ⟨i, hi⟩
  exact this.symm
theorem all_len {p : Nat} [P23 p] : (Fld.all (F := Zp p)).length = p := by rw [all_zp]; simp
/-! lists of values and lists of data -/
theorem al_perm {α : Type} {R : α → Dn} {H : Hp} {us vs : List V} (h : us.Perm vs) : ∀ {xs : List α}, Al R H xs vs → ∃ ys : List α, ys.Perm xs ∧ Al R H ys us := by
  induction h with
  | nil => intro xs a; exact ⟨xs, List.Perm.refl _, a⟩
  | cons x h ih =>
    intro xs a
    cases a with
    | cons r t =>
      obtain ⟨ys, hp, al⟩ := ih t
      exact ⟨_ :: ys, hp.cons _, .cons r al⟩
  | swap x y l =>
    intro xs a
    cases a with
    | cons r t =>
      cases t with
      | cons r2 t2 => exact ⟨_ :: _ :: _, List.Perm.swap _ _ _, .cons r2 (.cons r t2)⟩
  | trans h1 h2 ih1 ih2 =>
    intro xs a
    obtain ⟨ys, hp, al⟩ := ih2 a
    obtain ⟨zs, hp2, al2⟩ := ih1 al
    exact ⟨zs, hp2.trans hp, al2⟩
theorem al_mem {α : Type} {R : α → Dn} {H : Hp} : ∀ {xs : List α} {vs : List V}, Al R H xs vs → ∀ v ∈ vs, ∃ x ∈ xs, R x v H
  | _, _, .cons r t, v, hv => by
    rcases List.mem_cons.mp hv with e | e
    · subst e; exact ⟨_, List.mem_cons_self, r⟩
    · obtain ⟨x, hx, hr⟩ := al_mem t v e
      exact ⟨x, List.mem_cons_of_mem _ hx, hr⟩
theorem al_mem' {α : Type} {R : α → Dn} {H : Hp} : ∀ {xs : List α} {vs : List V}, Al R H xs vs → ∀ x ∈ xs, ∃ v ∈ vs, R x v H
  | _, _, .cons r t, x, hx => by
    rcases List.mem_cons.mp hx with e | e
    · subst e; exact ⟨_, List.mem_cons_self, r⟩
    · obtain ⟨v, hv, hr⟩ := al_mem' t x e
      exact ⟨v, List.mem_cons_of_mem _ hv, hr⟩
theorem al_pw {α : Type} {R : α → Dn} {H : Hp} {S : V → V → Prop} {S' : α → α → Prop} (h : ∀ x y u v, R x u H → R y v H → S u v → S' x y) : ∀ {xs : List α} {vs : List V}, Al R H xs vs → vs.Pairwise S → xs.Pairwise S'
  | _, _, .nil, _ => .nil
  | _, _, .cons r t, hp => by
    obtain ⟨h1, h2⟩ := List.pairwise_cons.mp hp
    refine List.pairwise_cons.mpr ⟨fun y hy => ?_, al_pw h t h2⟩
    obtain ⟨v, hv, hr⟩ := al_mem' t y hy
    exact h _ _ _ _ r hr (h1 v hv)
def zints {p : Nat} (x : List (Zp p)) : List Int := x.map fun z => (z.val : Int)
theorem al_ints {p : Nat} {H : Hp} : ∀ {x : List (Zp p)} {us : List V}, Al In H x us → us = (zints x).map V.int
  | _, _, .nil => rfl
  | _, _, .cons h t => by
    rw [al_ints t, h]; rfl
theorem ints_bd {p : Nat} (x : List (Zp p)) : TS.Bd (p : Int) (zints x) := fun m hm => by
  obtain ⟨z, _, e⟩ := List.mem_map.mp hm
  have := z.isLt
  rw [← e]; omega
def codeLe {p : Nat} (x y : List (Zp p)) : Prop := TS.code (p : Int) (zints x) ≤ TS.code (p : Int) (zints y)
section
variable {P : Program} {w : World} {K : PySem.W.Frag} {mg : Str → Option Value} {base : Heap}
abbrev TupL {p : Nat} (x : List (Zp p)) : Dn := TupOf In x
theorem mon_tin {p : Nat} (x : List (Zp p)) : Mon1 (TupL x) := mon_tup mon_in x
theorem imm_tin {p : Nat} (x : List (Zp p)) : Imm (TupL x) := imm_tup imm_in x
theorem tup_ti {p : Nat} {x : List (Zp p)} {v : V} {H : Hp} (h : TupL x v H) : TupI K H v (zints x) := by
  obtain ⟨a, us, rfl, ha, al⟩ := h
  exact ⟨a, rfl, by rw [← al_ints al]; exact SqT.of ha⟩
/-- sorted of data -/
theorem sorted_data {p n : Nat} {xs : List (List (Zp p))} {a : Addr} {us : List V} {H : Hp} {Q : VK} (ha : SqL K H a us) (al : Al TupL H xs us) (h64 : xs.length < 64) (h0 : n = 0 → xs.length < 2) (hn : ∀ x ∈ xs, x.length = n)
    (q : ∀ z ys H', Same H H' → (ys : List (List (Zp p))).Perm xs → ys.Pairwise codeLe → LstOf TupL ys z H' → Q z H') : rSortL K n (p : Int) [.ref a] H Q := by
  refine ⟨a, us, rfl, ha, by rw [al.length]; exact h64, fun e => by rw [al.length]; exact h0 e, fun v hv => ?_, fun vs q1 hp hpw hq1 => ?_⟩
  · obtain ⟨x, hx, hr⟩ := al_mem al v hv
    exact ⟨zints x, tup_ti hr, by unfold zints; rw [List.length_map]; exact hn x hx, ints_bd x⟩
  · obtain ⟨ys, hpy, aly⟩ := al_perm hp al
    exact q _ ys _ (same_upd hq1) hpy (al_pw (fun x y u v hx hy h => h _ _ (tup_ti hx) (tup_ti hy)) aly hpw) ⟨q1, vs, rfl, upd_same, aly.mono mon_tin (same_upd hq1)⟩
def rTupOf (K : PySem.W.Frag) : List V → Hp → VK → Prop := fun xs H Q => ∃ p ys, xs = [.ref p] ∧ ((SqL K H p ys ∧ ∀ l, H l = none → Q (.ref l) (upd H l (.tup ys))) ∨ (SqT K H p ys ∧ Q (.ref p) H))
theorem call_tupOf {X : Cx} : CallR X (.type "tuple") (rTupOf X.K) := call_tuple_of
end
end K47

/-! text L5 -/
/-! _law_span, _law_states, _law_is_dark -/
namespace K47
open PySem PySem.Spec PyProof.Rows L2
section
variable {P : Program} {w : World} {K : PySem.W.Frag} {mg : Str → Option Value} {base : Heap}
def amE (K : PySem.W.Frag) (ip iw ir ia ik : Nat) : TE := tCall spRest [] C8.E0 (tCons (tVar ip) (tCons (tOp (rI0 fun i j => .int (i + j)) (tOp (rIx K) (tVar iw) (tVar ik)) (tOp (rI CMul fun i j => .int (i * j)) (tVar ia) (tOp (rIxL K) (tVar ir) (tVar ik)))) tNil))
def tupE (K : PySem.W.Frag) (ip iw ir ia ik iN : Nat) : TE := tCB (rTupOf K) (tCons (tLc (iRng1 (tCons (tVar iN) tNil)) (gName ik) tYes (amE K ip iw ir ia ik) [ik]) tNil)
theorem am_read {p : Nat} [hp : P23 p] {ip iw ir ia ik k : Nat} {wv rv : V} {word row : List (Zp p)} {a : Zp p} {σ : L2.St} {H : Hp} {Q : VK} (h1 : σ[ip]? = some (some (.int (p : Int)))) (h2 : σ[iw]? = some (some wv)) (h3 : σ[ir]? = some (some rv)) (h4 : σ[ia]? = some (some (.int (a.val : Int)))) (h5 : σ[ik]? = some (some (.int (k : Int))))
    (hw : SeqOf In word wv H) (hr : LstOf In row rv H) (k1 : k < word.length) (k2 : k < row.length) (q : Q (.int ((word.getD k 0 + a * row.getD k 0).val : Int)) H) : amE K ip iw ir ia ik σ H Q := by
  obtain ⟨u, hu, hix⟩ := seq_at (K := K) hw k1 0
  obtain ⟨a2, vs2, u2, rfl, hs2, at2, hR2⟩ := lst_at (K := K) hr k2 0
  have hu : u = .int ((word.getD k 0).val : Int) := hu
  have hR2 : u2 = .int ((row.getD k 0).val : Int) := hR2
  subst hu
  subst hR2
  refine ⟨_, h1, _, h2, _, h5, hix _ ⟨_, h4, _, h3, _, h5, a2, vs2, _, _, rfl, rfl, hs2, at2, _, _, rfl, rfl, small_mul _ _, _, _, rfl, rfl, p, hp, _, rfl, ?_⟩⟩
  rw [zi_hom, zi_mul, zi_self]
  exact q
theorem tup_read {p : Nat} [hp : P23 p] {ip iw ir ia ik iN n : Nat} {wv rv : V} {word row : List (Zp p)} {a : Zp p} {σ : L2.St} {H : Hp} {Q : VK} (h0 : σ[iN]? = some (some (.int (n : Int)))) (hwp : ∀ x, wipe ((wipe σ [ik]).set ik (some x)) [ik] = wipe σ [ik])
    (h1 : ∀ x, ((wipe σ [ik]).set ik (some x))[ip]? = some (some (.int (p : Int)))) (h2 : ∀ x, ((wipe σ [ik]).set ik (some x))[iw]? = some (some wv)) (h3 : ∀ x, ((wipe σ [ik]).set ik (some x))[ir]? = some (some rv)) (h4 : ∀ x, ((wipe σ [ik]).set ik (some x))[ia]? = some (some (.int (a.val : Int)))) (h5 : ∀ x, ((wipe σ [ik]).set ik (some x))[ik]? = some (some x))
    (hw : SeqOf In word wv H) (hr : LstOf In row rv H) (k1 : word.length = n) (k2 : row.length = n) (hn : n ≤ 100) (q : ∀ z H', Same H H' → TupL (addMul n word a row) z H' → Q z H') : tupE K ip iw ir ia ik iN σ H Q := by
  refine ⟨_, h0, _, rfl, by omega, by omega, fun D hD => ?_⟩
  refine lc_map walk_range (fun k => word.getD k 0 + a * row.getD k 0) In mon_in (by omega) hD (fun _ _ => trivial) ?_ ?_
  · rintro k x H1 _ hk s1 ⟨acc, ha⟩ ⟨rfl, hx⟩ Kk kk
    have hx : x = .int (k : Int) := by rw [hx]; show V.int (0 + (k : Int)) = _; rw [Int.zero_add]
    subst hx
    exact ⟨hwp _, am_read (h1 _) (h2 _) (h3 _) (h4 _) (h5 _) (mon_seq mon_in word _ _ _ s1 hw) (mon_lin row _ _ _ s1 hr) (by omega) (by omega) (kk _ _ (Same.refl _) rfl)⟩
  · intro H1 us s1 hD1 al
    rw [show ((n : Int)).toNat = n from Int.toNat_natCast _] at al
    exact ⟨D, us, rfl, .inl ⟨SqL.of hD1, fun t ht => q _ _ (s1.trans (same_upd ht)) ⟨t, us, rfl, upd_same, al_in al⟩⟩⟩
/-! ### _law_span -/
def spSpan (K : PySem.W.Frag) : Sp := fun vs H Q _ => ∃ (p : Nat) (hp : P23 p) (rs : V) (rows : List (List (Zp p))) (n : Nat), vs = [.int (p : Int), rs, .int (n : Int)] ∧ LstOf (LstOf In) rows rs H ∧ (∀ r ∈ rows, r.length = n) ∧ p ^ rows.length < 64 ∧ (n = 0 → rows = []) ∧ n ≤ 8 ∧ rows.length ≤ 8 ∧
  ∀ z ys H', Same H H' → (ys : List (List (Zp p))).Perm (spanL rows n) → ys.Pairwise codeLe → LstOf TupL ys z H' → Q z H'
abbrev N_span : List Str := ["_law_p", "_law_rows_here", "_law_n", "_law_found", "_law_row_here", "_law_longer", "_law_word", "_law_k", "_law_a"]
theorem sc_law_span : FnScope ["_law_p", "_law_rows_here", "_law_n", "_law_found", "_law_row_here", "_law_longer", "_law_word", "_law_k", "_law_a"] ["_law_p", "_law_rows_here", "_law_n"] (defScope s_law_span) := ⟨rfl, rfl, rfl, by decide +kernel, rfl, by decide +kernel, by decide +kernel⟩
theorem zeros_read {n : Nat} {p : Nat} [hp : P23 p] {H : Hp} {us : List V} (al : Al In H ((List.range n).map fun _ => (0 : Zp p)) us) : Al In H (List.replicate n (0 : Zp p)) us := by
  have e : (List.range n).map (fun _ => (0 : Zp p)) = List.replicate n 0 := by
    refine List.ext_getElem (by simp) fun i h1 h2 => by simp
  rw [← e]; exact al
theorem pow_le_of {p a b : Nat} (h : a ≤ b) (hp : 1 ≤ p) : p ^ a ≤ p ^ b := Nat.pow_le_pow_right hp h
theorem ok_law_span (T : Tx K mg) : C8.Cal P w K mg base 2 "_law_span" (spSpan K) [] := by
  refine cal_mk T.g_law_span T.d_law_span sc_law_span (fun _ _ _ _ _ _ us hl => match us, hl with | [_, _, _], _ => rfl) (fun vs H Q E h => ?_) (fun cdv A outer s H vs Q E hr h => ?_)
  · obtain ⟨p, hp, rs, rows, n, rfl, _⟩ := h; rfl
  · obtain ⟨p, hp, rs, rows, n, rfl, hrs, hrow, h64, hn0, hn8, hr8, q⟩ := h
    have nd := sc_law_span.nd
    refine ⟨_, pss_cons (ps_set (i := 3) nd rfl (Or.inl rfl) (pe_lst (pa_cons (pe_callTy call_tupOf (by rfl) T.b_tuple boot_tuple (pa_cons
        (pe_lc (own := [("_law_k", 7)]) (g := gName 7) (tt := tYes) (te := tC (.int 0)) rfl nd (pi_range1 (by rfl) T.b_range (pa_cons (pv 2) pa_nil)) (blkOk_by (N := N_span) (sc := defScope s_law_span) (by decide +kernel)) (fun _ _ _ _ _ => pg_name (i := 7) nd rfl (Or.inl rfl)) (fun _ _ _ _ _ => pts_nil) (fun _ _ _ _ _ => pe_int)) pa_nil)) pa_nil)))
      (pss_cons (ps_for PassesOwn.never rfl (pi_list (pv 1)) (pg_name (i := 4) nd rfl (Or.inr rfl))
        (pss_cons (ps_set (i := 5) nd rfl (Or.inl rfl) (pe_lst pa_nil))
        (pss_cons (ps_for PassesOwn.never rfl (pi_list (pv 3)) (pg_name (i := 6) nd rfl (Or.inr rfl))
          (pss_one (ps_set (i := 5) nd rfl (Or.inl rfl) (pe_op op_cat (pv 5)
            (pe_lc (own := [("_law_a", 8)]) (g := gName 8) (tt := tYes) (te := tupE K 0 6 4 8 7 2) rfl nd (pi_range1 (by rfl) T.b_range (pa_cons (pv 0) pa_nil)) (blkOk_by (N := N_span) (sc := defScope s_law_span) (by decide +kernel)) (fun _ _ _ _ _ => pg_name (i := 8) nd rfl (Or.inr rfl)) (fun _ _ _ _ _ => pts_nil)
              (fun _ _ _ _ _ => pe_callTy call_tupOf (by rfl) T.b_tuple boot_tuple (pa_cons
                (pe_lc (own := [("_law_k", 7)]) (g := gName 7) (tt := tYes) (te := amE K 0 6 4 8 7) rfl nd (pi_range1 (by rfl) T.b_range (pa_cons (pv 2) pa_nil)) (blkOk_by (by kernel_rfl)) (fun _ _ _ _ _ => pg_name (i := 7) nd rfl (Or.inl rfl)) (fun _ _ _ _ _ => pts_nil)
                  (fun _ _ _ _ _ => C8.pe_c (ok_law_rest T) hr (by decide) (by rfl) (pa_cons (pv 0) (pa_cons (pe_op op_add (pe_ix ix_seq (pv 6) (pv 7) (fun _ _ => rfl)) (pe_op op_mul (pv 8) (pe_ix ix_list (pv 4) (pv 7) (fun _ _ => rfl)))) pa_nil)))) pa_nil)))))))
        (pss_one (ps_set (i := 3) nd rfl (Or.inl rfl) (pv 5))))))
      (pss_one (ps_ret (pe_callB (cr_sortL (d := n) (B := (p : Int))) (by rfl) T.b_sorted boot_sorted (pa_cons (pv 3) pa_nil))))), ?_⟩
    have hp2 := P23.two p
    have hp3 := P23.le p
    refine ⟨_, rfl, _, rfl, by omega, by omega, fun D0 hD0 => ?_⟩
    refine lc_map walk_range (fun _ => (0 : Zp p)) In mon_in (by omega) hD0 (fun _ _ => trivial) ?_ ?_
    · rintro k x H1 _ hk s1 ⟨acc, ha⟩ ⟨rfl, hx⟩ Kk kk
      exact ⟨rfl, kk _ _ (Same.refl _) (show V.int 0 = V.int ((0 : Zp p).val : Int) by rw [val_zero.mpr rfl])⟩
    intro H1 us1 s1 hD1 al1
    rw [show ((n : Int)).toNat = n from Int.toNat_natCast _] at al1
    have al1 := zeros_read al1
    refine ⟨D0, us1, rfl, .inl ⟨SqL.of hD1, fun t1 ht1 => ⟨(by show 1 ≤ sizeLine; decide), fun lf hlf => ?_⟩⟩⟩
    have s2 : Same H1 (upd H1 t1 (.tup us1)) := same_upd ht1
    have et : upd H1 t1 (.tup us1) t1 = some (.tup us1) := upd_same
    generalize upd H1 t1 (.tup us1) = H2 at *
    have s3 : Same H2 (upd H2 lf (.lst [.ref t1])) := same_upd hlf
    have hf0 : LstOf TupL [List.replicate n (0 : Zp p)] (.ref lf) (upd H2 lf (.lst [.ref t1])) := ⟨lf, _, rfl, upd_same, .cons ⟨t1, us1, rfl, s3 _ _ et, al_in al1⟩ .nil⟩
    generalize upd H2 lf (.lst [.ref t1]) = H3 at *
    obtain ⟨ra, rvs, rfl, hra, alr⟩ := id hrs
    have s03 := (s1.trans s2).trans s3
    have lr := alr.length
    refine ⟨_, rfl, ra, rfl, ⟨_, SqL.of (s03 _ _ hra)⟩, ?_⟩
    refine for_it (walk_list (xs := rvs)) (fun i σ H' => ∃ (lf : Addr) (v4 v5 v6 : Option V), σ = [some (.int (p : Int)), some (.ref ra), some (.int (n : Int)), some (.ref lf), v4, v5, v6, none, none] ∧ Same H H' ∧ LstOf TupL (spanL (rows.take i) n) (.ref lf) H')
      ⟨lf, none, none, none, rfl, s03, hf0⟩ (fun i σ H' _ ⟨_, _, _, _, _, s, _⟩ => SqL.of (s _ _ hra)) ?_ ?_
    · rintro i x σ _ H4 hi ⟨lf, v4, v5, v6, rfl, s, hf⟩ ⟨rfl, hx⟩
      obtain ⟨row, hrw, hrR⟩ := alr.get' hx
      have hrl := hrow row (List.mem_of_getElem? hrw)
      have hrR := mon_lin row _ _ _ s hrR
      refine ⟨Nat.zero_le _, fun ll hll => ?_⟩
      have s5 := same_upd (o := .lst []) hll
      obtain ⟨_, fvs, e, hlf, alf⟩ := id hf
      cases e
      have lfl := alf.length
      rw [spanL_len, all_len, List.length_take] at lfl
      have hpl : p ^ (min i rows.length) ≤ p ^ rows.length := pow_le_of (by omega) (by omega)
      refine ⟨_, rfl, lf, rfl, ⟨_, SqL.of (s5 _ _ hlf)⟩, ?_⟩
      have hl0 : LstOf (TupL (p := p)) (([] : List (List (Zp p))).flatMap fun word => Fld.all.map fun a => addMul n word a row) (.ref ll) (upd H4 ll (.lst [])) := ⟨ll, [], rfl, upd_same, .nil⟩
      refine for_it (walk_list (xs := fvs)) (fun j σ H' => ∃ (ll : Addr) (v6 : Option V), σ = [some (.int (p : Int)), some (.ref ra), some (.int (n : Int)), some (.ref lf), some x, some (.ref ll), v6, none, none] ∧ Same _ H' ∧ LstOf TupL (((spanL (rows.take i) n).take j).flatMap fun word => Fld.all.map fun a => addMul n word a row) (.ref ll) H')
        ⟨ll, v6, rfl, s5, hl0⟩ (fun j σ H' _ ⟨_, _, _, s, _⟩ => SqL.of (s _ _ hlf)) ?_ ?_
      · rintro j wv σ _ H5 hj ⟨ll, v6, rfl, s6, hl⟩ ⟨rfl, hw⟩
        obtain ⟨word, hword, hwR⟩ := alf.get' hw
        have hwl := spanL_row _ word (List.mem_of_getElem? hword)
        have hwR := mon_tin word _ _ _ s6 hwR
        have hrR := mon_lin row _ _ _ s6 hrR
        refine ⟨_, rfl, _, rfl, _, rfl, by omega, by omega, fun D hD => ?_⟩
        refine lc_map walk_range (fun a => addMul n word (zi p (a : Int)) row) TupL mon_tin (by omega) hD (fun _ _ => trivial) ?_ ?_
        · rintro a y _ H6 ha s7 ⟨acc, hacc⟩ ⟨rfl, hy⟩ Kk kk
          have hy : y = .int (((zi p (a : Int)).val : Nat) : Int) := by
            rw [hy]; show V.int (0 + (a : Int)) = _
            rw [Int.zero_add, zi_val, Int.emod_eq_of_lt (by omega) (by omega)]
          subst hy
          refine ⟨rfl, tup_read (a := zi p (a : Int)) (word := word) (row := row) rfl (fun _ => rfl) (fun _ => rfl) (fun _ => rfl) (fun _ => rfl) (fun _ => rfl) (fun _ => rfl) (.inr (mon_tin word _ _ _ s7 hwR)) (mon_lin row _ _ _ s7 hrR) hwl hrl (by omega) fun z H7 s8 hz => kk z H7 s8 (imm_tin _ _ _ _ _ (s8 _ _ hacc) trivial hz)⟩
        · intro H6 us6 s7 hD6 al6
          rw [show ((p : Int)).toNat = p from Int.toNat_natCast _] at al6
          have e : (List.range p).map (fun (a : Nat) => addMul n word (zi p (a : Int)) row) = Fld.all.map fun a => addMul n word a row := by rw [all_zp, List.map_map]; rfl
          rw [e] at al6
          have l6 := al6.length
          rw [List.length_map, all_len] at l6
          obtain ⟨_, lvs, e2, hll5, all5⟩ := hl
          cases e2
          have l5 := all5.length
          rw [flat_len (fun x => by rw [List.length_map]), all_len, List.length_take] at l5
          have lsp := spanL_len (F := Zp p) (n := n) (rows.take i)
          rw [all_len, List.length_take] at lsp
          have hb : (min j (spanL (rows.take i) n).length) * p ≤ 63 * 3 := Nat.mul_le_mul (by omega) hp3
          refine ⟨ll, D, _, _, rfl, rfl, s7 _ _ hll5, hD6, Nat.le_of_lt (small1000 (by omega)), fun q1 hq1 => ?_⟩
          have s8 := same_upd (o := .lst (lvs ++ us6)) hq1
          refine ⟨q1, some wv, rfl, (s6.trans s7).trans s8, q1, _, rfl, upd_same, ?_⟩
          rw [take_snoc hword, List.flatMap_append, List.flatMap_singleton]
          exact (all5.mono mon_tin (s7.trans s8)).append (al6.mono mon_tin (hide_le.trans s8))
      · rintro σ H5 ⟨ll, v6, rfl, s6, hl⟩
        refine ⟨_, rfl, ll, _, _, _, rfl, s.trans s6, ?_⟩
        have e : (spanL (rows.take i) n).take fvs.length = spanL (rows.take i) n := List.take_of_length_le (by rw [alf.length]; exact Nat.le_refl _)
        rw [e] at hl
        have e2 : spanL (rows.take (i + 1)) n = spanStep n (spanL (rows.take i) n) row := by
          unfold spanL
          rw [take_snoc hrw, List.foldl_append]; rfl
        rw [e2]
        exact hl
    · rintro σ H4 ⟨lf, v4, v5, v6, rfl, s, hf⟩
      rw [List.take_of_length_le (by omega)] at hf
      obtain ⟨_, fvs, e, hlf, alf⟩ := hf
      cases e
      have lsp := spanL_len (F := Zp p) (n := n) rows
      rw [all_len] at lsp
      refine ⟨_, rfl, sorted_data (SqL.of hlf) alf (by omega) (fun e => ?_) (spanL_row rows) fun z ys H5 s5 hpy hpw hz => q z ys H5 (s.trans s5) hpy hpw hz⟩
      rw [lsp, hn0 e]; show p ^ 0 < 2; rw [Nat.pow_zero]; decide
end
end K47

/-! text L6 -/
/-! _law_states, _law_is_dark -/
namespace K47
open PySem PySem.Spec PyProof.Rows L2
section
variable {P : Program} {w : World} {K : PySem.W.Frag} {mg : Str → Option Value} {base : Heap}
def spStates (K : PySem.W.Frag) : Sp := fun vs H Q _ => ∃ (p : Nat) (hp : P23 p) (n : Nat), vs = [.int (p : Int), .int (n : Int)] ∧ p ^ n < 64 ∧ n ≤ 8 ∧ ∀ z H', Same H H' → LstOf TupL (statesL (Zp p) n) z H' → Q z H'
abbrev N_sta : List Str := ["_law_p", "_law_n", "_law_found", "_law_k", "_law_longer", "_law_row_here", "_law_x"]
theorem sc_law_states : FnScope ["_law_p", "_law_n", "_law_found", "_law_k", "_law_longer", "_law_row_here", "_law_x"] ["_law_p", "_law_n"] (defScope s_law_states) := ⟨rfl, rfl, rfl, by decide +kernel, rfl, by decide +kernel, by decide +kernel⟩
theorem ok_law_states (T : Tx K mg) : C8.Cal P w K mg base 1 "_law_states" (spStates K) [] := by
  refine cal_mk T.g_law_states T.d_law_states sc_law_states (fun _ _ _ _ _ _ us hl => match us, hl with | [_, _], _ => rfl) (fun vs H Q E h => ?_) (fun cdv A outer s H vs Q E hr h => ?_)
  · obtain ⟨p, hp, n, rfl, _⟩ := h; rfl
  · obtain ⟨p, hp, n, rfl, h64, hn8, q⟩ := h
    have nd := sc_law_states.nd
    refine ⟨_, pss_cons (ps_set (i := 2) nd rfl (Or.inl rfl) (pe_lst (pa_cons (pe_tup pa_nil) pa_nil)))
      (pss_cons (ps_for PassesOwn.never rfl (pi_range1 (by rfl) T.b_range (pa_cons (pv 1) pa_nil)) (pg_name (i := 3) nd rfl (Or.inl rfl))
        (pss_cons (ps_set (i := 4) nd rfl (Or.inl rfl) (pe_lst pa_nil))
        (pss_cons (ps_for PassesOwn.never rfl (pi_list (pv 2)) (pg_name (i := 5) nd rfl (Or.inr rfl))
          (pss_one (ps_set (i := 4) nd rfl (Or.inl rfl) (pe_op op_cat (pv 4)
            (pe_lc (own := [("_law_x", 6)]) (g := gName 6) (tt := tYes) (te := tOp (rCatA K) (tVar 5) (tTup (tCons (tVar 6) tNil))) rfl nd (pi_range1 (by rfl) T.b_range (pa_cons (pv 0) pa_nil)) (blkOk_by (N := N_sta) (sc := defScope s_law_states) (by decide +kernel)) (fun _ _ _ _ _ => pg_name (i := 6) nd rfl (Or.inl rfl)) (fun _ _ _ _ _ => pts_nil)
              (fun _ _ _ _ _ => pe_op op_catA (pv 5) (pe_tup (pa_cons (pv 6) pa_nil))))))))
        (pss_one (ps_set (i := 2) nd rfl (Or.inl rfl) (pv 4))))))
      (pss_one (ps_ret (pv 2)))), ?_⟩
    have hp2 := P23.two p
    have hp3 := P23.le p
    refine ⟨Nat.zero_le _, fun t1 ht1 => ⟨(by show 1 ≤ sizeLine; decide), fun lf hlf => ?_⟩⟩
    have s2 : Same H (upd H t1 (.tup [])) := same_upd ht1
    have et : upd H t1 (.tup []) t1 = some (.tup []) := upd_same
    generalize upd H t1 (.tup []) = H2 at *
    have s3 : Same H2 (upd H2 lf (.lst [.ref t1])) := same_upd hlf
    have hf0 : LstOf (TupL (p := p)) (statesL (Zp p) 0) (.ref lf) (upd H2 lf (.lst [.ref t1])) := ⟨lf, _, rfl, upd_same, .cons ⟨t1, [], rfl, s3 _ _ et, .nil⟩ .nil⟩
    generalize upd H2 lf (.lst [.ref t1]) = H3 at *
    refine ⟨_, rfl, _, rfl, by omega, by omega, ?_⟩
    rw [show ((n : Int)).toNat = n from Int.toNat_natCast _]
    refine for_range (lo := 0) (fun i σ H' => ∃ (lf : Addr) (v3 v4 v5 : Option V), σ = [some (.int (p : Int)), some (.int (n : Int)), some (.ref lf), v3, v4, v5, none] ∧ Same H H' ∧ LstOf TupL (statesL (Zp p) i) (.ref lf) H')
      ⟨lf, none, none, none, rfl, s2.trans s3, hf0⟩ ?_ ?_
    · rintro i σ H4 hi ⟨lf, v3, v4, v5, rfl, s, hf⟩
      refine ⟨Nat.zero_le _, fun ll hll => ?_⟩
      have s5 := same_upd (o := .lst []) hll
      obtain ⟨_, fvs, e, hlf, alf⟩ := id hf
      cases e
      have lfl := alf.length
      rw [statesL_len, all_len] at lfl
      have hpl : p ^ i ≤ p ^ n := pow_le_of (by omega) (by omega)
      refine ⟨_, rfl, lf, rfl, ⟨_, SqL.of (s5 _ _ hlf)⟩, ?_⟩
      have hl0 : LstOf (TupL (p := p)) (([] : List (List (Zp p))).flatMap fun row => Fld.all.map fun x => row ++ [x]) (.ref ll) (upd H4 ll (.lst [])) := ⟨ll, [], rfl, upd_same, .nil⟩
      refine for_it (walk_list (xs := fvs)) (fun j σ H' => ∃ (ll : Addr) (v5 : Option V), σ = [some (.int (p : Int)), some (.int (n : Int)), some (.ref lf), some (.int (0 + (i : Int))), some (.ref ll), v5, none] ∧ Same H4 H' ∧ LstOf TupL (((statesL (Zp p) i).take j).flatMap fun row => Fld.all.map fun x => row ++ [x]) (.ref ll) H')
        ⟨ll, v5, rfl, s5, hl0⟩ (fun j σ H' _ ⟨_, _, _, s, _⟩ => SqL.of (s _ _ hlf)) ?_ ?_
      · rintro j wv σ _ H5 hj ⟨ll, v5, rfl, s6, hl⟩ ⟨rfl, hw⟩
        obtain ⟨word, hword, hwR⟩ := alf.get' hw
        have hwl := statesL_row _ word (List.mem_of_getElem? hword)
        have hwR := mon_tin word _ _ _ s6 hwR
        refine ⟨_, rfl, _, rfl, _, rfl, by omega, by omega, fun D hD => ?_⟩
        refine lc_map walk_range (fun a => word ++ [zi p (a : Int)]) TupL mon_tin (by omega) hD (fun _ _ => trivial) ?_ ?_
        · rintro a y _ H6 ha s7 ⟨acc, hacc⟩ ⟨rfl, hy⟩ Kk kk
          have hy : y = .int (((zi p (a : Int)).val : Nat) : Int) := by
            rw [hy]; show V.int (0 + (a : Int)) = _
            rw [Int.zero_add, zi_val, Int.emod_eq_of_lt (by omega) (by omega)]
          subst hy
          obtain ⟨wa, wvs, rfl, hwa, alw⟩ := mon_tin word _ _ _ s7 hwR
          have lw := alw.length
          refine ⟨rfl, _, rfl, _, rfl, (by show 1 ≤ sizeLine; decide), fun t2 ht2 => ?_⟩
          have s8 := same_upd (o := .tup [.int (((zi p (a : Int)).val : Nat) : Int)]) ht2
          refine ⟨wa, t2, wvs, _, rfl, rfl, SqT.of (s8 _ _ hwa), SqT.of upd_same, Nat.le_of_lt (small1000 (by rw [List.length_singleton]; omega)), fun e0 => ?_, fun _ e0 => (nomatch e0), fun _ _ t3 ht3 => ?_⟩
          · subst e0
            cases alw
            exact kk _ _ s8 (imm_tin _ _ _ _ _ (s8 _ _ hacc) trivial ⟨t2, _, rfl, upd_same, .cons rfl .nil⟩)
          · have s9 := same_upd (o := .tup (wvs ++ [.int (((zi p (a : Int)).val : Nat) : Int)])) ht3
            exact kk _ _ (s8.trans s9) (imm_tin _ _ _ _ _ ((s8.trans s9) _ _ hacc) trivial ⟨t3, _, rfl, upd_same, (al_in alw).snoc rfl⟩)
        · intro H6 us6 s7 hD6 al6
          rw [show ((p : Int)).toNat = p from Int.toNat_natCast _] at al6
          have e : (List.range p).map (fun (a : Nat) => word ++ [zi p (a : Int)]) = Fld.all.map fun x => word ++ [x] := by rw [all_zp, List.map_map]; rfl
          rw [e] at al6
          have l6 := al6.length
          rw [List.length_map, all_len] at l6
          obtain ⟨_, lvs, e2, hll5, all5⟩ := hl
          cases e2
          have l5 := all5.length
          rw [flat_len (fun x => by rw [List.length_map]), all_len, List.length_take] at l5
          have lsp := statesL_len (F := Zp p) i
          rw [all_len] at lsp
          have hb : (min j (statesL (Zp p) i).length) * p ≤ 63 * 3 := Nat.mul_le_mul (by omega) hp3
          refine ⟨ll, D, _, _, rfl, rfl, s7 _ _ hll5, hD6, Nat.le_of_lt (small1000 (by omega)), fun q1 hq1 => ?_⟩
          have s8 := same_upd (o := .lst (lvs ++ us6)) hq1
          refine ⟨q1, some wv, rfl, (s6.trans s7).trans s8, q1, _, rfl, upd_same, ?_⟩
          rw [take_snoc hword, List.flatMap_append, List.flatMap_singleton]
          exact (all5.mono mon_tin (s7.trans s8)).append (al6.mono mon_tin (hide_le.trans s8))
      · rintro σ H5 ⟨ll, v5, rfl, s6, hl⟩
        refine ⟨_, rfl, ll, _, _, _, rfl, s.trans s6, ?_⟩
        have e : (statesL (Zp p) i).take fvs.length = statesL (Zp p) i := List.take_of_length_le (by rw [alf.length]; exact Nat.le_refl _)
        rw [e] at hl
        exact hl
    · rintro σ H4 ⟨lf, v3, v4, v5, rfl, s, hf⟩
      exact ⟨_, rfl, q _ _ s hf⟩
/-! ### _law_is_dark -/
def spIsDark (K : PySem.W.Frag) : Sp := fun vs H Q _ => ∃ (p : Nat) (hp : P23 p) (rs xv cv : V) (rows : List (List (Zp p))) (x c : List (Zp p)) (n : Nat), vs = [.int (p : Int), rs, xv, cv, .int (n : Int)] ∧ LstOf (LstOf In) rows rs H ∧ TupL x xv H ∧ LstOf In c cv H ∧ rows.length = n ∧ (∀ r ∈ rows, r.length = n) ∧ x.length = n ∧ c.length = n ∧ n ≤ 8 ∧
  ∀ H', Same H H' → Q (.bl (darkB rows x c n)) H'
abbrev N_dk : List Str := ["_law_p", "_law_rows_here", "_law_x", "_law_c", "_law_n", "_law_row_here", "_law_k"]
theorem sc_law_is_dark : FnScope ["_law_p", "_law_rows_here", "_law_x", "_law_c", "_law_n", "_law_row_here", "_law_k"] ["_law_p", "_law_rows_here", "_law_x", "_law_c", "_law_n"] (defScope s_law_is_dark) := ⟨rfl, rfl, rfl, by decide +kernel, rfl, by decide +kernel, by decide +kernel⟩
theorem ok_law_is_dark (T : Tx K mg) : C8.Cal P w K mg base 3 "_law_is_dark" (spIsDark K) [] := by
  refine cal_mk T.g_law_is_dark T.d_law_is_dark sc_law_is_dark (fun _ _ _ _ _ _ us hl => match us, hl with | [_, _, _, _, _], _ => rfl) (fun vs H Q E h => ?_) (fun cdv A outer s H vs Q E hr h => ?_)
  · obtain ⟨p, hp, rs, xv, cv, rows, x, c, n, rfl, _⟩ := h; rfl
  · obtain ⟨p, hp, rs, xv, cv, rows, x, c, n, rfl, hrs, hx, hc, hrl, hrow, hxl, hcl, hn, q⟩ := h
    have nd := sc_law_is_dark.nd
    refine ⟨_, pss_cons (ps_set (i := 5) nd rfl (Or.inl rfl) (pe_callTy call_lstOf (by rfl) T.b_list boot_list (pa_cons (pv 2) pa_nil)))
      (pss_cons (ps_for PassesOwn.never rfl (pi_range1 (by rfl) T.b_range (pa_cons (pe_op op_add (pe_op op_mul pe_int (pv 4)) pe_int) pa_nil)) (pg_name (i := 6) nd rfl (Or.inl rfl))
        (pss_cons (ps_if (pt_cmp (pc_neI (C8.pe_c (ok_law_dot T) hr (by decide) (by rfl) (pa_cons (pv 0) (pa_cons (pv 5) (pa_cons (pv 3) pa_nil)))) pe_int)) (pss_one (ps_ret pe_bl)) pss_nil)
        (pss_one (ps_set (i := 5) nd rfl (Or.inl rfl) (C8.pe_c (ok_law_before T) hr (by decide) (by rfl) (pa_cons (pv 0) (pa_cons (pv 5) (pa_cons (pv 1) (pa_cons (pv 4) pa_nil)))))))))
      (pss_one (ps_ret pe_bl))), ?_⟩
    obtain ⟨xa, xvs, rfl, hxa, alx⟩ := id hx
    refine ⟨_, rfl, xa, xvs, rfl, .inr (SqT.of hxa), fun l1 hl1 => ?_⟩
    have s1 := same_upd (o := .lst xvs) hl1
    have h0 : LstOf In x (.ref l1) (upd H l1 (.lst xvs)) := ⟨l1, xvs, rfl, upd_same, al_in alx⟩
    refine ⟨_, rfl, _, _, rfl, rfl, .inl ⟨by decide, by decide⟩, _, _, rfl, rfl, _, rfl, by omega, by omega, ?_⟩
    rw [show ((2 : Int) * n + 1).toNat = 2 * n + 1 by omega]
    refine for_range (lo := 0) (fun k σ H' => ∃ (rv : V) (v6 : Option V), σ = [some (.int (p : Int)), some rs, some (.ref xa), some cv, some (.int (n : Int)), some rv, v6] ∧ Same H H' ∧ LstOf In (lpow rows n x k) rv H' ∧ ∀ k', k' < k → dotF (lpow rows n x k') c = 0)
      ⟨.ref l1, none, rfl, s1, h0, fun k' h => absurd h (Nat.not_lt_zero _)⟩ ?_ ?_
    · rintro k σ H1 hk ⟨rv, v6, rfl, s, hrv, hz⟩
      have lp := lpow_len (rows := rows) hxl k
      refine ⟨_, rfl, _, rfl, _, rfl, p, hp, rv, cv, _, c, rfl, .inl hrv, mon_lin c _ _ _ s hc, by omega, by omega, fun H2 s2 => ⟨_, _, rfl, rfl, _, rfl, ifND (fun hne => ?_) fun he => ?_⟩⟩
      · have hd : darkB rows x c n = false := by
          refine Bool.eq_false_iff.mpr fun h => ?_
          have := List.all_eq_true.mp h k (List.mem_range.mpr hk)
          exact hne (val_zero.mpr (of_decide_eq_true this))
        rw [← hd]
        exact q _ (s.trans s2)
      · refine ⟨_, rfl, _, rfl, _, rfl, _, rfl, p, hp, rv, rs, _, rows, n, rfl, .inl (mon_lin _ _ _ _ s2 hrv), mon_lst mon_lin rows _ _ _ (s.trans s2) hrs, by omega, by omega, by omega, hrow, fun z H3 s3 _ hz3 => ?_⟩
        refine ⟨z, _, rfl, (s.trans s2).trans s3, hz3, fun k' hk' => ?_⟩
        rcases Nat.lt_or_eq_of_le (Nat.le_of_lt_succ hk') with h | h
        · exact hz k' h
        · rw [h]; exact val_zero.mp he
    · rintro σ H1 ⟨rv, v6, rfl, s, hrv, hz⟩
      have hd : darkB rows x c n = true := List.all_eq_true.mpr fun k hk => decide_eq_true (hz k (List.mem_range.mp hk))
      have := q _ s
      rw [hd] at this
      exact this
end
end K47

/-! text L7 -/
/-! _law_reached -/
namespace K47
open PySem PySem.Spec PyProof.Rows L2
section
theorem sub_len {α : Type} [DecidableEq α] : ∀ {a b : List α}, a.Nodup → (∀ x ∈ a, x ∈ b) → a.length ≤ b.length
  | [], b, _, _ => Nat.zero_le _
  | x :: a, b, hn, hs => by
    obtain ⟨h1, h2⟩ := List.nodup_cons.mp hn
    have hx := hs x List.mem_cons_self
    have := sub_len (a := a) (b := b.erase x) h2 fun y hy => (List.mem_erase_of_ne (fun e => h1 (by rw [← e]; exact hy))).mpr (hs y (List.mem_cons_of_mem _ hy))
    rw [List.length_erase_of_mem hx] at this
    have hp : 0 < b.length := List.length_pos_of_mem hx
    rw [List.length_cons]; omega
variable {F : Type} [Fld F] [DecidableEq F]
theorem mem_states : ∀ (n : Nat) (x : Row F), x.length = n → x ∈ statesL F n
  | 0, x, h => by
    have := List.length_eq_zero_iff.mp h
    subst this
    exact List.mem_singleton.mpr rfl
  | n + 1, x, h => by
    have hne : x ≠ [] := fun e => by rw [e] at h; cases h
    have e := List.dropLast_concat_getLast hne
    refine List.mem_flatMap.mpr ⟨x.dropLast, mem_states n _ (by rw [List.length_dropLast, h]; rfl), List.mem_map.mpr ⟨x.getLast hne, Fld.mem_all _, e⟩⟩
theorem nodup_card {n : Nat} {xs : List (Row F)} (h : xs.Nodup) (hl : ∀ x ∈ xs, x.length = n) : xs.length ≤ (Fld.all (F := F)).length ^ n := by
  rw [← statesL_len (F := F) n]
  exact sub_len h fun x hx => mem_states n x (hl x hx)
/-- distinct rows of length n -/
structure Dist (n : Nat) (f : List (Row F)) : Prop where
  nd : f.Nodup
  ln : ∀ x ∈ f, x.length = n
theorem Dist.ins {n : Nat} {f : List (Row F)} {x : Row F} (h : Dist n f) (hx : x.length = n) : Dist n (insK f x) := by
  unfold insK
  split
  · exact h
  · rename_i hn
    refine ⟨List.nodup_append.mpr ⟨h.nd, List.pairwise_singleton _ _, fun a ha b hb e => hn (by rw [← List.mem_singleton.mp hb, ← e]; exact ha)⟩, fun y hy => ?_⟩
    rcases List.mem_append.mp hy with z | z
    · exact h.ln y z
    · rw [List.mem_singleton.mp z]; exact hx
theorem Dist.insF {n : Nat} {α : Type} {g : α → Row F} (hg : ∀ a, (g a).length = n) : ∀ (l : List α) (f : List (Row F)), Dist n f → Dist n (l.foldl (fun f a => insK f (g a)) f)
  | [], f, h => h
  | a :: l, f, h => Dist.insF hg l _ (h.ins (hg a))
theorem Dist.one {n : Nat} {rows : List (Row F)} {b : Row F} {f : List (Row F)} {x : Row F} (h : Dist n f) : Dist n (reachOne rows b n f x) := Dist.insF (fun a => addMul_len n _ a b) _ f h
theorem Dist.oneF {n : Nat} {rows : List (Row F)} {b : Row F} : ∀ (l f : List (Row F)), Dist n f → Dist n (l.foldl (reachOne rows b n) f)
  | [], f, h => h
  | a :: l, f, h => Dist.oneF l _ h.one
theorem Dist.reach {n : Nat} {rows : List (Row F)} {b : Row F} : ∀ t, Dist n (reachL rows b n t)
  | 0 => ⟨List.pairwise_singleton _ _, fun x hx => by rw [List.mem_singleton.mp hx, List.length_replicate]⟩
  | t + 1 => Dist.oneF _ _ (Dist.reach t)
end
def kkey {p : Nat} (x : List (Zp p)) : List Key := x.map fun z => (Sum.inl (z.val : Int) : Key)
def toKvs {p : Nat} (f : List (List (Zp p))) : List (List Key × V) := f.map fun x => (kkey x, V.bl true)
theorem kkey_inj {p : Nat} : ∀ {x y : List (Zp p)}, kkey x = kkey y → x = y
  | [], [], _ => rfl
  | [], _ :: _, h => nomatch h
  | _ :: _, [], h => nomatch h
  | a :: x, b :: y, h => by
    have h1 := (List.cons.inj h).1
    have h2 := (List.cons.inj h).2
    injection h1 with h1
    have : a = b := Fin.ext (by omega)
    rw [this, kkey_inj h2]
theorem kkey_v {p : Nat} {H : Hp} : ∀ {x : List (Zp p)} {us : List V}, Al In H x us → us = (kkey x).map kV
  | _, _, .nil => rfl
  | _, _, .cons h t => by
    rw [kkey_v t, h]; rfl
theorem kkey_al {p : Nat} {H : Hp} : ∀ (x : List (Zp p)), Al In H x ((kkey x).map kV)
  | [] => .nil
  | a :: x => .cons rfl (kkey_al x)
theorem kvs_put {p : Nat} (f : List (List (Zp p))) (x : List (Zp p)) : putK (toKvs f) (kkey x) (V.bl true) = toKvs (insK f x) := by
  unfold putK insK
  by_cases h : x ∈ f
  · have ha : ((toKvs f).any fun kv => decide (kv.1 = kkey x)) = true := List.any_eq_true.mpr ⟨(kkey x, V.bl true), List.mem_map.mpr ⟨x, h, rfl⟩, decide_eq_true rfl⟩
    rw [if_pos h, if_pos ha]
    unfold toKvs
    rw [List.map_map]
    refine List.map_congr_left fun y _ => ?_
    show (if kkey y = kkey x then (kkey y, V.bl true) else (kkey y, V.bl true)) = _
    split <;> rfl
  · rw [if_neg h, if_neg]
    · unfold toKvs; rw [List.map_append]; rfl
    · intro ha
      obtain ⟨kv, hkv, e⟩ := List.any_eq_true.mp ha
      obtain ⟨y, hy, rfl⟩ := List.mem_map.mp hkv
      exact h (kkey_inj (of_decide_eq_true e) ▸ hy)
theorem keys_al {p : Nat} {H : Hp} : ∀ {f : List (List (Zp p))} {bs : List Addr}, IsKeys H (toKvs f) bs → Al TupL H f (bs.map V.ref)
  | [], bs, h => by cases h; exact .nil
  | x :: f, bs, h => by
    cases h with
    | cons h1 h2 => exact .cons ⟨_, _, rfl, h1, kkey_al x⟩ (keys_al h2)
section
variable {P : Program} {w : World} {K : PySem.W.Frag} {mg : Str → Option Value} {base : Heap}
def spReached (K : PySem.W.Frag) : Sp := fun vs H Q _ => ∃ (p : Nat) (hp : P23 p) (rs bv : V) (rows : List (List (Zp p))) (b : List (Zp p)) (n : Nat), vs = [.int (p : Int), rs, bv, .int (n : Int)] ∧ LstOf (LstOf In) rows rs H ∧ LstOf In b bv H ∧ rows.length = n ∧ (∀ r ∈ rows, r.length = n) ∧ b.length = n ∧ p ^ n < 64 ∧ n ≤ 8 ∧
  ∀ z ys H', Same H H' → (ys : List (List (Zp p))).Perm (reachL rows b n n) → ys.Pairwise codeLe → LstOf TupL ys z H' → Q z H'
abbrev N_rea : List Str := ["_law_p", "_law_rows_here", "_law_b", "_law_n", "_law_found", "_law_turn", "_law_x", "_law_moved", "_law_u", "_law_key", "_law_k", "_law_i"]
theorem sc_law_reached : FnScope ["_law_p", "_law_rows_here", "_law_b", "_law_n", "_law_found", "_law_turn", "_law_x", "_law_moved", "_law_u", "_law_key", "_law_k", "_law_i"] ["_law_p", "_law_rows_here", "_law_b", "_law_n"] (defScope s_law_reached) := ⟨rfl, rfl, rfl, by decide +kernel, rfl, by decide +kernel, by decide +kernel⟩
theorem ok_law_reached (T : Tx K mg) : C8.Cal P w K mg base 3 "_law_reached" (spReached K) [] := by
  refine cal_mk T.g_law_reached T.d_law_reached sc_law_reached (fun _ _ _ _ _ _ us hl => match us, hl with | [_, _, _, _], _ => rfl) (fun vs H Q E h => ?_) (fun cdv A outer s H vs Q E hr h => ?_)
  · obtain ⟨p, hp, rs, bv, rows, b, n, rfl, _⟩ := h; rfl
  · obtain ⟨p, hp, rs, bv, rows, b, n, rfl, hrs, hb, hrl, hrow, hbl, h64, hn, q⟩ := h
    have nd := sc_law_reached.nd
    have hun := hr.units
    refine ⟨_, pss_cons (ps_set (i := 4) nd rfl (Or.inl rfl) (pe_disp1T (Nat.lt_of_le_of_lt (Nat.add_le_add_left (by decide) _) hun) (pe_callTy call_tupOf (by rfl) T.b_tuple boot_tuple (pa_cons
        (pe_lc (own := [("_law_k", 10)]) (g := gName 10) (tt := tYes) (te := tC (.int 0)) rfl nd (pi_range1 (by rfl) T.b_range (pa_cons (pv 3) pa_nil)) (blkOk_by (N := N_rea) (sc := defScope s_law_reached) (by decide +kernel)) (fun _ _ _ _ _ => pg_name (i := 10) nd rfl (Or.inl rfl)) (fun _ _ _ _ _ => pts_nil) (fun _ _ _ _ _ => pe_int)) pa_nil)) pe_bl))
      (pss_cons (ps_for PassesOwn.never rfl (pi_range1 (by rfl) T.b_range (pa_cons (pv 3) pa_nil)) (pg_name (i := 5) nd rfl (Or.inl rfl))
        (pss_one (ps_for PassesOwn.never rfl (pi_list (pe_callTy (call_list_dT rfl) (by rfl) T.b_list boot_list (pa_cons (pv 4) pa_nil))) (pg_name (i := 6) nd rfl (Or.inl rfl))
          (pss_cons (ps_set (i := 7) nd rfl (Or.inr rfl) (C8.pe_c (ok_law_before T) hr (by decide) (by rfl) (pa_cons (pv 0) (pa_cons (pv 6) (pa_cons (pv 1) (pa_cons (pv 3) pa_nil))))))
          (pss_one (ps_for PassesOwn.never rfl (pi_range1 (by rfl) T.b_range (pa_cons (pv 0) pa_nil)) (pg_name (i := 8) nd rfl (Or.inr rfl))
            (pss_cons (ps_set (i := 9) nd rfl (Or.inl rfl) (pe_callTy call_tupOf (by rfl) T.b_tuple boot_tuple (pa_cons
                (pe_lc (own := [("_law_i", 11)]) (g := gName 11) (tt := tYes) (te := amE K 0 7 2 8 11) rfl nd (pi_range1 (by rfl) T.b_range (pa_cons (pv 3) pa_nil)) (blkOk_by (N := N_rea) (sc := defScope s_law_reached) (by decide +kernel)) (fun _ _ _ _ _ => pg_name (i := 11) nd rfl (Or.inl rfl)) (fun _ _ _ _ _ => pts_nil)
                  (fun _ _ _ _ _ => C8.pe_c (ok_law_rest T) hr (by decide) (by rfl) (pa_cons (pv 0) (pa_cons (pe_op op_add (pe_ix ix_seq (pv 7) (pv 11) (fun _ _ => rfl)) (pe_op op_mul (pv 8) (pe_ix ix_list (pv 2) (pv 11) (fun _ _ => rfl)))) pa_nil)))) pa_nil)))
            (pss_one (ps_dput (Nat.lt_of_le_of_lt (Nat.add_le_add_left (by decide) _) hun) (pv 4) (pv 9) pe_bl rfl)))))))))
      (pss_one (ps_ret (pe_callB (cr_sortL (d := n) (B := (p : Int))) (by rfl) T.b_sorted boot_sorted (pa_cons (pe_callTy (call_list_dT rfl) (by rfl) T.b_list boot_list (pa_cons (pv 4) pa_nil)) pa_nil))))), ?_⟩
    have hp2 := P23.two p
    have hp3 := P23.le p
    have dcard : ∀ f : List (List (Zp p)), Dist n f → f.length ≤ p ^ n := fun f hf => by have := nodup_card hf.nd hf.ln; rw [all_len] at this; exact this
    have klen : ∀ f : List (List (Zp p)), (toKvs f).length = f.length := fun f => by unfold toKvs; rw [List.length_map]
    -- the dict
    intro d hd
    have s0 : Same H (upd H d (.dT [])) := same_upd hd
    have e0 : upd H d (.dT []) d = some (.dT []) := upd_same
    generalize upd H d (.dT []) = H0 at *
    refine ⟨_, rfl, _, rfl, by omega, by omega, fun D0 hD0 => ?_⟩
    refine lc_map walk_range (fun _ => (0 : Zp p)) In mon_in (by omega) hD0 (fun _ _ => trivial) ?_ ?_
    · rintro k x H1 _ hk s1 ⟨acc, ha⟩ ⟨rfl, hx⟩ Kk kk
      exact ⟨rfl, kk _ _ (Same.refl _) (show V.int 0 = V.int ((0 : Zp p).val : Int) by rw [val_zero.mpr rfl])⟩
    intro H1 us1 s1 hD1 al1
    rw [show ((n : Int)).toNat = n from Int.toNat_natCast _] at al1
    have al1 := zeros_read al1
    refine ⟨D0, us1, rfl, .inl ⟨SqL.of hD1, fun t1 ht1 => ?_⟩⟩
    have s2 : Same H1 (upd H1 t1 (.tup us1)) := same_upd ht1
    have et : upd H1 t1 (.tup us1) t1 = some (.tup us1) := upd_same
    generalize upd H1 t1 (.tup us1) = H2 at *
    have s02 := s1.trans s2
    refine ⟨t1, kkey (List.replicate n (0 : Zp p)), rfl, by rw [et, kkey_v al1], s02 _ _ e0, ?_⟩
    have hdH : ∀ H' o, Same H H' → Same H (upd H' d o) := fun H' o s => same_upd' s hd
    have start : ∃ (f : List (List (Zp p))), f = reachL rows b n 0 := ⟨_, rfl⟩
    refine ⟨_, rfl, _, rfl, by omega, by omega, ?_⟩
    rw [show ((n : Int)).toNat = n from Int.toNat_natCast _]
    refine for_range (lo := 0) (fun t σ H' => ∃ (v5 v6 v7 v8 v9 : Option V), σ = [some (.int (p : Int)), some rs, some bv, some (.int (n : Int)), some (.ref d), v5, v6, v7, v8, v9, none, none] ∧ Same H H' ∧ H' d = some (.dT (toKvs (reachL rows b n t))))
      ⟨none, none, none, none, none, rfl, hdH _ _ (s0.trans s02), upd_same⟩ ?_ ?_
    · rintro t σ H3 ht ⟨v5, v6, v7, v8, v9, rfl, s3, hd3⟩
      have D3 := Dist.reach (rows := rows) (b := b) (n := n) t
      generalize hf0 : reachL rows b n t = f0 at *
      refine ⟨_, rfl, d, _, rfl, .inl hd3, fun q1 bs hq1 hk => ?_⟩
      have al3 := keys_al hk
      have lbs := al3.length
      have hc0 := dcard f0 D3
      have s4 : Same H3 (upd H3 q1 (.lst (bs.map V.ref))) := same_upd hq1
      have eq1 : upd H3 q1 (.lst (bs.map V.ref)) q1 = some (.lst (bs.map V.ref)) := upd_same
      generalize upd H3 q1 (.lst (bs.map V.ref)) = H4 at *
      have nq1 : q1 ≠ d := fun e => by rw [e, hd3] at hq1; cases hq1
      refine ⟨q1, rfl, ⟨_, SqL.of eq1⟩, ?_⟩
      refine for_it (walk_list (xs := bs.map V.ref)) (fun i σ H' => ∃ (v6 v7 v8 v9 : Option V), σ = [some (.int (p : Int)), some rs, some bv, some (.int (n : Int)), some (.ref d), some (.int (0 + (t : Int))), v6, v7, v8, v9, none, none] ∧ Same H H' ∧ Same (hide d H4) (hide d H') ∧ H' d = some (.dT (toKvs ((f0.take i).foldl (reachOne rows b n) f0))))
        ⟨v6, v7, v8, v9, rfl, s3.trans s4, Same.refl _, by rw [List.take_zero]; exact s4 _ _ hd3⟩ (fun i σ H' _ ⟨_, _, _, _, _, _, s, _⟩ => SqL.of (hide_le _ _ (s _ _ (hide_at eq1 nq1)))) ?_ ?_
      · rintro i xv σ _ H5 hi ⟨v6, v7, v8, v9, rfl, s5, sh5, hd5⟩ ⟨rfl, hx⟩
        obtain ⟨x, hxm, hxR⟩ := al3.get' hx
        have hxl := D3.ln x (List.mem_of_getElem? hxm)
        have hxR5 : TupL x xv H5 := mon_tin x _ _ _ hide_le (mon_tin x _ _ _ sh5 (imm_tin x _ _ _ _ (s4 _ _ hd3) trivial (mon_tin x _ _ _ s4 hxR)))
        have D5 : Dist n ((f0.take i).foldl (reachOne rows b n) f0) := Dist.oneF _ _ D3
        refine ⟨_, rfl, _, rfl, _, rfl, _, rfl, p, hp, xv, rs, x, rows, n, rfl, .inr hxR5, mon_lst mon_lin rows _ _ _ s5 hrs, by omega, by omega, by omega, hrow, fun mv H6 s6 hnew hmv => ?_⟩
        have hd6 := s6 _ _ hd5
        have nmv : mv ≠ .ref d := fun e => by have := hnew d e; rw [hd5] at this; cases this
        have hmv6 : LstOf In (rowBefore x rows n) mv (hide d H6) := lst_hide imm_in hd6 trivial hmv nmv
        have D6 := D5
        generalize hf1 : (f0.take i).foldl (reachOne rows b n) f0 = f1 at *
        refine ⟨_, rfl, _, rfl, by omega, by omega, ?_⟩
        rw [show ((p : Int)).toNat = p from Int.toNat_natCast _]
        refine for_range (lo := 0) (fun u σ H' => ∃ (v8 v9 : Option V), σ = [some (.int (p : Int)), some rs, some bv, some (.int (n : Int)), some (.ref d), some (.int (0 + (t : Int))), some xv, some mv, v8, v9, none, none] ∧ Same H H' ∧ Same (hide d H6) (hide d H') ∧ H' d = some (.dT (toKvs ((Fld.all.take u).foldl (fun f u => insK f (addMul n (rowBefore x rows n) u b)) f1))))
          ⟨v8, v9, rfl, s5.trans s6, Same.refl _, by rw [List.take_zero]; exact hd6⟩ ?_ ?_
        · rintro u σ H7 hu ⟨v8, v9, rfl, s7, sh7, hd7⟩
          have hu' : (Fld.all (F := Zp p))[u]? = some (zi p (u : Int)) := by rw [all_zp, List.getElem?_map, List.getElem?_range hu]; rfl
          have e8 : (0 + (u : Int)) = (((zi p (u : Int)).val : Nat) : Int) := by rw [Int.zero_add, zi_val, Int.emod_eq_of_lt (by omega) (by omega)]
          rw [e8]
          have D7 : Dist n ((Fld.all.take u).foldl (fun f u => insK f (addMul n (rowBefore x rows n) u b)) f1) := Dist.insF (fun a => addMul_len n _ a b) _ f1 D6
          have hmv7 : LstOf In (rowBefore x rows n) mv H7 := mon_lin _ _ _ _ (sh7.trans hide_le) hmv6
          refine tup_read (a := zi p (u : Int)) (word := rowBefore x rows n) (row := b) rfl (fun _ => rfl) (fun _ => rfl) (fun _ => rfl) (fun _ => rfl) (fun _ => rfl) (fun _ => rfl) (.inl hmv7) (mon_lin b _ _ _ s7 hb) (rowBefore_len _ _ _) hbl (by omega) fun z H8 s8 hz => ?_
          obtain ⟨za, zvs, rfl, hza, alz⟩ := hz
          have hd8 := s8 _ _ hd7
          have hc7 := dcard _ D7
          refine ⟨_, rfl, _, rfl, d, _, rfl, DPut.t hd8 (by rw [hza, kkey_v alz]) (small1000 (by rw [klen]; exact Nat.le_trans hc7 (by omega))), ?_⟩
          refine ⟨some (.int (((zi p (u : Int)).val : Nat) : Int)), some (.ref za), rfl, hdH _ _ (s7.trans s8), by rw [hide_upd]; exact sh7.trans (hide_mono s8), ?_⟩
          rw [upd_same, kvs_put, foldl_take_succ _ _ hu']
        · rintro σ H7 ⟨v8, v9, rfl, s7, sh7, hd7⟩
          refine ⟨some xv, _, _, _, rfl, s7, sh5.trans ((hide_mono s6).trans sh7), ?_⟩
          rw [hd7, foldl_take_succ _ _ hxm, hf1]
          have e : (Fld.all (F := Zp p)).take p = Fld.all := List.take_of_length_le (by rw [all_len]; exact Nat.le_refl _)
          rw [e]; rfl
      · rintro σ H5 ⟨v6, v7, v8, v9, rfl, s5, sh5, hd5⟩
        refine ⟨_, _, _, _, _, rfl, s5, ?_⟩
        rw [hd5]
        have e : f0.take (bs.map V.ref).length = f0 := List.take_of_length_le (by omega)
        rw [e]
        show some (HO.dT (toKvs (f0.foldl (reachOne rows b n) f0))) = some (HO.dT (toKvs (reachStep rows b n (reachL rows b n t))))
        rw [hf0]; rfl
    · rintro σ H3 ⟨v5, v6, v7, v8, v9, rfl, s3, hd3⟩
      have D3 := Dist.reach (rows := rows) (b := b) (n := n) n
      refine ⟨_, rfl, d, _, rfl, .inl hd3, fun q1 bs hq1 hk => ?_⟩
      have al3 := keys_al hk
      have s4 : Same H3 (upd H3 q1 (.lst (bs.map V.ref))) := same_upd hq1
      have hc := dcard _ D3
      exact sorted_data (SqL.of upd_same) (al3.mono mon_tin s4) (by omega) (fun e => by subst e; exact Nat.lt_succ_self 1) D3.ln fun z ys H5 s5 hpy hpw hz => q z ys H5 ((s3.trans s4).trans s5) hpy hpw hz
end
end K47

/-! text L8 -/
/-! _law_in_form, _law_shows, _law_dimension -/
namespace K47
open PySem PySem.Spec PyProof.Rows L2
/-! ### data, told as data -/
def pdT {p : Nat} (x : List (Zp p)) : PyData := .tuple ((zints x).map .int)
def pdL {p : Nat} (xs : List (List (Zp p))) : PyData := .list (xs.map pdT)
theorem depth_ints : ∀ ns : List Int, PyData.depthAll (ns.map PyData.int) = 0
  | [] => by simp [PyData.depthAll]
  | n :: ns => by simp [PyData.depthAll, PyData.depth, depth_ints ns]
theorem depth_pdT {p : Nat} (x : List (Zp p)) : (pdT x).depth = 1 := by
  unfold pdT; simp [PyData.depth, depth_ints]
theorem depth_pdTs {p : Nat} : ∀ xs : List (List (Zp p)), PyData.depthAll (xs.map pdT) ≤ 1
  | [] => by simp [PyData.depthAll]
  | x :: xs => by
    have := depth_pdTs xs
    simp only [List.map_cons, PyData.depthAll, depth_pdT]; omega
theorem lay_pdT {p : Nat} (x : List (Zp p)) : (pdT x).canLay0 = true := by
  unfold pdT; simp only [PyData.canLay0]; exact canLayAll_ints _
theorem lay_pdTs {p : Nat} : ∀ xs : List (List (Zp p)), PyData.canLayAll0 (xs.map pdT) = true
  | [] => by simp [PyData.canLayAll0]
  | x :: xs => by simp only [List.map_cons, PyData.canLayAll0, lay_pdT, lay_pdTs xs, Bool.and_self]
theorem shaped_T {p : Nat} (x : List (Zp p)) : SeqAt.shaped (pdT x) = true := by
  unfold SeqAt.shaped
  rw [lay_pdT, depth_pdT]; rfl
theorem shaped_L {p : Nat} (xs : List (List (Zp p))) : SeqAt.shaped (pdL xs) = true := by
  have h1 : (pdL xs).canLay0 = true := by unfold pdL; simp only [PyData.canLay0]; exact lay_pdTs xs
  have h2 : (pdL xs).depth ≤ 64 := by
    have := depth_pdTs xs
    unfold pdL; simp only [PyData.depth]; omega
  unfold SeqAt.shaped
  rw [h1, decide_eq_true h2]; rfl
theorem eqv_ints : ∀ ns ms : List Int, PyData.eqvAll (ns.map .int) (ms.map .int) = decide (ns = ms)
  | [], [] => by simp [PyData.eqvAll]
  | [], _ :: _ => by simp [PyData.eqvAll]
  | _ :: _, [] => by simp [PyData.eqvAll]
  | n :: ns, m :: ms => by
    rw [List.map_cons, List.map_cons, PyData.eqvAll, eqv_ints ns ms, PyData.eqv]
    rw [Bool.eq_iff_iff]
    simp
theorem zints_inj {p : Nat} : ∀ {x y : List (Zp p)}, zints x = zints y → x = y
  | [], [], _ => rfl
  | [], _ :: _, h => nomatch h
  | _ :: _, [], h => nomatch h
  | a :: x, b :: y, h => by
    have h1 : (a.val : Int) = (b.val : Int) := (List.cons.inj h).1
    have h2 := (List.cons.inj h).2
    have : a = b := Fin.ext (by omega)
    rw [this, zints_inj h2]
theorem eqv_T {p : Nat} (x y : List (Zp p)) : PyData.eqv (pdT x) (pdT y) = decide (x = y) := by
  unfold pdT
  rw [PyData.eqv, eqv_ints]
  by_cases h : x = y
  · rw [h, decide_eq_true rfl, decide_eq_true rfl]
  · rw [decide_eq_false h, decide_eq_false fun e => h (zints_inj e)]
theorem eqv_L {p : Nat} (xs : List (List (Zp p))) : PyData.eqv (pdL xs) (pdL xs) = true := PySem.SeqAt.eqv_refl _ (SeqAt.canLay_of_shaped (shaped_L xs))
section
variable {K : PySem.W.Frag}
theorem dp_ints {H : Hp} : ∀ ns : List Int, DpAll K H (ns.map V.int) (ns.map PyData.int)
  | [] => .nil
  | n :: ns => .cons (.int n) (dp_ints ns)
theorem dp_T {p : Nat} {x : List (Zp p)} {v : V} {H : Hp} (h : TupL x v H) : Dp K H v (pdT x) := by
  obtain ⟨a, us, rfl, ha, al⟩ := h
  refine .tup (SqT.of ha) ?_
  rw [al_ints al]; exact dp_ints _
theorem dp_Ts {p : Nat} {H : Hp} : ∀ {xs : List (List (Zp p))} {us : List V}, Al TupL H xs us → DpAll K H us (xs.map pdT)
  | _, _, .nil => .nil
  | _, _, .cons h t => .cons (dp_T h) (dp_Ts t)
theorem dp_L {p : Nat} {xs : List (List (Zp p))} {v : V} {H : Hp} (h : LstOf TupL xs v H) : Dp K H v (pdL xs) := by
  obtain ⟨a, us, rfl, ha, al⟩ := h
  exact .lst (SqL.of ha) (dp_Ts al)
end
/-! ### plain -/
section
variable {F : Type} [Fld F] [DecidableEq F]
theorem filter_head {n q : Nat} {keep : Nat → Bool} (hq : q < n) (h0 : ∀ j, j < q → keep j = false) (h1 : keep q = true) : ∃ m, (List.range n).filter keep = q :: m := by
  have e : n = q + (n - q - 1 + 1) := by omega
  rw [e, List.range_add, List.filter_append]
  have e0 : (List.range q).filter keep = [] := List.filter_eq_nil_iff.mpr fun j hj => by rw [h0 j (List.mem_range.mp hj)]; decide
  rw [e0, List.nil_append, List.range_succ_eq_map, List.map_cons, List.filter_cons_of_pos (by rw [Nat.add_zero]; exact h1), Nat.add_zero]
  exact ⟨_, rfl⟩
def dimStep (p c : Nat) (st : Nat × Nat) : Nat × Nat := if st.1 < c then (st.1 * p, st.2 + 1) else st
def dimL (p c : Nat) : Nat := ((List.range 8).foldl (fun st _ => dimStep p c st) (1, 0)).2
end
section
variable {P : Program} {w : World} {K : PySem.W.Frag} {mg : Str → Option Value} {base : Heap}
/-! ### _law_in_form -/
def spInForm (K : PySem.W.Frag) : Sp := fun vs H Q _ => ∃ (p : Nat) (hp : P23 p) (rs : V) (ps : List (PRow (Zp p))) (n : Nat), vs = [rs, .int (n : Int)] ∧ LstOf (LstOf In) (ps.map (·.1)) rs H ∧ Rr ps ∧ (∀ a ∈ ps, a.1.length = n) ∧ (∀ a ∈ ps, a.2 < n) ∧ n ≤ 8 ∧ ps.length ≤ 8 ∧
  ∀ H', Same H H' → Q (.bl true) H'
abbrev N_inf : List Str := ["_law_rows_here", "_law_n", "_law_last", "_law_i", "_law_heads", "_law_k", "_law_j"]
theorem sc_law_in_form : FnScope ["_law_rows_here", "_law_n", "_law_last", "_law_i", "_law_heads", "_law_k", "_law_j"] ["_law_rows_here", "_law_n"] (defScope s_law_in_form) := ⟨rfl, rfl, rfl, by decide +kernel, rfl, by decide +kernel, by decide +kernel⟩
def headT (K : PySem.W.Frag) : TT := tB (tNeI (tOp (rIxL K) (tOp (rIxL K) (tVar 0) (tVar 3)) (tVar 6)) (tC (.int 0)))
theorem ok_law_in_form (T : Tx K mg) : C8.Cal P w K mg base 1 "_law_in_form" (spInForm K) [] := by
  refine cal_mk T.g_law_in_form T.d_law_in_form sc_law_in_form (fun _ _ _ _ _ _ us hl => match us, hl with | [_, _], _ => rfl) (fun vs H Q E h => ?_) (fun cdv A outer s H vs Q E hr h => ?_)
  · obtain ⟨p, hp, rs, ps, n, rfl, _⟩ := h; rfl
  · obtain ⟨p, hp, rs, ps, n, rfl, hrs, hR, hlen, hlt, hn, hp8, q⟩ := h
    have nd := sc_law_in_form.nd
    refine ⟨_, pss_cons (ps_set (i := 2) nd rfl (Or.inl rfl) (pe_un un_neg pe_int))
      (pss_cons (ps_for PassesOwn.never rfl (pi_range1 (by rfl) T.b_range (pa_cons (pe_callB call_len_seq (by rfl) T.b_len PySem.boot_len (pa_cons (pv 0) pa_nil)) pa_nil)) (pg_name (i := 3) nd rfl (Or.inr rfl))
        (pss_cons (ps_setLc (i := 4) (own := [("_law_j", 6)]) (g := gName 6) (tt := headT K) (te := tVar 6) rfl nd rfl rfl (sw_true rfl rfl rfl (by decide +kernel)) (pi_range1 (by rfl) T.b_range (pa_cons (pv 1) pa_nil))
            (blkOk_by (N := N_inf) (sc := defScope s_law_in_form) (by decide +kernel)) (fun _ _ _ _ _ => pg_name (i := 6) nd rfl (Or.inl rfl))
            (fun _ _ _ _ _ => pts_one (pt_cmp (pc_neI (pe_ix ix_list (pe_ix ix_list (pv 0) (pv 3) (fun _ _ => rfl)) (pv 6) (fun _ _ => rfl)) pe_int))) (fun _ _ _ _ _ => pv 6))
        (pss_cons (ps_if (PW.pt (pw_or (pt_cmp (pc_eqI (pe_callB call_len_seq (by rfl) T.b_len PySem.boot_len (pa_cons (pv 4) pa_nil)) pe_int)) (pw_or (pt_cmp (pc_le (pe_ix ix_list (pv 4) pe_int (fun _ _ => rfl)) (pv 2)))
            (pw_or1 (pt_cmp (pc_neI (pe_ix ix_list (pe_ix ix_list (pv 0) (pv 3) (fun _ _ => rfl)) (pe_ix ix_list (pv 4) pe_int (fun _ _ => rfl)) (fun _ _ => rfl)) pe_int)))))) pss_never pss_nil)
        (pss_cons (ps_set (i := 2) nd rfl (Or.inl rfl) (pe_ix ix_list (pv 4) pe_int (fun _ _ => rfl)))
        (pss_one (ps_for PassesOwn.never rfl (pi_range1 (by rfl) T.b_range (pa_cons (pe_callB call_len_seq (by rfl) T.b_len PySem.boot_len (pa_cons (pv 0) pa_nil)) pa_nil)) (pg_name (i := 5) nd rfl (Or.inl rfl))
          (pss_one (ps_if (PW.pt (pw_and (pt_cmp (pc_neI (pv 5) (pv 3))) (pw_and1 (pt_cmp (pc_neI (pe_ix ix_list (pe_ix ix_list (pv 0) (pv 5) (fun _ _ => rfl)) (pv 2) (fun _ _ => rfl)) pe_int))))) pss_never pss_nil))))))))
      (pss_one (ps_ret pe_bl))), ?_⟩
    obtain ⟨ra, rvs, rfl, hra, alr⟩ := id hrs
    have lr := alr.length
    rw [List.length_map] at lr
    -- rows[i][j]
    have at2 : ∀ (i j : Nat) (H' : Hp), Same H H' → i < ps.length → j < n → ∃ (xa : Addr) (xvs : List V), atI rvs (i : Int) = some (.ref xa) ∧ SqL K H' ra rvs ∧ SqL K H' xa xvs ∧ atI xvs (j : Int) = some (.int ((tl (ps.getD i ([], 0)).1 j).val : Int)) := by
      intro i j H' s hi hj
      obtain ⟨v, hv, hR⟩ := al_at alr (i := i) (by rw [List.length_map]; exact hi) []
      have e1 : (ps.map (·.1)).getD i [] = (ps.getD i ([], 0)).1 := by
        rw [List.getD_eq_getElem?_getD, List.getD_eq_getElem?_getD, List.getElem?_map, List.getElem?_eq_getElem hi]; rfl
      rw [e1] at hR
      obtain ⟨xa, xvs, rfl, hxa, alx⟩ := hR
      have hl := hlen _ (range_lt hi ([], 0))
      obtain ⟨u, hu, huR⟩ := al_at alx (i := j) (by rw [hl]; exact hj) 0
      have huR : u = .int ((tl (ps.getD i ([], 0)).1 j).val : Int) := huR
      subst huR
      exact ⟨xa, xvs, at_of rfl hv, SqL.of (s _ _ hra), SqL.of (s _ _ hxa), at_of rfl hu⟩
    have getm : ∀ i, i < ps.length → ps.getD i ([], 0) ∈ ps := fun i hi => range_lt hi _
    have pwi : ∀ i j, i < j → j < ps.length → (ps.getD i ([], 0)).2 < (ps.getD j ([], 0)).2 := fun i j hij hj => by
      have := List.pairwise_iff_getElem.mp hR.pw i j (by omega) hj hij
      rw [List.getD_eq_getElem?_getD, List.getD_eq_getElem?_getD, List.getElem?_eq_getElem hj, List.getElem?_eq_getElem (by omega : i < ps.length)]
      exact this.1
    refine ⟨_, rfl, _, rfl, ra, rvs, rfl, .inl (SqL.of hra), _, rfl, by omega, by omega, ?_⟩
    rw [show ((rvs.length : Int)).toNat = rvs.length from Int.toNat_natCast _, lr]
    refine for_range (lo := 0) (fun i σ H' => ∃ (lst : Int) (v3 v4 v5 : Option V), σ = [some (.ref ra), some (.int (n : Int)), some (.int lst), v3, v4, v5, none] ∧ Same H H' ∧ (i = 0 ∧ lst = -1 ∨ 0 < i ∧ lst = ((ps.getD (i - 1) ([], 0)).2 : Int)))
      ⟨-1, none, none, none, rfl, Same.refl _, .inl ⟨rfl, rfl⟩⟩ ?_ ?_
    · rintro i σ H1 hi ⟨lst, v3, v4, v5, rfl, s, hlst⟩
      rw [Int.zero_add]
      have hm := getm i hi
      have ⟨l1, l2⟩ := hR.lead _ hm
      have hq := hlt _ hm
      refine ⟨_, rfl, _, rfl, by omega, by omega, fun D hD => ?_⟩
      refine lc_sel walk_range (fun j => !decide (tl (ps.getD i ([], 0)).1 j = 0)) (fun j => j) NatV mon_nat (by omega) hD (fun _ _ => trivial) ?_ ?_
      · rintro j x _ H2 hj s2 ⟨acc, ha⟩ ⟨rfl, hx⟩ Kk Nn kk nn
        have hx : x = .int (j : Int) := by rw [hx]; show V.int (0 + (j : Int)) = _; rw [Int.zero_add]
        subst hx
        obtain ⟨xa, xvs, h1, h2, h3, h4⟩ := at2 i j H2 (s.trans s2) hi (by omega)
        refine ⟨rfl, _, rfl, _, rfl, ra, rvs, _, _, rfl, rfl, h2, h1, _, rfl, xa, xvs, _, _, rfl, rfl, h3, h4, _, _, rfl, rfl, _, rfl, ifND (fun hne => ?_) fun he => ?_⟩
        · refine ⟨_, rfl, kk ?_ _ _ (Same.refl _) rfl⟩
          have hz : ¬ tl (ps.getD i ([], 0)).1 j = 0 := fun e => hne (val_zero.mpr e)
          rw [decide_eq_false hz]; rfl
        · refine nn ?_ _ (Same.refl _)
          rw [decide_eq_true (val_zero.mp he)]; rfl
      · intro H2 us s2 hD2 al
        rw [show ((n : Int)).toNat = n from Int.toNat_natCast _, List.map_id'] at al
        obtain ⟨m, hm2⟩ := filter_head (keep := fun j => !decide (tl (ps.getD i ([], 0)).1 j = 0)) hq (fun j hj => by rw [decide_eq_true (l2 j hj)]; rfl) (by rw [decide_eq_false (by rw [l1]; exact Fld.one_ne)]; rfl)
        rw [hm2] at al
        have lu := al.length
        rw [List.length_cons] at lu
        obtain ⟨u0, hu0, hu0R⟩ := al.get (i := 0) rfl
        have hu0R : u0 = .int ((ps.getD i ([], 0)).2 : Int) := hu0R
        subst hu0R
        have s12 := s.trans s2
        obtain ⟨xa, xvs, h1, h2, h3, h4⟩ := at2 i (ps.getD i ([], 0)).2 H2 s12 hi hq
        rw [l1] at h4
        have e1 : (((1 : Zp p)).val : Int) = 1 := by
          have := zi_val p 1
          rw [zi_one] at this
          rw [this]
          have := P23.two p
          exact Int.emod_eq_of_lt (by omega) (by omega)
        rw [e1] at h4
        have c0 : ¬ ((us.length : Int) = 0) := by omega
        have c1 : ¬ (((ps.getD i ([], 0)).2 : Int) ≤ lst) := by
          rcases hlst with ⟨_, e⟩ | ⟨h, e⟩
          · omega
          · have := pwi (i - 1) i (by omega) hi
            omega
        refine ⟨_, rfl, D, us, rfl, .inl (SqL.of hD2), _, _, rfl, rfl, _, rfl, ifF c0 ?_⟩
        refine ⟨_, rfl, D, us, _, _, rfl, rfl, SqL.of hD2, at_of (j := 0) rfl hu0, _, rfl, _, _, rfl, rfl, _, rfl, ifF c1 ?_⟩
        refine ⟨_, rfl, _, rfl, ra, rvs, _, _, rfl, rfl, h2, h1, _, rfl, D, us, _, _, rfl, rfl, SqL.of hD2, at_of (j := 0) rfl hu0, xa, xvs, _, _, rfl, rfl, h3, h4, _, _, rfl, rfl, _, rfl, ifNF rfl ?_⟩
        refine ⟨_, rfl, D, us, _, _, rfl, rfl, SqL.of hD2, at_of (j := 0) rfl hu0, ?_⟩
        refine ⟨_, rfl, ra, rvs, rfl, .inl h2, _, rfl, by omega, by omega, ?_⟩
        rw [show ((rvs.length : Int)).toNat = rvs.length from Int.toNat_natCast _, lr]
        refine for_range (lo := 0) (fun k σ H' => ∃ v5 : Option V, σ = [some (.ref ra), some (.int (n : Int)), some (.int ((ps.getD i ([], 0)).2 : Int)), some (.int (i : Int)), some (.ref D), v5, none] ∧ H' = H2) ⟨v5, rfl, rfl⟩ ?_ ?_
        · rintro k σ H3 hk ⟨v5, rfl, rfl⟩
          rw [Int.zero_add]
          refine ⟨_, rfl, _, rfl, _, _, rfl, rfl, _, rfl, ifND (fun hne => ?_) fun he => ⟨_, rfl, rfl⟩⟩
          have hki : k ≠ i := fun e => hne (by rw [e])
          have hz : tl (ps.getD k ([], 0)).1 (ps.getD i ([], 0)).2 = 0 := hR.other _ (getm k hk) _ hm fun e => by
            rcases Nat.lt_trichotomy k i with h | h | h
            · have := pwi k i h hi; omega
            · exact hki h
            · have := pwi i k h hk; omega
          obtain ⟨ya, yvs, g1, g2, g3, g4⟩ := at2 k (ps.getD i ([], 0)).2 _ s12 hk hq
          rw [hz, val_zero.mpr rfl] at g4
          exact ⟨_, rfl, _, rfl, ra, rvs, _, _, rfl, rfl, g2, g1, _, rfl, ya, yvs, _, _, rfl, rfl, g3, g4, _, _, rfl, rfl, _, rfl, ifNF rfl ⟨_, rfl, rfl⟩⟩
        · rintro σ H3 ⟨v5, rfl, rfl⟩
          exact ⟨_, _, _, _, rfl, s12, .inr ⟨Nat.succ_pos _, rfl⟩⟩
    · rintro σ H1 ⟨lst, v3, v4, v5, rfl, s, _⟩
      exact q _ s
end
end K47

/-! text L9 -/
/-! _law_shows, _law_dimension -/
namespace K47
open PySem PySem.Spec PyProof.Rows L2
section
variable {P : Program} {w : World} {K : PySem.W.Frag} {mg : Str → Option Value} {base : Heap}
def spShows (K : PySem.W.Frag) : Sp := fun vs H Q _ => ∃ (p : Nat) (hp : P23 p) (g t d : V) (ps : List (PRow (Zp p))) (dl : List (List (Zp p))) (n : Nat), vs = [.int (p : Int), g, t, d, .int (n : Int)] ∧ Gr K p g H ∧ Mt K (ps.map (·.1)) n t H ∧ LstOf TupL dl d H ∧
  Rr ps ∧ (∀ a ∈ ps, a.1.length = n) ∧ (∀ a ∈ ps, a.2 < n) ∧ n ≤ 8 ∧ ps.length ≤ 8 ∧ p ^ ps.length < 64 ∧ (∀ ys, ys.Perm (spanL (ps.map (·.1)) n) → ys.Pairwise codeLe → ys = dl) ∧ ∀ H', Same H H' → Q (.bl true) H'
abbrev N_sho : List Str := ["_law_p", "_law_ground_here", "_law_told", "_law_due", "_law_n", "_law_rows_here", "_law_row_here", "_law_x"]
theorem sc_law_shows : FnScope ["_law_p", "_law_ground_here", "_law_told", "_law_due", "_law_n", "_law_rows_here", "_law_row_here", "_law_x"] ["_law_p", "_law_ground_here", "_law_told", "_law_due", "_law_n"] (defScope s_law_shows) := ⟨rfl, rfl, rfl, by decide +kernel, rfl, by decide +kernel, by decide +kernel⟩
theorem ok_law_shows (T : Tx K mg) : C8.Cal P w K mg base 4 "_law_shows" (spShows K) [] := by
  refine cal_mk T.g_law_shows T.d_law_shows sc_law_shows (fun _ _ _ _ _ _ us hl => match us, hl with | [_, _, _, _, _], _ => rfl) (fun vs H Q E h => ?_) (fun cdv A outer s H vs Q E hr h => ?_)
  · obtain ⟨p, hp, g, t, d, ps, dl, n, rfl, _⟩ := h; rfl
  · obtain ⟨p, hp, g, t, d, ps, dl, n, rfl, hg, ht, hd, hR, hlen, hlt, hn, hp8, h64, huq, q⟩ := h
    have nd := sc_law_shows.nd
    have hun := hr.units
    refine ⟨_, pss_cons (ps_if (PW.pt (pw_or (pt_cmpR (ne_met (ok_gr_eq T) hr (by decide) T.ex.iG.hm T.ex.neG) (pe_fld (pv 2) rfl) (pv 1) (nomark _)) (pw_or1 (pt_cmp (pc_neI (pe_fld (pv 2) rfl) (pv 4)))))) pss_never pss_nil)
      (pss_cons (ps_setLc (i := 5) (own := [("_law_row_here", 6)]) (g := gName 6) (tt := tYes) (te := tLc (iTup K (tVar 6)) (gName 7) tYes (tFld K (tVar 7) "n") [7]) rfl nd rfl rfl (sw_true rfl rfl rfl (by decide +kernel)) (pi_tup (pe_fld (pv 2) rfl))
            (blkOk_by (N := N_sho) (sc := defScope s_law_shows) (by decide +kernel)) (fun _ _ _ _ _ => pg_name (i := 6) nd rfl (Or.inl rfl)) (fun _ _ _ _ _ => pts_nil)
            (fun _ _ _ _ _ => pe_lc (own := [("_law_x", 7)]) (g := gName 7) (tt := tYes) (te := tFld K (tVar 7) "n") rfl nd (pi_tup (pv 6)) (blkOk_by (by kernel_rfl)) (fun _ _ _ _ _ => pg_name (i := 7) nd rfl (Or.inl rfl)) (fun _ _ _ _ _ => pts_nil)
              (fun _ _ _ _ _ => pe_fld (pv 7) rfl)))
      (pss_one (ps_ret (pe_and (C8.pe_c (ok_law_in_form T) hr (by decide) (by rfl) (pa_cons (pv 5) (pa_cons (pv 4) pa_nil))) (pe_one (pe_cmpR (op_eqD hun) (C8.pe_c (ok_law_span T) hr (by decide) (by rfl) (pa_cons (pv 0) (pa_cons (pv 5) (pa_cons (pv 4) pa_nil)))) (pv 3) (nomark _))))))), ?_⟩
    obtain ⟨a, dx, g', t', rfl, ha, hg', ht'⟩ := id ht
    refine ⟨_, rfl, a, cM K, dx, _, _, rfl, ha, T.c_Matrix, T.n_Matrix_ground, mf_ground _ _ _, _, rfl, d_gr hg' hg, fun H1 s1 => ⟨false, rfl, iteF ?_⟩⟩
    refine ⟨_, rfl, a, cM K, dx, _, _, rfl, s1 _ _ ha, T.c_Matrix, T.n_Matrix_width, mf_width _ _ _, _, rfl, _, _, rfl, rfl, _, rfl, ifNF rfl ?_⟩
    refine ⟨_, rfl, a, cM K, dx, _, _, rfl, s1 _ _ ha, T.c_Matrix, T.n_Matrix_rows, mf_rows _ _ _, ?_⟩
    refine lc_tup (R0 := fun x : List (Zp p) => RowT K x) (f := fun x : List (Zp p) => x) (R := fun x : List (Zp p) => LstOf In x) (mon_rowsT _ _ _ _ s1 ht') ⟨mon_rowT, mon_lin, by rw [List.length_map]; omega, ?_, ?_⟩
    · rintro D i x z H2 hD hx s2 ⟨acc, hacc⟩ hz0 hz Kk kk
      have hxl : x.length = n := by
        obtain ⟨b, hb, e⟩ := List.mem_map.mp (List.mem_of_getElem? hx)
        rw [← e]; exact hlen b hb
      refine ⟨rfl, _, rfl, lc_tup (R0 := fun y : Zp p => Rs K y) (f := fun y : Zp p => y) (R := fun y : Zp p => In y) hz ⟨mon_rs, mon_in, by omega, ?_, ?_⟩⟩
      · rintro D2 j y u H3 hD2 hy s3 ⟨acc2, hacc2⟩ _ ⟨b, db, rfl, hb⟩ Kk2 kk2
        exact ⟨rfl, _, rfl, b, cR K, db, _, _, rfl, hb, T.c_Residue, T.n_Residue_n, rf_n _ _, kk2 _ _ (Same.refl _) rfl⟩
      · intro D2 H3 us hD2 s3 hH3 al
        rw [List.map_id'] at al
        have nDD : D2 ≠ D := fun e => by rw [e, hacc] at hD2; cases hD2
        exact kk _ _ s3 (lst_hide imm_in (s3 _ _ hacc) trivial ⟨D2, us, rfl, hH3, al_in al⟩ fun e => nDD (by injection e))
    · intro D H2 us hD s2 hH2 al
      rw [List.map_id'] at al
      have s12 := s1.trans s2
      have hrows : LstOf (LstOf In) (ps.map (·.1)) (.ref D) H2 := ⟨D, us, rfl, hH2, al.mono mon_lin hide_le⟩
      refine ⟨_, rfl, _, rfl, p, hp, _, ps, n, rfl, hrows, hR, hlen, hlt, hn, hp8, fun H3 s3 => ⟨true, rfl, iteT ?_⟩⟩
      refine ⟨_, rfl, _, rfl, _, rfl, p, hp, _, ps.map (·.1), n, rfl, mon_lst mon_lin _ _ _ _ s3 hrows, fun r hr => ?_, by rw [List.length_map]; exact h64, fun e => ?_, hn, by rw [List.length_map]; exact hp8, fun z ys H4 s4 hpy hpw hz => ?_⟩
      · obtain ⟨b, hb, e⟩ := List.mem_map.mp hr
        rw [← e]; exact hlen b hb
      · cases ps with
        | nil => rfl
        | cons b m => have := hlt b List.mem_cons_self; omega
      · have e := huq ys hpy hpw
        subst e
        have s14 := (s12.trans s3).trans s4
        refine ⟨_, rfl, pdL ys, pdL ys, dp_L hz, dp_L (mon_lst mon_tin _ _ _ _ s14 hd), shaped_L ys, shaped_L ys, ?_⟩
        rw [eqv_L]
        exact q _ s14
/-! ### _law_dimension -/
def spDim : Sp := fun vs H Q _ => ∃ (p c : Nat), vs = [.int (p : Int), .int (c : Int)] ∧ p ≤ 3 ∧ 1 ≤ p ∧ Q (.int (dimL p c : Int)) H
theorem sc_law_dimension : FnScope ["_law_p", "_law_count", "_law_size", "_law_total", "_law_turn"] ["_law_p", "_law_count"] (defScope s_law_dimension) := ⟨rfl, rfl, rfl, by decide +kernel, rfl, by decide +kernel, by decide +kernel⟩
def dimAt (p c i : Nat) : Nat × Nat := (List.range i).foldl (fun st _ => dimStep p c st) (1, 0)
theorem dimAt_succ (p c i : Nat) : dimAt p c (i + 1) = dimStep p c (dimAt p c i) := by
  unfold dimAt; rw [List.range_succ, List.foldl_append]; rfl
theorem dimAt_le {p c : Nat} (hp : p ≤ 3) (h1 : 1 ≤ p) : ∀ i, (dimAt p c i).1 ≤ 3 ^ i
  | 0 => Nat.le_refl _
  | i + 1 => by
    rw [dimAt_succ]
    have ih := dimAt_le (c := c) hp h1 i
    unfold dimStep
    split
    · rw [Nat.pow_succ]; exact Nat.mul_le_mul ih hp
    · rw [Nat.pow_succ]; omega
theorem ok_law_dimension (T : Tx K mg) : C8.Cal P w K mg base 1 "_law_dimension" spDim [] := by
  refine cal_mk T.g_law_dimension T.d_law_dimension sc_law_dimension (fun _ _ _ _ _ _ us hl => match us, hl with | [_, _], _ => rfl) (fun vs H Q E h => ?_) (fun cdv A outer s H vs Q E hr h => ?_)
  · obtain ⟨p, c, rfl, _⟩ := h; rfl
  · obtain ⟨p, c, rfl, hp, h1, q⟩ := h
    have nd := sc_law_dimension.nd
    refine ⟨_, pss_cons (ps_set (i := 2) nd rfl (Or.inl rfl) pe_int) (pss_cons (ps_set (i := 3) nd rfl (Or.inl rfl) pe_int)
      (pss_cons (ps_for PassesOwn.never rfl (pi_range1 (by rfl) T.b_range (pa_cons pe_int pa_nil)) (pg_name (i := 4) nd rfl (Or.inl rfl))
        (pss_one (ps_if (pt_cmp (pc_lt (pv 3) (pv 1))) (pss_cons (ps_set (i := 3) nd rfl (Or.inl rfl) (pe_op op_mul (pv 3) (pv 0))) (pss_one (ps_set (i := 2) nd rfl (Or.inl rfl) (pe_op op_add (pv 2) pe_int)))) pss_nil)))
      (pss_one (ps_ret (pv 2))))), ?_⟩
    refine ⟨_, rfl, by decide, by decide, ?_⟩
    refine for_range (lo := 0) (n := 8) (fun i σ H' => ∃ v4 : Option V, σ = [some (.int (p : Int)), some (.int (c : Int)), some (.int ((dimAt p c i).2 : Int)), some (.int ((dimAt p c i).1 : Int)), v4] ∧ H' = H) ⟨none, rfl, rfl⟩ ?_ ?_
    · rintro i σ H' hi ⟨v4, rfl, rfl⟩
      have hle := dimAt_le (c := c) hp h1 i
      have h3 : 3 ^ i ≤ 3 ^ 8 := Nat.pow_le_pow_right (by decide) (by omega)
      have h38 : 3 ^ 8 = 6561 := by decide
      refine ⟨_, rfl, _, rfl, _, _, rfl, rfl, _, rfl, ifD (fun hlt => ?_) fun hge => ?_⟩
      · have e : dimAt p c (i + 1) = ((dimAt p c i).1 * p, (dimAt p c i).2 + 1) := by
          rw [dimAt_succ]; unfold dimStep; rw [if_pos (by omega)]
        refine ⟨_, rfl, _, rfl, _, _, rfl, rfl, .inl ⟨by omega, by omega⟩, _, rfl, _, _, rfl, rfl, some (.int (0 + (i : Int))), ?_, rfl⟩
        rw [e]
        show ([some (V.int (p : Int)), some (V.int (c : Int)), some (V.int (((dimAt p c i).2 : Int) + 1)), some (V.int (((dimAt p c i).1 : Int) * (p : Int))), some (V.int (0 + (i : Int)))] : L2.St) = _
        rw [Int.natCast_add, Int.natCast_mul]; rfl
      · have e : dimAt p c (i + 1) = dimAt p c i := by
          rw [dimAt_succ]; unfold dimStep; rw [if_neg (by omega)]
        refine ⟨some (.int (0 + (i : Int))), ?_, rfl⟩
        rw [e]; rfl
    · rintro σ H' ⟨v4, rfl, rfl⟩
      exact ⟨_, rfl, q⟩
end
end K47

/-! text L10a -/
/-! law: its last lines -/
namespace K47
open PySem PySem.Spec PyProof.Rows L2
/-! ### what the plain law is to say -/
section
variable {F : Type} [Fld F] [DecidableEq F]
def darkL (A : List (Row F)) (c : Row F) (n : Nat) : List (Row F) := (statesL F n).filter fun x => darkB A x c n
end
def PlainLaw : Prop := ∀ (p : Nat) (hp : P23 p) (n : Nat) (A : List (List (Zp p))) (b c : List (Zp p)), PlOk n A b c → p ^ n < 64 → n ≤ 4 → ∃ m, KStop A n b m ∧
  (∀ own : List (List (Zp p)), own.Perm (reachL A b n n) → own.Pairwise codeLe → ∀ ys : List (List (Zp p)), ys.Perm (spanL (ownMat A n b m) n) → ys.Pairwise codeLe → ys = own) ∧
  (∀ ys : List (List (Zp p)), ys.Perm (spanL (darkMat A n c) n) → ys.Pairwise codeLe → ys = darkL A c n) ∧
  dimL p (reachL A b n n).length = (ownMat A n b m).length ∧ dimL p (darkL A c n).length = (darkMat A n c).length ∧
  (dimL p ((reachL A b n n).filter fun x => decide (x ∈ darkL A c n)).length : Int) = (ownMat A n b m).length + (darkMat A n c).length - sumCnt A n b c m ∧
  (ownMat A n b m).length ≤ n ∧
  ∀ k : List (Zp p), k.length = n → ∃ m', KStop (addRows A (outerRows k b)) n b m' ∧ ownMat (addRows A (outerRows k b)) n b m' = ownMat A n b m
section
variable {K : PySem.W.Frag} {p : Nat}
theorem imm_pl (n : Nat) (A : List (List (Zp p))) (b c : List (Zp p)) : Imm (Pl K n A b c) := fun v H l o hl hm ⟨a, dx, m, x, y, e, h, h1, h2, h3⟩ =>
  ⟨a, dx, m, x, y, e, ins_hide h hl hm, imm_mt _ _ m H l o hl hm h1, imm_rowT _ x H l o hl hm h2, imm_rowT _ y H l o hl hm h3⟩
end
section
variable {P : Program} {w : World} {K : PySem.W.Frag} {mg : Str → Option Value} {base : Heap}
theorem no_fed (a b c : V) : (pf a b c).lookup ("fed" : Str) = none := by kernel_rfl
def spLaw (K : PySem.W.Frag) : Sp := fun vs H Q _ => ∃ (a : Addr) (ns : List Int), vs = [.ref a] ∧ SqL K H a (ns.map V.int) ∧ ∀ H', Q (.bl true) H'
abbrev N_law : List Str := ["_law_script", "_law_state_here", "_law_p", "_law_ground_here", "_law_n", "_law_rows_here", "_law_b", "_law_c", "_law_plant", "_law_own", "_law_dark", "_law_told", "_law_r", "_law_s", "_law_m", "_law_x"]
theorem sc_law : FnScope ["_law_script", "_law_state_here", "_law_p", "_law_ground_here", "_law_n", "_law_rows_here", "_law_b", "_law_c", "_law_plant", "_law_own", "_law_dark", "_law_told", "_law_r", "_law_s", "_law_m", "_law_x"] ["_law_script"] (defScope s_law) := ⟨rfl, rfl, rfl, by decide +kernel, rfl, by decide +kernel, by decide +kernel⟩
def isDarkT (K : PySem.W.Frag) : TT := tB (tCall (spIsDark K) [] C8.E0 (tCons (tVar 2) (tCons (tVar 5) (tCons (tVar 15) (tCons (tVar 7) (tCons (tVar 4) tNil))))))
def inDarkT (K : PySem.W.Frag) : TT := tB (tOp (rInD K) (tVar 15) (tVar 10))
theorem ifNb {b : Bool} {A B : Prop} (h : b = true) (hB : B) : if (!b) = true then A else B := by
  rw [h]; exact iteF hB
theorem any_T {p : Nat} (x : List (Zp p)) (dl : List (List (Zp p))) : ((dl.map pdT).any fun z => PyData.eqv z (pdT x)) = decide (x ∈ dl) := by
  rw [Bool.eq_iff_iff, List.any_eq_true, decide_eq_true_eq]
  constructor
  · rintro ⟨z, hz, e⟩
    obtain ⟨y, hy, rfl⟩ := List.mem_map.mp hz
    rw [eqv_T] at e
    rw [← of_decide_eq_true e]; exact hy
  · intro h
    exact ⟨pdT x, List.mem_map.mpr ⟨x, h, rfl⟩, by rw [eqv_T]; exact decide_eq_true rfl⟩
theorem itm_of {p : Nat} {x : List (Zp p)} {v : V} {H : Hp} (h : LstOf In x v H) : SeqOf (Itm K) x v H := .inl (h.imp fun _ _ y => .inl y)
theorem dp_4 {a b c d : Int} {t : Addr} {H : Hp} (h : H t = some (.tup [.int a, .int b, .int c, .int d])) : Dp K H (.ref t) (.tuple [.int a, .int b, .int c, .int d]) :=
  .tup (SqT.of h) (.cons (.int _) (.cons (.int _) (.cons (.int _) (.cons (.int _) .nil))))
theorem sh_4 (a b c d : Int) : SeqAt.shaped (.tuple [.int a, .int b, .int c, .int d]) = true := by
  unfold SeqAt.shaped
  simp [PyData.canLay0, PyData.canLayAll0, PyData.depth, PyData.depthAll]
theorem three_at (v : Nat) (h : v < 3) : ∃ p : Nat, (p = 2 ∨ p = 3) ∧ atI [V.int 2, V.int 2, V.int 3] (v : Int) = some (.int (p : Int)) := by
  match v, h with
  | 0, _ => exact ⟨2, .inl rfl, rfl⟩
  | 1, _ => exact ⟨2, .inl rfl, rfl⟩
  | 2, _ => exact ⟨3, .inr rfl, rfl⟩
theorem inDark_read {p : Nat} {x : List (Zp p)} {dl : List (List (Zp p))} {xv dv : V} {σ : L2.St} {H : Hp} {Q : Bool → Hp → Prop} (h1 : σ[15]? = some (some xv)) (h2 : σ[10]? = some (some dv)) (hx : TupL x xv H) (hd : LstOf TupL dl dv H) (q : Q (decide (x ∈ dl)) H) : inDarkT K σ H Q := by
  refine ⟨_, h1, _, h2, pdT x, dl.map pdT, dp_T hx, dp_L hd, shaped_T x, shaped_L dl, _, rfl, ?_⟩
  rw [any_T]; exact q
theorem law_tail1 (T : Tx K mg) {cdv : Value} {A : Around} {outer : List Env} {s : Shared} {H0 : Hp} {E : XK} (hr : Room 15 (A.deeper (envOfC "law" (defScope s_law) s.heap.objs.size (He.ga K "law") cdv))) :
    ∃ t, PSs (cxOf C8.CX0 P w K mg base N_law "law" (defScope s_law) (He.ga K "law") cdv A outer s H0 E).nox ((defBody s_law).drop 15) t ∧ ∀ (p : Nat) (hp : P23 p) (l gx x2 D : Addr) (sc rv bv cv ov tv : V) (vx : Option V) (MA : List (List (Zp p))) (b c : List (Zp p)) (m : Nat) (mI : Int) (Hc : Hp) (Q : VK),
      Pl K MA.length MA b c (.ref x2) Hc → PlOk MA.length MA b c → MA.length ≤ 4 → KStop MA MA.length b m → LawSt l Hc → Mt K (ownMat MA MA.length b m) MA.length tv Hc →
      mI = (ownMat MA MA.length b m).length + (darkMat MA MA.length c).length - sumCnt MA MA.length b c m →
      (∀ k : List (Zp p), k.length = MA.length → ∃ m', KStop (addRows MA (outerRows k b)) MA.length b m' ∧ ownMat (addRows MA (outerRows k b)) MA.length b m' = ownMat MA MA.length b m) → (∀ H', Q (.bl true) H') →
      t { nx := fun _ H' => Q .non H', rt := Q } [some sc, some (.ref l), some (.int (p : Int)), some (.ref gx), some (.int (MA.length : Int)), some rv, some bv, some cv, some (.ref x2), some ov, some (.ref D), some tv, some (.int ((ownMat MA MA.length b m).length : Int)), some (.int ((darkMat MA MA.length c).length : Int)), some (.int mI), vx] Hc := by
  have nd := sc_law.nd
  have hun := hr.units
  refine ⟨_, pss_cons (ps_if (PW.pt (pw_or (pt_not (pt_val (C8.pe_c (ok_law_is T) hr (by decide) (by rfl) (pa_cons (C8.pe_c (ok_is_reach T) hr (by decide) (by rfl) (pa_cons (pv 8) pa_nil)) (pa_cons (pe_cmp (pc_eqI (pv 12) (pv 4))) pa_nil))))) (pw_or1 (pt_not (pt_val (C8.pe_c (ok_law_is T) hr (by decide) (by rfl) (pa_cons (C8.pe_c (ok_is_obs T) hr (by decide) (by rfl) (pa_cons (pv 8) pa_nil)) (pa_cons (pe_cmp (pc_eqI (pv 13) pe_int)) pa_nil)))))))) pss_never pss_nil)
      (pss_cons (ps_if (pt_cmpR (op_neD hun) (C8.pe_c (ok_four T) hr (by decide) (by rfl) (pa_cons (pv 8) pa_nil)) (pe_tup (pa_cons (pe_op op_sub (pv 12) (pv 14)) (pa_cons (pv 14) (pa_cons (pe_op op_add (pe_op op_sub (pe_op op_sub (pv 4) (pv 12)) (pv 13)) (pv 14)) (pa_cons (pe_op op_sub (pv 13) (pv 14)) pa_nil))))) (nomark _)) pss_never pss_nil)
      (pss_one (ps_ret (pe_cmpR (op_eqG (rc_met (ok_mt_eq T)) (hr.mono (by decide))) (C8.pe_c (ok_reach T) hr (by decide) (by rfl) (pa_cons (C8.pe_mt (ok_pl_fed T) hr (by decide) (pv 8) (pa_cons (C8.pe_c (ok_law_row T) hr (by decide) (by rfl) (pa_cons (pv 1) (pa_cons (pv 2) (pa_cons (pv 4) pa_nil)))) pa_nil)) pa_nil)) (pv 11) (nomark _))))), ?_⟩
  intro p P l gx x2 D sc rv bv cv ov tv vx MA b c m mI Hc Q hpl plok hn4 hks hst htv hmI hfed q
  have hp2 := P23.two p
  refine ⟨_, rfl, p, P, .ref x2, MA.length, MA, b, c, m, rfl, hpl, plok, hks, fun H1 s1 => ⟨_, rfl, _, rfl, _, _, rfl, rfl, _, _, rfl, _, rfl, ?_⟩⟩
  refine ifNb (decide_eq_true rfl) ?_
  refine ⟨_, rfl, p, P, .ref x2, MA.length, MA, b, c, rfl, mon_pl _ _ _ _ _ _ _ s1 hpl, plok, fun H2 s2 => ⟨_, rfl, _, _, rfl, rfl, _, _, rfl, _, rfl, ?_⟩⟩
  refine ifNb (decide_eq_true rfl) ?_
  have s12 := s1.trans s2
  refine ⟨_, rfl, p, P, .ref x2, MA.length, MA, b, c, m, rfl, mon_pl _ _ _ _ _ _ _ s12 hpl, plok, hks, fun fv H3 s3 ⟨ft, e, hft⟩ => ?_⟩
  subst e
  rw [← hmI] at hft
  refine ⟨_, rfl, _, rfl, _, _, rfl, rfl, _, rfl, _, rfl, _, rfl, _, _, rfl, rfl, _, rfl, _, _, rfl, rfl, _, rfl, _, _, rfl, rfl, _, rfl, _, rfl, _, _, rfl, rfl, (by show 4 ≤ sizeLine; decide), fun t4 ht4 => ?_⟩
  refine ⟨_, _, dp_4 (same_upd ht4 _ _ hft), dp_4 upd_same, sh_4 _ _ _ _, sh_4 _ _ _ _, _, rfl, ?_⟩
  rw [PySem.SeqAt.eqv_refl _ (SeqAt.canLay_of_shaped (sh_4 _ _ _ _))]
  refine iteF ?_
  have s4 := (s12.trans s3).trans (same_upd (o := .tup [.int (((ownMat MA MA.length b m).length : Int) - mI), .int mI, .int ((MA.length : Int) - ((ownMat MA MA.length b m).length : Int) - ((darkMat MA MA.length c).length : Int) + mI), .int (((darkMat MA MA.length c).length : Int) - mI)]) ht4)
  have hpl4 := mon_pl _ _ _ _ _ _ _ s4 hpl
  obtain ⟨o4, ho4, m4⟩ := lawSt_some (lawSt_mono s4 hst)
  have hplh := imm_pl _ _ _ _ _ _ _ _ ho4 m4 hpl4
  have htvh := imm_mt _ _ _ _ _ _ ho4 m4 (mon_mt _ _ _ _ _ s4 htv)
  obtain ⟨_, dx, _, _, _, e, hx, _⟩ := id hpl4
  cases e
  refine ⟨_, rfl, x2, dx, _, rfl, hx, no_fed _ _ _, _, rfl, _, rfl, _, rfl, p, P, l, MA.length, rfl, lawSt_mono s4 hst, by omega, fun kv k H5 hk sh5 _ _ hkv => ?_⟩
  have hpl5 := mon_pl _ _ _ _ _ _ _ (sh5.trans hide_le) hplh
  refine ⟨p, P, .ref x2, kv, MA, b, c, k, rfl, hpl5, itm_of (mon_lin k _ _ _ hide_le hkv), hk, plok.hb, plok.hc, plok.hA, plok.h8, fun z H6 s6 hz => ?_⟩
  obtain ⟨m', hks', hown'⟩ := hfed k hk
  have lo : (outerRows k b).length = MA.length := by unfold outerRows; rw [List.length_map, hk]
  have plok' : PlOk MA.length (addRows MA (outerRows k b)) b c := ⟨by rw [addRows_len lo.symm], addRows_row plok.hA fun x hx => by rw [outer_row x hx, plok.hb], plok.hb, plok.hc, plok.h8⟩
  refine ⟨p, P, z, MA.length, addRows MA (outerRows k b), b, c, m', rfl, hz, plok', hks', fun z2 H7 s7 hz2 => ?_⟩
  rw [hown'] at hz2
  refine ⟨_, rfl, d_mt hz2 (mon_mt _ _ _ _ _ ((sh5.trans hide_le).trans (s6.trans s7)) htvh), fun H8 s8 => q H8⟩
end
end K47

/-! text L10b -/
/-! law: its dimensions -/
namespace K47
open PySem PySem.Spec PyProof.Rows L2
section
variable {P : Program} {w : World} {K : PySem.W.Frag} {mg : Str → Option Value} {base : Heap}
theorem law_tail2 (T : Tx K mg) {cdv : Value} {A : Around} {outer : List Env} {s : Shared} {H0 : Hp} {E : XK} (hr : Room 15 (A.deeper (envOfC "law" (defScope s_law) s.heap.objs.size (He.ga K "law") cdv))) :
    ∃ t, PSs (cxOf C8.CX0 P w K mg base N_law "law" (defScope s_law) (He.ga K "law") cdv A outer s H0 E).nox ((defBody s_law).drop 12) t ∧ ∀ (p : Nat) (hp : P23 p) (l gx x2 : Addr) (sc rv bv cv ov dv tv : V) (vx : Option V) (MA : List (List (Zp p))) (b c : List (Zp p)) (own dk : List (List (Zp p))) (m : Nat) (Hc : Hp) (Q : VK),
      Pl K MA.length MA b c (.ref x2) Hc → PlOk MA.length MA b c → MA.length ≤ 4 → KStop MA MA.length b m → LawSt l Hc → Mt K (ownMat MA MA.length b m) MA.length tv Hc → LstOf TupL own ov Hc → LstOf TupL dk dv Hc → own.length < 64 →
      dimL p own.length = (ownMat MA MA.length b m).length → dimL p dk.length = (darkMat MA MA.length c).length →
      (dimL p (own.filter fun x => decide (x ∈ dk)).length : Int) = (ownMat MA MA.length b m).length + (darkMat MA MA.length c).length - sumCnt MA MA.length b c m →
      (∀ k : List (Zp p), k.length = MA.length → ∃ m', KStop (addRows MA (outerRows k b)) MA.length b m' ∧ ownMat (addRows MA (outerRows k b)) MA.length b m' = ownMat MA MA.length b m) → (∀ H', Q (.bl true) H') →
      t { nx := fun _ H' => Q .non H', rt := Q } [some sc, some (.ref l), some (.int (p : Int)), some (.ref gx), some (.int (MA.length : Int)), some rv, some bv, some cv, some (.ref x2), some ov, some dv, some tv, none, none, none, vx] Hc := by
  have nd := sc_law.nd
  have hun := hr.units
  have hun65 : (A.deeper (envOfC "law" (defScope s_law) s.heap.objs.size (He.ga K "law") cdv)).units + 65 < cLine := by have := hr.un; omega
  obtain ⟨t1, d1, r1⟩ := law_tail1 (P := P) (w := w) (base := base) T (outer := outer) (H0 := H0) (E := E) hr
  refine ⟨_, pss_cons (ps_set (i := 12) nd rfl (Or.inl rfl) (C8.pe_c (ok_law_dimension T) hr (by decide) (by rfl) (pa_cons (pv 2) (pa_cons (pe_callB call_len_seq (by rfl) T.b_len PySem.boot_len (pa_cons (pv 9) pa_nil)) pa_nil))))
      (pss_cons (ps_set (i := 13) nd rfl (Or.inl rfl) (C8.pe_c (ok_law_dimension T) hr (by decide) (by rfl) (pa_cons (pv 2) (pa_cons (pe_callB call_len_seq (by rfl) T.b_len PySem.boot_len (pa_cons (pv 10) pa_nil)) pa_nil))))
      (pss_cons (ps_set (i := 14) nd rfl (Or.inl rfl) (C8.pe_c (ok_law_dimension T) hr (by decide) (by rfl) (pa_cons (pv 2) (pa_cons (pe_callB call_len_seq (by rfl) T.b_len PySem.boot_len (pa_cons
          (pe_lc (own := [("_law_x", 15)]) (g := gName 15) (tt := inDarkT K) (te := tVar 15) rfl nd (pi_list (pv 9)) (blkOk_by (N := N_law) (sc := defScope s_law) (by decide +kernel)) (fun _ _ _ _ _ => pg_name (i := 15) nd rfl (Or.inl rfl))
            (fun _ _ _ _ _ => pts_one (pt_cmpR (op_inD hun65) (pv 15) (pv 10) (by rfl))) (fun _ _ _ _ _ => pv 15)) pa_nil)) pa_nil))))
      d1)), ?_⟩
  intro p P l gx x2 sc rv bv cv ov dv tv vx MA b c own dk m Hc Q hpl plok hn4 hks hst htv hov hdv h64 hdr hds hdm hfed q
  have hp2 := P23.two p
  have hp3 := P23.le p
  obtain ⟨oa, ovs, e, hoa, alo⟩ := id hov
  subst e
  obtain ⟨D, dvs, e, hda, ald2⟩ := id hdv
  subst e
  have lovs := alo.length
  have ldvs := ald2.length
  refine ⟨_, rfl, _, rfl, oa, ovs, rfl, .inl (SqL.of hoa), p, ovs.length, rfl, hp3, by omega, ?_⟩
  rw [lovs, hdr]
  refine ⟨_, rfl, _, rfl, D, dvs, rfl, .inl (SqL.of hda), p, dvs.length, rfl, hp3, by omega, ?_⟩
  rw [ldvs, hds]
  refine ⟨_, rfl, _, rfl, oa, rfl, ⟨_, SqL.of hoa⟩, fun D2 hD2 => ?_⟩
  refine lc_sel (walk_list (xs := ovs)) (fun i => decide (own.getD i [] ∈ dk)) (fun i => own.getD i []) TupL mon_tin (by omega) hD2 (fun H s => SqL.of (s _ _ hoa)) ?_ ?_
  · rintro i x _ H19 hi s19 ⟨acc, ha⟩ ⟨rfl, hx⟩ Kk Nn kk nn
    obtain ⟨st, hst, hR⟩ := alo.get' hx
    have hR19 := mon_tin st _ _ _ s19 hR
    have e : own.getD i [] = st := by rw [List.getD_eq_getElem?_getD, hst]; rfl
    rw [e] at kk nn
    refine ⟨rfl, inDark_read (xv := x) (dv := .ref D) rfl rfl hR19 (mon_lst mon_tin _ _ _ _ s19 hdv) (ifB (fun hb1 => ?_) fun hb1 => nn hb1 _ (Same.refl _))⟩
    exact ⟨_, rfl, kk hb1 _ _ (Same.refl _) (imm_tin _ _ _ _ _ ha trivial hR19)⟩
  intro H19 mus s19 hD19 alm
  rw [lovs, range_filter_map own [] (fun x => decide (x ∈ dk)) (fun x => x), List.map_id'] at alm
  have lmu := alm.length
  refine ⟨D2, mus, rfl, .inl (SqL.of hD19), p, mus.length, rfl, hp3, by omega, ?_⟩
  rw [lmu]
  exact r1 p P l gx x2 D sc rv bv cv _ tv vx MA b c m _ H19 Q (mon_pl _ _ _ _ _ _ _ s19 hpl) plok hn4 hks (lawSt_mono s19 hst) (mon_mt _ _ _ _ _ s19 htv) hdm hfed q
end
end K47

/-! text L10c -/
/-! law -/
namespace K47
open PySem PySem.Spec PyProof.Rows L2
section
variable {P : Program} {w : World} {K : PySem.W.Frag} {mg : Str → Option Value} {base : Heap}
theorem ok_law (T : Tx K mg) (PL : PlainLaw) {fd : FuncData} (F : FnP K "law" "law" s_law [] (He.ga K "law") fd) : FnOk P w K mg base C8.CX0 16 (He.ga K "law") fd ["_law_script"] (spLaw K) := by
  refine fnok F sc_law (fun vs H Q E h => ?_) (fun cdv A outer s H vs Q E hr h => ?_)
  · obtain ⟨a, ns, rfl, _⟩ := h; rfl
  · obtain ⟨a, ns, rfl, hs, q⟩ := h
    have nd := sc_law.nd
    have hun := hr.units
    obtain ⟨t2, d2, r2⟩ := law_tail2 (P := P) (w := w) (base := base) T (outer := outer) (H0 := H) (E := E) hr
    refine ⟨_, pss_cons (ps_set (i := 1) nd rfl (Or.inl rfl) (C8.pe_c (ok_law_state T) hr (by decide) (by rfl) (pa_cons (pv 0) pa_nil)))
      (pss_cons (ps_set (i := 2) nd rfl (Or.inr rfl) (pe_ix ix_list (pe_lst (pa_cons pe_int (pa_cons pe_int (pa_cons pe_int pa_nil)))) (C8.pe_c (ok_law_take T) hr (by decide) (by rfl) (pa_cons (pv 1) (pa_cons pe_int pa_nil))) (fun _ _ => rfl)))
      (pss_cons (ps_set (i := 3) nd rfl (Or.inl rfl) (C8.pe_mk (ok_gr_init T) hr (by decide) (by rfl) (pa_cons (pv 2) pa_nil)))
      (pss_cons (ps_set (i := 4) nd rfl (Or.inr rfl) (C8.pe_c (ok_law_take T) hr (by decide) (by rfl) (pa_cons (pv 1) (pa_cons (pe_op op_sub pe_int (pv 2)) pa_nil))))
      (pss_cons (ps_set (i := 5) nd rfl (Or.inr rfl) (C8.pe_c (ok_law_rows T) hr (by decide) (by rfl) (pa_cons (pv 1) (pa_cons (pv 2) (pa_cons (pv 4) pa_nil)))))
      (pss_cons (ps_set (i := 6) nd rfl (Or.inl rfl) (C8.pe_c (ok_law_row T) hr (by decide) (by rfl) (pa_cons (pv 1) (pa_cons (pv 2) (pa_cons (pv 4) pa_nil)))))
      (pss_cons (ps_set (i := 7) nd rfl (Or.inr rfl) (C8.pe_c (ok_law_row T) hr (by decide) (by rfl) (pa_cons (pv 1) (pa_cons (pv 2) (pa_cons (pv 4) pa_nil)))))
      (pss_cons (ps_set (i := 8) nd rfl (Or.inl rfl) (C8.pe_mk (ok_pl_init T) hr (by decide) (by rfl) (pa_cons (C8.pe_mk (ok_mt_init T) hr (by decide) (by rfl) (pa_cons (pv 3) (pa_cons (pv 5) (pa_cons (pv 4) pa_nil)))) (pa_cons (pv 6) (pa_cons (pv 7) pa_nil)))))
      (pss_cons (ps_set (i := 9) nd rfl (Or.inl rfl) (C8.pe_c (ok_law_reached T) hr (by decide) (by rfl) (pa_cons (pv 2) (pa_cons (pv 5) (pa_cons (pv 6) (pa_cons (pv 4) pa_nil))))))
      (pss_cons (ps_set (i := 10) nd rfl (Or.inr rfl) (pe_lc (own := [("_law_x", 15)]) (g := gName 15) (tt := isDarkT K) (te := tVar 15) rfl nd (pi_list (C8.pe_c (ok_law_states T) hr (by decide) (by rfl) (pa_cons (pv 2) (pa_cons (pv 4) pa_nil)))) (blkOk_by (N := N_law) (sc := defScope s_law) (by decide +kernel)) (fun _ _ _ _ _ => pg_name (i := 15) nd rfl (Or.inl rfl))
          (fun _ _ _ _ _ => pts_one (pt_val (C8.pe_c (ok_law_is_dark T) hr (by decide) (by rfl) (pa_cons (pv 2) (pa_cons (pv 5) (pa_cons (pv 15) (pa_cons (pv 7) (pa_cons (pv 4) pa_nil)))))))) (fun _ _ _ _ _ => pv 15)))
      (pss_cons (ps_set (i := 11) nd rfl (Or.inl rfl) (C8.pe_c (ok_reach T) hr (by decide) (by rfl) (pa_cons (pv 8) pa_nil)))
      (pss_cons (ps_if (PW.pt (pw_or (pt_not (pt_val (C8.pe_c (ok_law_shows T) hr (by decide) (by rfl) (pa_cons (pv 2) (pa_cons (pv 3) (pa_cons (pv 11) (pa_cons (pv 9) (pa_cons (pv 4) pa_nil)))))))) (pw_or1 (pt_not (pt_val (C8.pe_c (ok_law_shows T) hr (by decide) (by rfl) (pa_cons (pv 2) (pa_cons (pv 3) (pa_cons (C8.pe_c (ok_dark T) hr (by decide) (by rfl) (pa_cons (pv 8) pa_nil)) (pa_cons (pv 10) (pa_cons (pv 4) pa_nil))))))))))) pss_never pss_nil)
      d2))))))))))), ?_⟩
    refine ⟨_, rfl, a, ns, rfl, hs, fun l H1 s1 hl0 hst1 => ?_⟩
    refine ⟨(by show 3 ≤ sizeLine; decide), fun q1 hq1 => ⟨_, rfl, l, 3, rfl, lawSt_mono (same_upd hq1) hst1, by decide, by decide, fun v H2 hv hst2 k2 => ?_⟩⟩
    obtain ⟨p, hp, hat⟩ := three_at v hv
    have P : P23 p := ⟨hp⟩
    have hp2 := P23.two p
    have hp3 := P23.le p
    have nq1 : q1 ≠ l := fun e => by
      obtain ⟨o, ho, _⟩ := lawSt_some hst1
      rw [e, ho] at hq1; cases hq1
    have hq2 : H2 q1 = some (.lst [.int 2, .int 2, .int 3]) := by rw [k2 q1 nq1]; exact upd_same
    refine ⟨q1, _, _, _, rfl, rfl, SqL.of hq2, hat, ?_⟩
    refine ⟨_, rfl, ?_⟩
    intro gx gdx ngx ngd _
    refine ⟨gx, gdx, p, rfl, hp, upd_same, fun H3 hx3 k3 => ⟨rfl, ?_⟩⟩
    have s3 : Same H2 H3 := Same.made ngx ngd k3
    have hg3 : Gr K p (.ref gx) H3 := ⟨gx, gdx, rfl, hx3⟩
    have hst3 := lawSt_mono s3 hst2
    have e7 : ((7 - p : Nat) : Int) = 7 - (p : Int) := by omega
    refine ⟨_, rfl, _, rfl, _, _, rfl, rfl, l, 7 - p, by rw [e7]; rfl, hst3, by omega, by omega, fun n H4 hn hst4 k4 => ?_⟩
    obtain ⟨o3, ho3, m3⟩ := lawSt_some hst3
    have hg4 : Gr K p (.ref gx) (hide l H4) := by rw [hide_eq k4]; exact imm_gr _ _ _ _ ho3 m3 hg3
    have hn4 : n ≤ 4 := by rcases hp with e | e <;> omega
    have h64 : p ^ n < 64 := by
      rcases hp with e | e
      · have : p ^ n ≤ p ^ 4 := pow_le_of (by omega) (by omega)
        rw [e] at this ⊢; omega
      · have : p ^ n ≤ p ^ 3 := pow_le_of (by omega) (by omega)
        rw [e] at this ⊢; omega
    refine ⟨_, rfl, _, rfl, _, rfl, p, P, l, n, rfl, hst4, by omega, fun rv MA H5 hA hAr sh5 hst5 hrv => ?_⟩
    subst hA
    refine ⟨_, rfl, _, rfl, _, rfl, p, P, l, _, rfl, hst5, by omega, fun bv b H6 hb sh6 hst6 _ hbv => ?_⟩
    refine ⟨_, rfl, _, rfl, _, rfl, p, P, l, _, rfl, hst6, by omega, fun cv c H7 hc sh7 hst7 _ hcv => ?_⟩
    have hg7 : Gr K p (.ref gx) H7 := mon_gr _ _ _ (((sh5.trans sh6).trans sh7).trans hide_le) hg4
    have hrv7 : LstOf (LstOf In) MA rv H7 := mon_lst mon_lin MA _ _ _ ((sh6.trans sh7).trans hide_le) hrv
    have hbv7 : LstOf In b bv H7 := mon_lin b _ _ _ (sh7.trans hide_le) hbv
    have hcv7 : LstOf In c cv H7 := mon_lin c _ _ _ hide_le hcv
    have plok : PlOk MA.length MA b c := ⟨rfl, hAr, hb, hc, by omega⟩
    obtain ⟨m, hks, hown, hdark, hdr, hds, hdm, hole, hfed⟩ := PL p P MA.length MA b c plok h64 hn4
    generalize hdk : darkL MA c MA.length = dk at *
    generalize hrl : reachL MA b MA.length MA.length = rl at *
    refine ⟨_, rfl, _, rfl, _, rfl, ?_⟩
    intro x1 dx1 nx1 nd1 _
    refine mk_mt hg7 (inRows_li hrv7) (by omega) (by omega) hAr nx1 nd1 fun H8 s8 hm8 => ⟨rfl, ?_⟩
    refine ⟨_, rfl, _, rfl, ?_⟩
    intro x2 dx2 nx2 nd2 _
    refine mk_pl hm8 (itm_of (mon_lin b _ _ _ s8 hbv7)) (itm_of (mon_lin c _ _ _ s8 hcv7)) hb hc (by omega) nx2 nd2 fun H9 s9 hpl9 => ⟨rfl, ?_⟩
    have s79 := s8.trans s9
    have hg9 := mon_gr _ _ _ s79 hg7
    have hrv9 := mon_lst mon_lin MA _ _ _ s79 hrv7
    have hbv9 := mon_lin b _ _ _ s79 hbv7
    have hcv9 := mon_lin c _ _ _ s79 hcv7
    have hst9 := lawSt_mono s79 hst7
    -- own
    refine ⟨_, rfl, _, rfl, _, rfl, _, rfl, p, P, rv, bv, MA, b, MA.length, rfl, hrv9, hbv9, rfl, hAr, hb, h64, by omega, fun ov own H10 s10 hpo hpw hov => ?_⟩
    rw [hrl] at hpo
    -- dark
    refine ⟨_, rfl, _, rfl, p, P, MA.length, rfl, h64, by omega, fun sv H11 s11 hsv => ?_⟩
    obtain ⟨sa, svs, rfl, hsa, als⟩ := hsv
    have s911 := s10.trans s11
    have lsv := als.length
    have lst := statesL_len (F := Zp p) MA.length
    rw [all_len] at lst
    refine ⟨sa, rfl, ⟨_, SqL.of hsa⟩, fun D hD => ?_⟩
    refine lc_sel (walk_list (xs := svs)) (fun i => darkB MA ((statesL (Zp p) MA.length).getD i []) c MA.length) (fun i => (statesL (Zp p) MA.length).getD i []) TupL mon_tin (by omega) hD (fun H s => SqL.of (s _ _ hsa)) ?_ ?_
    · rintro i x _ H12 hi s12 ⟨acc, ha⟩ ⟨rfl, hx⟩ Kk Nn kk nn
      obtain ⟨st, hst, hR⟩ := als.get' hx
      have hR12 := mon_tin st _ _ _ s12 hR
      have hsl := statesL_row _ st (List.mem_of_getElem? hst)
      have e : (statesL (Zp p) MA.length).getD i [] = st := by rw [List.getD_eq_getElem?_getD, hst]; rfl
      rw [e] at kk nn
      refine ⟨rfl, _, rfl, _, rfl, _, rfl, _, rfl, _, rfl, p, P, rv, x, cv, MA, st, c, MA.length, rfl, mon_lst mon_lin MA _ _ _ (s911.trans s12) hrv9, hR12, mon_lin c _ _ _ (s911.trans s12) hcv9, rfl, hAr, hsl, hc, by omega, fun H13 s13 => ⟨_, rfl, ifB (fun hb1 => ?_) fun hb1 => nn hb1 _ s13⟩⟩
      exact ⟨_, rfl, kk hb1 _ _ s13 (imm_tin _ _ _ _ _ (s13 _ _ ha) trivial (mon_tin st _ _ _ s13 hR12))⟩
    intro H14 dus s14 hD14 ald
    rw [lsv, range_filter_map (statesL (Zp p) MA.length) [] (fun x => darkB MA x c MA.length) (fun x => x), List.map_id'] at ald
    have hdk2 : (statesL (Zp p) MA.length).filter (fun x => darkB MA x c MA.length) = dk := hdk
    rw [hdk2] at ald
    have hdv14 : LstOf TupL (dk) (.ref D) H14 := ⟨D, dus, rfl, hD14, ald.mono mon_tin hide_le⟩
    have s914 := s911.trans s14
    have s1014 := s11.trans s14
    -- told
    have RO := redR_ok (krows_len (k := m) hb hAr)
    have RD := redR_ok (kerRows_len (obsT_row (A := MA) (n := MA.length) (c := c)))
    have lT : (transp (obsCols MA MA.length c) MA.length).length = MA.length := transp_len _ _
    rw [lT] at RD
    have hdm2 : darkMat MA MA.length c = (redR (kerRows (transp (obsCols MA MA.length c) MA.length) MA.length) MA.length).map (·.1) := by
      unfold darkMat kerMat redRows
      rw [lT]
    have hdl := darkMat_cnt (A := MA) (n := MA.length) (c := c)
    rw [hdm2, List.length_map] at hdl
    have hol : (redR (krows MA MA.length b m) MA.length).length ≤ MA.length := by
      have : (ownMat MA MA.length b m).length = (redR (krows MA MA.length b m) MA.length).length := List.length_map _
      omega
    refine ⟨_, rfl, p, P, .ref x2, MA.length, MA, b, c, m, rfl, mon_pl _ _ _ _ _ _ _ s914 hpl9, plok, hks, fun tv H15 s15 htv => ?_⟩
    have s915 := s914.trans s15
    have pw1 : p ^ (redR (krows MA MA.length b m) MA.length).length < 64 := Nat.lt_of_le_of_lt (pow_le_of hol (by omega)) h64
    refine ⟨_, rfl, _, rfl, _, rfl, _, rfl, _, rfl, p, P, .ref gx, tv, ov, redR (krows MA MA.length b m) MA.length, own, MA.length, rfl, mon_gr _ _ _ s915 hg9, htv, mon_lst mon_tin own _ _ _ (s1014.trans s15) hov, RO.rr, RO.len, RO.lt, by omega, by omega, pw1, hown own hpo hpw, fun H16 s16 => ⟨true, rfl, iteF ?_⟩⟩
    have s916 := s915.trans s16
    refine ⟨_, rfl, _, rfl, _, rfl, p, P, .ref x2, MA.length, MA, b, c, rfl, mon_pl _ _ _ _ _ _ _ s916 hpl9, plok, fun dv H17 s17 hdv => ?_⟩
    have s917 := s916.trans s17
    have s1417 := (s15.trans s16).trans s17
    rw [hdm2] at hdv
    have pw2 : p ^ (redR (kerRows (transp (obsCols MA MA.length c) MA.length) MA.length) MA.length).length < 64 := Nat.lt_of_le_of_lt (pow_le_of hdl (by omega)) h64
    refine ⟨_, rfl, _, rfl, p, P, .ref gx, dv, .ref D, _, dk, MA.length, rfl, mon_gr _ _ _ s917 hg9, hdv, mon_lst mon_tin _ _ _ _ s1417 hdv14, RD.rr, RD.len, RD.lt, by omega, by omega, pw2, by rw [← hdm2]; exact hdark, fun H18 s18 => ⟨true, rfl, iteF ?_⟩⟩
    have s918 := s917.trans s18
    have hown64 : own.length < 64 := by
      have := nodup_card (Dist.reach (rows := MA) (b := b) (n := MA.length) MA.length).nd (Dist.reach (rows := MA) (b := b) (n := MA.length) MA.length).ln
      rw [all_len, hrl] at this
      have := hpo.length_eq
      omega
    refine r2 p P l gx x2 (.ref a) rv bv cv ov (.ref D) tv _ MA b c own dk m H18 Q (mon_pl _ _ _ _ _ _ _ s918 hpl9) plok hn4 hks (lawSt_mono s918 hst9) (mon_mt _ _ _ _ _ ((s16.trans s17).trans s18) htv) (mon_lst mon_tin own _ _ _ ((s1014.trans s1417).trans s18) hov) (mon_lst mon_tin _ _ _ _ (s1417.trans s18) hdv14) hown64 (by rw [hpo.length_eq]; exact hdr) hds ?_ hfed q
    rw [(hpo.filter _).length_eq]
    exact hdm
end
end K47

/-! text M3 -/
/-! sums; rows times matrices as vectors; spans as sums -/
namespace K47
section
variable {F : Type} [Fld F]
def fsum : Nat → (Nat → F) → F
  | 0, _ => 0
  | n + 1, f => fsum n f + f n
theorem fsum_congr {f g : Nat → F} : ∀ {n : Nat}, (∀ i, i < n → f i = g i) → fsum n f = fsum n g
  | 0, _ => rfl
  | n + 1, h => by simp only [fsum]; rw [fsum_congr fun i hi => h i (Nat.lt_succ_of_lt hi), h n (Nat.lt_succ_self n)]
theorem fsum_zero {f : Nat → F} : ∀ {n : Nat}, (∀ i, i < n → f i = 0) → fsum n f = 0
  | 0, _ => rfl
  | n + 1, h => by simp only [fsum]; rw [fsum_zero fun i hi => h i (Nat.lt_succ_of_lt hi), h n (Nat.lt_succ_self n)]; grind
theorem fsum_lin (a : F) (f g : Nat → F) : ∀ n : Nat, fsum n (fun i => f i + a * g i) = fsum n f + a * fsum n g
  | 0 => by simp only [fsum]; grind
  | n + 1 => by simp only [fsum]; rw [fsum_lin a f g n]; grind
theorem fsum_mul (a : F) (f : Nat → F) : ∀ n : Nat, fsum n (fun i => f i * a) = fsum n f * a
  | 0 => by simp only [fsum]; grind
  | n + 1 => by simp only [fsum]; rw [fsum_mul a f n]; grind
theorem fsum_mul' (a : F) (f : Nat → F) : ∀ n : Nat, fsum n (fun i => a * f i) = a * fsum n f
  | 0 => by simp only [fsum]; grind
  | n + 1 => by simp only [fsum]; rw [fsum_mul' a f n]; grind
theorem fsum_add (f g : Nat → F) : ∀ n : Nat, fsum n (fun i => f i + g i) = fsum n f + fsum n g
  | 0 => by simp only [fsum]; grind
  | n + 1 => by simp only [fsum]; rw [fsum_add f g n]; grind
theorem fsum_swap (f : Nat → Nat → F) (m : Nat) : ∀ n : Nat, fsum n (fun i => fsum m (fun j => f i j)) = fsum m (fun j => fsum n (fun i => f i j))
  | 0 => by simp only [fsum]; exact (fsum_zero fun _ _ => rfl).symm
  | n + 1 => by simp only [fsum]; rw [fsum_swap f m n, fsum_add]
theorem fsum_head (f : Nat → F) : ∀ n : Nat, fsum (n + 1) f = f 0 + fsum n (fun i => f (i + 1))
  | 0 => by simp only [fsum]; grind
  | n + 1 => by
    have h := fsum_head f n
    have e1 : fsum (n + 1 + 1) f = fsum (n + 1) f + f (n + 1) := rfl
    have e2 : fsum (n + 1) (fun i => f (i + 1)) = fsum n (fun i => f (i + 1)) + f (n + 1) := rfl
    rw [e1, e2, h]; grind
theorem lsum_app : ∀ a b : List F, lsum (a ++ b) = lsum a + lsum b
  | [], b => by simp only [List.nil_append, lsum]; grind
  | x :: a, b => by simp only [List.cons_append, lsum]; rw [lsum_app a b]; grind
theorem lsum_range (f : Nat → F) : ∀ n : Nat, lsum ((List.range n).map f) = fsum n f
  | 0 => rfl
  | n + 1 => by rw [List.range_succ, List.map_append, lsum_app, lsum_range f n]; simp only [List.map_cons, List.map_nil, lsum, fsum]; grind
/-- the map v ↦ v A -/
def mulV (A : List (Row F)) (n : Nat) (v : Vec F) : Vec F := fun j => fsum n fun i => v i * tl (A.getD i []) j
theorem mulV_lin (A : List (Row F)) (n : Nat) : Lin (mulV A n) where
  zero := fun u h j => fsum_zero fun i _ => by rw [h i]; grind
  lin := fun a u v w h j => by
    unfold mulV
    rw [← fsum_lin]
    exact fsum_congr fun i _ => by rw [h i]; grind
def vpow (T : Vec F → Vec F) (v : Vec F) : Nat → Vec F
  | 0 => v
  | k + 1 => T (vpow T v k)
def dotV (n : Nat) (u v : Vec F) : F := fsum n fun i => u i * v i
/-- spans as sums -/
theorem span_sum {S : List (Vec F)} : ∀ {v : Vec F}, Span S v ↔ ∃ c : Nat → F, ∀ j, v j = fsum S.length fun i => c i * S.getD i (fun _ => 0) j := by
  induction S with
  | nil =>
    intro v
    rw [Span.nil_iff]
    exact ⟨fun h => ⟨fun _ => 0, fun j => h j⟩, fun ⟨c, h⟩ => h⟩
  | cons r S ih =>
    intro v
    rw [Span.cons_iff]
    constructor
    · rintro ⟨a, u, hu, e⟩
      obtain ⟨c, hc⟩ := ih.mp hu
      refine ⟨fun i => match i with | 0 => a | i + 1 => c i, fun j => ?_⟩
      rw [List.length_cons, fsum_head, e j, hc j]
      show _ = a * r j + fsum S.length fun i => c i * S.getD i (fun _ => 0) j
      grind
    · rintro ⟨c, hc⟩
      refine ⟨c 0, fun j => fsum S.length fun i => c (i + 1) * S.getD i (fun _ => 0) j, ih.mpr ⟨fun i => c (i + 1), fun _ => rfl⟩, fun j => ?_⟩
      rw [hc j, List.length_cons, fsum_head]
      show c 0 * r j + (fsum S.length fun i => c (i + 1) * S.getD i (fun _ => 0) j) = _
      grind
theorem getD_map_tl (rows : List (Row F)) (i : Nat) (j : Nat) : (rows.map tl).getD i (fun _ => 0) j = tl (rows.getD i []) j := by
  rw [List.getD_eq_getElem?_getD, List.getD_eq_getElem?_getD, List.getElem?_map]
  cases rows[i]? with
  | none => simp [tl]
  | some r => rfl
theorem rspan_sum {rows : List (Row F)} {v : Vec F} : RSpan rows v ↔ ∃ c : Nat → F, ∀ j, v j = fsum rows.length fun i => c i * tl (rows.getD i []) j := by
  show Span (rows.map tl) v ↔ _
  rw [span_sum, List.length_map]
  constructor
  · rintro ⟨c, h⟩
    exact ⟨c, fun j => (h j).trans (fsum_congr fun i _ => by rw [getD_map_tl])⟩
  · rintro ⟨c, h⟩
    exact ⟨c, fun j => (h j).trans (fsum_congr fun i _ => by rw [getD_map_tl])⟩
theorem span_image {S : List (Vec F)} {T : Vec F → Vec F} (hT : Lin T) {z : Vec F} : Span (S.map T) z ↔ ∃ y, Span S y ∧ ∀ j, z j = T y j := by
  constructor
  · intro h
    induction h with
    | @zero v hz => exact ⟨fun _ => 0, .zero fun _ => rfl, fun j => by rw [hz j, hT.zero _ (fun _ => rfl) j]⟩
    | @step v r u a _ hr hx ih =>
      obtain ⟨y, hy, e⟩ := ih
      obtain ⟨s, hs, rfl⟩ := List.mem_map.mp hr
      refine ⟨fun i => y i + a * s i, Span.step a hy hs fun _ => rfl, fun j => ?_⟩
      rw [hx j, e j, hT.lin a y s _ (fun _ => rfl) j]
  · rintro ⟨y, hy, e⟩
    exact (Span.map hT (fun r hr => Span.mem (List.mem_map_of_mem hr)) hy).congr e
variable [DecidableEq F]
theorem rt_fold (j : Nat) : ∀ (l : List (F × Row F)) (t : Row F) (w : Nat), t.length = w → (∀ x ∈ l, x.2.length = w) → tl (l.foldl rtStep t) j = tl t j + fsum l.length fun i => (l.getD i (0, [])).1 * tl (l.getD i (0, [])).2 j
  | [], t, w, _, _ => by simp only [List.foldl_nil, List.length_nil, fsum]; grind
  | x :: l, t, w, ht, hl => by
    have hx := hl x List.mem_cons_self
    rw [List.foldl_cons, rt_fold j l _ w (rtStep_len ht hx) fun y hy => hl y (List.mem_cons_of_mem _ hy), List.length_cons, fsum_head]
    have e : tl (rtStep t x) j = tl t j + x.1 * tl x.2 j := by
      unfold rtStep
      split
      · rename_i h; rw [h]; grind
      · exact tl_zip (f := fun a b => a + x.1 * b) (by grind) (by rw [ht, hx]) j
    rw [e]
    show _ = tl t j + (x.1 * tl x.2 j + fsum l.length fun i => (l.getD i (0, [])).1 * tl (l.getD i (0, [])).2 j)
    grind
theorem tl_rep (w j : Nat) : tl (List.replicate w (0 : F)) j = 0 := by
  unfold tl
  rw [List.getD_eq_getElem?_getD, List.getElem?_replicate]
  split <;> rfl
theorem tl_rowTimes {row : Row F} {rows : List (Row F)} {w n : Nat} (h1 : row.length = n) (h2 : rows.length = n) (hw : ∀ r ∈ rows, r.length = w) (j : Nat) : tl (rowTimes row rows w) j = mulV rows n (tl row) j := by
  unfold rowTimes
  rw [rt_fold j _ _ w List.length_replicate fun x hx => hw _ (List.of_mem_zip hx).2, tl_rep]
  have hl : (List.zip row rows).length = n := by rw [List.length_zip, h1, h2, Nat.min_self]
  rw [hl]
  unfold mulV
  have e : fsum n (fun i => ((List.zip row rows).getD i (0, [])).1 * tl ((List.zip row rows).getD i (0, [])).2 j) = fsum n fun i => tl row i * tl (rows.getD i []) j := fsum_congr fun i hi => by
    have h3 : i < row.length := by omega
    have h4 : i < rows.length := by omega
    have h5 : (List.zip row rows)[i]? = some (row[i], rows[i]) := List.getElem?_zip_eq_some.mpr ⟨List.getElem?_eq_getElem h3, List.getElem?_eq_getElem h4⟩
    unfold tl
    rw [List.getD_eq_getElem?_getD, List.getD_eq_getElem?_getD, List.getD_eq_getElem?_getD (l := row), List.getD_eq_getElem?_getD (l := rows), h5, List.getElem?_eq_getElem h3, List.getElem?_eq_getElem h4]
    simp only [Option.getD_some, List.getD_eq_getElem?_getD]
  rw [e]; grind
theorem rowBefore_eq {row : Row F} {rows : List (Row F)} {n : Nat} (h1 : row.length = n) (h2 : rows.length = n) (hw : ∀ r ∈ rows, r.length = n) : rowBefore row rows n = rowTimes row rows n := by
  refine tl_inj (by rw [rowBefore_len, rowTimes_len hw]) fun j => ?_
  rw [tl_rowTimes h1 h2 hw]
  unfold rowBefore
  rw [tl_range, h1]
  split
  · rw [lsum_range]; rfl
  · rename_i h
    refine (fsum_zero fun i hi => ?_).symm
    have hr : rows.getD i [] ∈ rows := range_lt (by omega) _
    have hz : tl (rows.getD i []) j = 0 := tl_out (by rw [hw _ hr]; omega)
    rw [hz]; grind
theorem tl_kpow {A : List (Row F)} {n : Nat} {v : Row F} (hA : A.length = n) (hAr : ∀ r ∈ A, r.length = n) (hv : v.length = n) : ∀ k, tl (kpow A n v k) = vpow (mulV A n) (tl v) k
  | 0 => rfl
  | k + 1 => by
    funext j
    show tl (rowTimes (kpow A n v k) A n) j = _
    rw [tl_rowTimes (kpow_len hv hAr k) hA hAr, tl_kpow hA hAr hv k]; rfl
theorem lpow_eq {A : List (Row F)} {n : Nat} {v : Row F} (hA : A.length = n) (hAr : ∀ r ∈ A, r.length = n) (hv : v.length = n) : ∀ k, lpow A n v k = kpow A n v k
  | 0 => rfl
  | k + 1 => by
    show rowBefore (lpow A n v k) A n = rowTimes (kpow A n v k) A n
    rw [lpow_eq hA hAr hv k, rowBefore_eq (kpow_len hv hAr k) hA hAr]
end
end K47

/-! text M4 -/
/-! kernels, solutions -/
namespace K47
section
variable {F : Type} [Fld F] [DecidableEq F]
theorem tl_unit (n i j : Nat) : tl (unitRow n i : Row F) j = if i = j ∧ j < n then 1 else 0 := by
  unfold unitRow
  rw [tl_range]
  by_cases h : j < n
  · rw [if_pos h]
    by_cases e : i = j
    · rw [if_pos e, if_pos ⟨e, h⟩]
    · rw [if_neg e, if_neg fun z => e z.1]
  · rw [if_neg h, if_neg fun z => h z.2]
theorem fsum_unit (c : Nat → F) (j : Nat) : ∀ n : Nat, fsum n (fun i => c i * (if i = j then 1 else 0)) = if j < n then c j else 0
  | 0 => by simp only [fsum]; rw [if_neg (by omega)]
  | n + 1 => by
    simp only [fsum]
    rw [fsum_unit c j n]
    rcases Nat.lt_trichotomy j n with h | h | h
    · rw [if_pos h, if_neg (by omega), if_pos (by omega)]; grind
    · subst h; rw [if_neg (by omega), if_pos rfl, if_pos (by omega)]; grind
    · rw [if_neg (by omega), if_neg (by omega), if_neg (by omega)]; grind
theorem wide_get {rows : List (Row F)} {i : Nat} (h : i < rows.length) : (wideRows rows).getD i [] = rows.getD i [] ++ unitRow rows.length i := by
  unfold wideRows
  rw [List.getD_eq_getElem?_getD, List.getElem?_map, List.getElem?_range h]; rfl
/-- what the wide rows span -/
theorem wide_span {rows : List (Row F)} {w : Nat} (hw : ∀ r ∈ rows, r.length = w) {u : Vec F} : RSpan (wideRows rows) u ↔ ∃ c : Nat → F, ∀ j, u j = if j < w then fsum rows.length (fun i => c i * tl (rows.getD i []) j) else if j - w < rows.length then c (j - w) else 0 := by
  have hl : (wideRows rows).length = rows.length := by simp [wideRows]
  have key : ∀ (c : Nat → F) (j : Nat), fsum (wideRows rows).length (fun i => c i * tl ((wideRows rows).getD i []) j) = if j < w then fsum rows.length (fun i => c i * tl (rows.getD i []) j) else if j - w < rows.length then c (j - w) else 0 := by
    intro c j
    rw [hl]
    by_cases h : j < w
    · rw [if_pos h]
      refine fsum_congr fun i hi => ?_
      have hm : rows.getD i [] ∈ rows := range_lt hi _
      rw [wide_get hi, tl_app, if_pos (by rw [hw _ hm]; exact h)]
    · rw [if_neg h, ← fsum_unit]
      refine fsum_congr fun i hi => ?_
      have hm : rows.getD i [] ∈ rows := range_lt hi _
      rw [wide_get hi, tl_app, if_neg (by rw [hw _ hm]; exact h), hw _ hm, tl_unit]
      by_cases e : i = j - w
      · rw [if_pos ⟨e, by omega⟩, if_pos e]
      · rw [if_neg (fun z => e z.1), if_neg e]
  rw [rspan_sum]
  exact ⟨fun ⟨c, h⟩ => ⟨c, fun j => (h j).trans (key c j)⟩, fun ⟨c, h⟩ => ⟨c, fun j => (h j).trans (key c j).symm⟩⟩
/-- c times the rows is 0 -/
def InKer (rows : List (Row F)) (c : Vec F) : Prop := (∀ i, rows.length ≤ i → c i = 0) ∧ ∀ j, fsum rows.length (fun i => c i * tl (rows.getD i []) j) = 0
theorem shift_lin (w : Nat) : Lin (fun (v : Vec F) i => v (w + i)) where
  zero := fun u h i => h _
  lin := fun a u v x h i => h _
theorem ker_span {rows : List (Row F)} {w : Nat} (hw : ∀ r ∈ rows, r.length = w) {c : Vec F} : RSpan (kerRows rows w) c ↔ InKer rows c := by
  have R := redR_ok (wide_len hw)
  generalize hps : redR (wideRows rows) (w + rows.length) = ps at R
  have hk : kerRows rows w = (ps.filter fun a => decide (w ≤ a.2)).map fun a => a.1.drop w := by unfold kerRows; rw [hps]
  constructor
  · intro h
    rw [hk] at h
    have one : ∀ a ∈ ps, w ≤ a.2 → InKer rows (tl (a.1.drop w)) := fun a ha hge => by
      have hs : RSpan (wideRows rows) (tl a.1) := (R.span _).mp (RSpan.mem (List.mem_map_of_mem (f := (·.1)) ha))
      obtain ⟨d, hd⟩ := (wide_span hw).mp hs
      have hlead := (R.rr.lead a ha).2
      have hlen := R.len a ha
      have e : ∀ i, i < rows.length → tl (a.1.drop w) i = d i := fun i hi => by
        rw [tl_drop, hd, if_neg (by omega), if_pos (by omega)]
        congr 1; omega
      refine ⟨fun i hi => tl_out (by rw [List.length_drop, hlen]; omega), fun j => ?_⟩
      by_cases hj : j < w
      · have := hd j
        rw [if_pos hj, hlead j (by omega)] at this
        rw [this]
        exact fsum_congr fun i hi => by rw [e i hi]
      · refine fsum_zero fun i hi => ?_
        have hm : rows.getD i [] ∈ rows := range_lt hi _
        have hz : tl (rows.getD i []) j = 0 := tl_out (by rw [hw _ hm]; omega)
        rw [hz]; grind
    have gen : ∀ {S : List (Vec F)}, (∀ r ∈ S, InKer rows r) → ∀ {v : Vec F}, Span S v → InKer rows v := fun {S} hS {v} hv => by
      induction hv with
      | zero hz => exact ⟨fun i _ => hz i, fun j => fsum_zero fun i _ => by rw [hz i]; grind⟩
      | @step v r u a _ hr hx ih =>
        refine ⟨fun i hi => by rw [hx i, ih.1 i hi, (hS r hr).1 i hi]; grind, fun j => ?_⟩
        have e : fsum rows.length (fun i => u i * tl (rows.getD i []) j) = fsum rows.length (fun i => v i * tl (rows.getD i []) j) + a * fsum rows.length (fun i => r i * tl (rows.getD i []) j) := by
          rw [← fsum_lin]
          exact fsum_congr fun i _ => by rw [hx i]; grind
        rw [e, ih.2 j, (hS r hr).2 j]; grind
    refine gen (fun r hr => ?_) h
    obtain ⟨x, hx, rfl⟩ := List.mem_map.mp hr
    obtain ⟨a, ha, rfl⟩ := List.mem_map.mp hx
    obtain ⟨h1, h2⟩ := List.mem_filter.mp ha
    exact one a h1 (of_decide_eq_true h2)
  · rintro ⟨h0, h1⟩
    rw [hk]
    let u : Vec F := fun j => if j < w then 0 else c (j - w)
    have hu : RSpan (wideRows rows) u := (wide_span hw).mpr ⟨c, fun j => by
      show (if j < w then 0 else c (j - w)) = _
      by_cases hj : j < w
      · rw [if_pos hj, if_pos hj, h1 j]
      · rw [if_neg hj, if_neg hj]
        split
        · rfl
        · rename_i h; exact h0 _ (by omega)⟩
    have hp : RSpan (ps.map (·.1)) u := (R.span _).mpr hu
    have he := expd_span R.rr hp
    have hin : Span ((ps.filter fun a => decide (w ≤ a.2)).map fun a => tl a.1) (expd ps u) := expd_in fun a ha => by
      by_cases hge : w ≤ a.2
      · exact .inr (Span.mem (List.mem_map.mpr ⟨a, List.mem_filter.mpr ⟨ha, decide_eq_true hge⟩, rfl⟩))
      · refine .inl ?_
        show (if a.2 < w then 0 else c (a.2 - w)) = 0
        rw [if_pos (by omega)]
    have hsh := Span.map (shift_lin w) (R := ((ps.filter fun a => decide (w ≤ a.2)).map fun a => a.1.drop w).map tl) (fun r hr => ?_) hin
    · refine hsh.congr fun i => ?_
      rw [← he (w + i)]
      show c i = if w + i < w then 0 else c (w + i - w)
      rw [if_neg (by omega)]
      congr 1; omega
    · obtain ⟨a, ha, rfl⟩ := List.mem_map.mp hr
      refine (Span.mem (List.mem_map.mpr ⟨a.1.drop w, List.mem_map.mpr ⟨a, ha, rfl⟩, rfl⟩)).congr fun i => ?_
      rw [tl_drop]
theorem getD_app_l {rows : List (Row F)} {x : Row F} {i : Nat} (h : i < rows.length) : (rows ++ [x]).getD i [] = rows.getD i [] := by
  rw [List.getD_eq_getElem?_getD, List.getD_eq_getElem?_getD, List.getElem?_append_left h]
theorem getD_app_r {rows : List (Row F)} {x : Row F} : (rows ++ [x]).getD rows.length [] = x := by
  rw [List.getD_eq_getElem?_getD, List.getElem?_append_right (Nat.le_refl _), Nat.sub_self]; rfl
theorem solved_iff {rows : List (Row F)} {row : Row F} {w : Nat} (hw : ∀ r ∈ rows, r.length = w) (hr : row.length = w) : solved rows row w ↔ RSpan rows (tl row) := by
  have hw' : ∀ r ∈ rows ++ [row.map fun x => -x], r.length = w := fun r h => by
    rcases List.mem_append.mp h with h | h
    · exact hw r h
    · rw [List.mem_singleton.mp h, List.length_map, hr]
  have hl : (rows ++ [row.map fun x => -x]).length = rows.length + 1 := by simp
  have tneg : ∀ j, tl (row.map fun x => -x) j = -(tl row j) := fun j => tl_map (f := fun x => -x) (by grind) j
  constructor
  · rintro ⟨r, hrm, hne⟩
    have hk := (ker_span hw').mp (RSpan.mem hrm)
    refine rspan_sum.mpr ⟨fun i => Fld.inv (tl r rows.length) * tl r i, fun j => ?_⟩
    have h2 := hk.2 j
    rw [hl] at h2
    simp only [fsum] at h2
    rw [getD_app_r, tneg] at h2
    have e1 : fsum rows.length (fun i => tl r i * tl ((rows ++ [row.map fun x => -x]).getD i []) j) = fsum rows.length fun i => tl r i * tl (rows.getD i []) j := fsum_congr fun i hi => by rw [getD_app_l hi]
    rw [e1] at h2
    have e2 : fsum rows.length (fun i => Fld.inv (tl r rows.length) * tl r i * tl (rows.getD i []) j) = Fld.inv (tl r rows.length) * fsum rows.length fun i => tl r i * tl (rows.getD i []) j := by
      rw [← fsum_mul']
      exact fsum_congr fun i _ => by grind
    rw [e2]
    have hinv := Fld.inv_mul _ hne
    generalize fsum rows.length (fun i => tl r i * tl (rows.getD i []) j) = s at h2 ⊢
    generalize tl r rows.length = t at h2 hinv ⊢
    generalize Fld.inv t = t' at hinv ⊢
    have : s = t * tl row j := by grind
    rw [this]; grind
  · intro h
    obtain ⟨c, hc⟩ := rspan_sum.mp h
    let d : Vec F := fun i => if i < rows.length then c i else if i = rows.length then 1 else 0
    have hd : InKer (rows ++ [row.map fun x => -x]) d := by
      refine ⟨fun i hi => ?_, fun j => ?_⟩
      · rw [hl] at hi
        show (if i < rows.length then c i else if i = rows.length then 1 else 0) = 0
        rw [if_neg (by omega), if_neg (by omega)]
      · rw [hl]
        simp only [fsum]
        rw [getD_app_r, tneg]
        have e1 : fsum rows.length (fun i => d i * tl ((rows ++ [row.map fun x => -x]).getD i []) j) = fsum rows.length fun i => c i * tl (rows.getD i []) j := fsum_congr fun i hi => by
          rw [getD_app_l hi]
          show (if i < rows.length then c i else _) * _ = _
          rw [if_pos hi]
        have e2 : d rows.length = 1 := by
          show (if rows.length < rows.length then c rows.length else if rows.length = rows.length then 1 else 0) = 1
          rw [if_neg (by omega), if_pos rfl]
        rw [e1, e2, ← hc j]; grind
    have hs := (ker_span hw').mpr hd
    refine Classical.byContradiction fun hno => ?_
    have hz : ∀ r ∈ (kerRows (rows ++ [row.map fun x => -x]) w).map tl, r rows.length = 0 := fun r hr => by
      obtain ⟨x, hx, rfl⟩ := List.mem_map.mp hr
      exact Classical.byContradiction fun hne => hno ⟨x, hx, hne⟩
    have := Span.vanish hs hz
    have e2 : d rows.length = 1 := by
      show (if rows.length < rows.length then c rows.length else if rows.length = rows.length then 1 else 0) = 1
      rw [if_neg (by omega), if_pos rfl]
    rw [e2] at this
    exact Fld.one_ne this
end
end K47

/-! text M5 -/
/-! enumerated spans; independence; Krylov; the states that are reached -/
namespace K47
section
variable {F : Type} [Fld F] [DecidableEq F]
theorem tl_addMul {n : Nat} {word row : Row F} {a : F} (h1 : word.length = n) (h2 : row.length = n) (j : Nat) : tl (addMul n word a row) j = tl word j + a * tl row j := by
  unfold addMul
  rw [tl_range]
  split
  · rfl
  · rename_i h
    rw [tl_out (l := word) (by omega), tl_out (l := row) (by omega)]; grind
theorem mem_fold {n : Nat} : ∀ (rows found : List (Row F)), (∀ r ∈ rows, r.length = n) → (∀ w ∈ found, w.length = n) → ∀ x : Row F, x ∈ rows.foldl (spanStep n) found ↔ x.length = n ∧ ∃ w ∈ found, ∃ u, RSpan rows u ∧ ∀ j, tl x j = tl w j + u j
  | [], found, _, hf, x => by
    constructor
    · intro h
      exact ⟨hf x h, x, h, fun _ => 0, .zero fun _ => rfl, fun j => by grind⟩
    · rintro ⟨hx, w, hw, u, hu, e⟩
      have hz := Span.nil_iff.mp hu
      have : x = w := tl_inj (by rw [hx, hf w hw]) fun j => by rw [e j, hz j]; grind
      rw [this]; exact hw
  | r :: rows, found, hr, hf, x => by
    have hr0 := hr r List.mem_cons_self
    rw [List.foldl_cons, mem_fold rows _ (fun y hy => hr y (List.mem_cons_of_mem _ hy)) fun w hw => by
      obtain ⟨w0, _, hw⟩ := List.mem_flatMap.mp hw
      obtain ⟨a, _, e⟩ := List.mem_map.mp hw
      rw [← e]; exact addMul_len _ _ _ _]
    constructor
    · rintro ⟨hx, w, hw, u, hu, e⟩
      obtain ⟨w0, hw0, hw⟩ := List.mem_flatMap.mp hw
      obtain ⟨a, _, rfl⟩ := List.mem_map.mp hw
      exact ⟨hx, w0, hw0, fun j => u j + a * tl r j, Span.cons_iff.mpr ⟨a, u, hu, fun _ => rfl⟩, fun j => by rw [e j, tl_addMul (hf w0 hw0) hr0]; grind⟩
    · rintro ⟨hx, w, hw, u, hu, e⟩
      obtain ⟨a, u0, hu0, e0⟩ := Span.cons_iff.mp hu
      exact ⟨hx, addMul n w a r, List.mem_flatMap.mpr ⟨w, hw, List.mem_map.mpr ⟨a, Fld.mem_all a, rfl⟩⟩, u0, hu0, fun j => by rw [e j, tl_addMul (hf w hw) hr0, e0 j]; grind⟩
theorem mem_spanL {n : Nat} {rows : List (Row F)} (hr : ∀ r ∈ rows, r.length = n) (x : Row F) : x ∈ spanL rows n ↔ x.length = n ∧ RSpan rows (tl x) := by
  unfold spanL
  rw [mem_fold rows _ hr fun w hw => by rw [List.mem_singleton.mp hw, List.length_replicate]]
  constructor
  · rintro ⟨hx, w, hw, u, hu, e⟩
    rw [List.mem_singleton.mp hw] at e
    exact ⟨hx, hu.congr fun j => by rw [e j, tl_rep]; grind⟩
  · rintro ⟨hx, h⟩
    exact ⟨hx, _, List.mem_singleton.mpr rfl, tl x, h, fun j => by rw [tl_rep]; grind⟩
/-- no row is in the span of those before it -/
def Ind (rows : List (Row F)) : Prop := ∀ k, k < rows.length → ¬ RSpan (rows.take k) (tl (rows.getD k []))
theorem nodup_step {n : Nat} {found : List (Row F)} {row : Row F} {S : List (Row F)} (hn : found.Nodup) (hf : ∀ w ∈ found, w.length = n) (hr : row.length = n) (hS : ∀ w ∈ found, RSpan S (tl w)) (hi : ¬ RSpan S (tl row)) : (spanStep n found row).Nodup := by
  have cancel : ∀ w1 ∈ found, ∀ w2 ∈ found, ∀ a b : F, addMul n w1 a row = addMul n w2 b row → a = b := fun w1 h1 w2 h2 a b e => by
    refine Classical.byContradiction fun hab => hi ?_
    have hne : a - b ≠ 0 := fun z => hab (by grind)
    have hinv := Fld.inv_mul _ hne
    refine Span.smul (Fld.inv (a - b)) (Span.lin (-1) (hS w2 h2) (hS w1 h1) fun _ => rfl) fun j => ?_
    have ej := congrArg (fun l => tl l j) e
    simp only [tl_addMul (hf w1 h1) hr, tl_addMul (hf w2 h2) hr] at ej
    generalize Fld.inv (a - b) = d at hinv ⊢
    have : tl row j = (d * (a - b)) * tl row j := by rw [hinv]; grind
    rw [this]; grind
  unfold spanStep
  refine List.pairwise_flatMap.mpr ⟨fun w hw => List.pairwise_map.mpr (Fld.all_nodup.imp fun {a b} hab e => hab (cancel w hw w hw a b e)), List.Pairwise.imp_of_mem (fun {w1 w2} h1 h2 hne x hx y hy e => ?_) hn⟩
  obtain ⟨a, _, rfl⟩ := List.mem_map.mp hx
  obtain ⟨b, _, rfl⟩ := List.mem_map.mp hy
  have hab := cancel w1 h1 w2 h2 a b e
  subst hab
  refine hne (tl_inj (by rw [hf w1 h1, hf w2 h2]) fun j => ?_)
  have ej := congrArg (fun l => tl l j) e
  simp only [tl_addMul (hf w1 h1) hr, tl_addMul (hf w2 h2) hr] at ej
  grind
theorem spanL_take {n : Nat} {rows : List (Row F)} {k : Nat} (h : k < rows.length) : spanL (rows.take (k + 1)) n = spanStep n (spanL (rows.take k) n) (rows.getD k []) := by
  have e : rows[k]? = some (rows.getD k []) := by rw [List.getD_eq_getElem?_getD, List.getElem?_eq_getElem h]; rfl
  unfold spanL
  rw [take_snoc e, List.foldl_append]; rfl
theorem nodup_spanL {n : Nat} {rows : List (Row F)} (hr : ∀ r ∈ rows, r.length = n) (hi : Ind rows) : (spanL rows n).Nodup := by
  have h : ∀ k, k ≤ rows.length → (spanL (rows.take k) n).Nodup := fun k => by
    induction k with
    | zero => intro _; rw [List.take_zero]; exact List.pairwise_singleton _ _
    | succ k ih =>
      intro hk
      have hrk : ∀ r ∈ rows.take k, r.length = n := fun r h => hr r (List.mem_of_mem_take h)
      rw [spanL_take (by omega)]
      exact nodup_step (ih (by omega)) (spanL_row _) (hr _ (range_lt (by omega) _)) (fun w hw => ((mem_spanL hrk w).mp hw).2) (hi k (by omega))
  have := h rows.length (Nat.le_refl _)
  rw [List.take_length] at this; exact this
theorem all_two : 2 ≤ (Fld.all (F := F)).length := by
  have := sub_len (a := [(0 : F), 1]) (b := Fld.all) (List.pairwise_pair.mpr fun e => Fld.one_ne e.symm) fun x _ => Fld.mem_all x
  exact this
theorem ind_card {n : Nat} {rows : List (Row F)} (hr : ∀ r ∈ rows, r.length = n) (hi : Ind rows) : rows.length ≤ n := by
  have h := nodup_card (nodup_spanL hr hi) (spanL_row (n := n) rows)
  rw [spanL_len] at h
  exact (Nat.pow_le_pow_iff_right (by have := all_two (F := F); omega)).mp h
theorem rr_ind {ps : List (PRow F)} (h : Rr ps) : Ind (ps.map (·.1)) := fun k hk hs => by
  rw [List.length_map] at hk
  have e1 : (ps.map (·.1)).getD k [] = ps[k].1 := by rw [List.getD_eq_getElem?_getD, List.getElem?_map, List.getElem?_eq_getElem hk]; rfl
  rw [e1] at hs
  have := Span.vanish hs (j := ps[k].2) fun r hr => by
    obtain ⟨x, hx, rfl⟩ := List.mem_map.mp hr
    obtain ⟨i, hi, e⟩ := List.getElem_of_mem hx
    rw [List.getElem_take, List.getElem_map] at e
    rw [List.length_take] at hi
    have hp := List.pairwise_iff_getElem.mp h.pw i k (by simp at hi; omega) hk (by omega)
    rw [← e]; exact hp.2
  rw [(h.lead ps[k] (List.getElem_mem hk)).1] at this
  exact Fld.one_ne this
/-! ### Krylov -/
theorem krows_take {A : List (Row F)} {n : Nat} {v : Row F} {k m : Nat} (h : k ≤ m) : (krows A n v m).take k = krows A n v k := by
  unfold krows
  rw [← List.map_take, List.take_range, Nat.min_eq_left h]
theorem krows_getD {A : List (Row F)} {n : Nat} {v : Row F} {k m : Nat} (h : k < m) : (krows A n v m).getD k [] = kpow A n v k := by
  unfold krows
  rw [List.getD_eq_getElem?_getD, List.getElem?_map, List.getElem?_range h]; rfl
theorem mem_krows {A : List (Row F)} {n : Nat} {v : Row F} {k m : Nat} (h : k < m) : kpow A n v k ∈ krows A n v m := List.mem_map.mpr ⟨k, List.mem_range.mpr h, rfl⟩
theorem krows_ind {A : List (Row F)} {n : Nat} {v : Row F} {m : Nat} (hv : v.length = n) (hAr : ∀ r ∈ A, r.length = n) (h : ∀ k, k < m → ¬ solved (krows A n v k) (kpow A n v k) n) : Ind (krows A n v m) := fun k hk hs => by
  rw [krows_cnt] at hk
  rw [krows_take (by omega), krows_getD hk] at hs
  exact h k hk ((solved_iff (krows_len hv hAr) (kpow_len hv hAr k)).mpr hs)
theorem least {P : Nat → Prop} : ∀ n : Nat, (∃ m, m ≤ n ∧ P m) → ∃ m, m ≤ n ∧ P m ∧ ∀ k, k < m → ¬ P k
  | 0, ⟨m, hm, hp⟩ => ⟨m, hm, hp, fun k hk => absurd hk (by omega)⟩
  | n + 1, ⟨m, hm, hp⟩ => by
    by_cases h : ∃ m, m ≤ n ∧ P m
    · obtain ⟨m', h1, h2, h3⟩ := least n h
      exact ⟨m', by omega, h2, h3⟩
    · exact ⟨m, hm, hp, fun k hk hpk => h ⟨k, by omega, hpk⟩⟩
theorem kstop_ex {A : List (Row F)} {n : Nat} {v : Row F} (hv : v.length = n) (hAr : ∀ r ∈ A, r.length = n) (h8 : n ≤ 8) : ∃ m, m ≤ n ∧ KStop A n v m := by
  have hex : ∃ m, m ≤ n ∧ solved (krows A n v m) (kpow A n v m) n := by
    refine Classical.byContradiction fun hno => ?_
    have hi := krows_ind (m := n + 1) hv hAr fun k hk hs => hno ⟨k, by omega, hs⟩
    have := ind_card (krows_len hv hAr) hi
    rw [krows_cnt] at this
    omega
  obtain ⟨m, h1, h2, h3⟩ := least n hex
  exact ⟨m, h1, by omega, h3, h2⟩
/-- the span of all v A^k -/
def KW (A : List (Row F)) (n : Nat) (v : Row F) (u : Vec F) : Prop := ∃ N, RSpan (krows A n v N) u
theorem krows_mono {A : List (Row F)} {n : Nat} {v : Row F} {k m : Nat} (h : k ≤ m) {u : Vec F} (hu : RSpan (krows A n v k) u) : RSpan (krows A n v m) u := by
  refine Span.mono (fun r hr => ?_) hu
  obtain ⟨x, hx, rfl⟩ := List.mem_map.mp hr
  obtain ⟨i, hi, rfl⟩ := List.mem_map.mp hx
  exact List.mem_map_of_mem (mem_krows (by have := List.mem_range.mp hi; omega))
section
variable {A : List (Row F)} {n : Nat} {v : Row F} (hA : A.length = n) (hAr : ∀ r ∈ A, r.length = n) (hv : v.length = n)
include hA hAr hv
theorem kpow_succ_v (k : Nat) : tl (kpow A n v (k + 1)) = mulV A n (tl (kpow A n v k)) := by
  rw [tl_kpow hA hAr hv, tl_kpow hA hAr hv]; rfl
theorem kstop_closed {m : Nat} (hs : solved (krows A n v m) (kpow A n v m) n) {u : Vec F} (hu : RSpan (krows A n v m) u) : RSpan (krows A n v m) (mulV A n u) := by
  refine Span.map (mulV_lin A n) (fun r hr => ?_) hu
  obtain ⟨x, hx, rfl⟩ := List.mem_map.mp hr
  obtain ⟨i, hi, rfl⟩ := List.mem_map.mp hx
  have hi := List.mem_range.mp hi
  rw [← kpow_succ_v hA hAr hv]
  by_cases h : i + 1 < m
  · exact RSpan.mem (mem_krows h)
  · have : i + 1 = m := by omega
    rw [this]
    exact (solved_iff (krows_len hv hAr) (kpow_len hv hAr m)).mp hs
theorem kstop_all {m : Nat} (hs : solved (krows A n v m) (kpow A n v m) n) : ∀ k, RSpan (krows A n v m) (tl (kpow A n v k))
  | 0 => by
    by_cases h : 0 < m
    · exact RSpan.mem (mem_krows h)
    · have : m = 0 := by omega
      subst this
      exact (solved_iff (krows_len hv hAr) (kpow_len hv hAr 0)).mp hs
  | k + 1 => by
    rw [kpow_succ_v hA hAr hv]
    exact kstop_closed hA hAr hv hs (kstop_all hs k)
theorem kstop_kw {m : Nat} (hs : solved (krows A n v m) (kpow A n v m) n) {u : Vec F} : RSpan (krows A n v m) u ↔ KW A n v u := by
  constructor
  · exact fun h => ⟨m, h⟩
  · rintro ⟨N, h⟩
    refine RSpan.trans (fun r hr => ?_) h
    obtain ⟨i, _, rfl⟩ := List.mem_map.mp hr
    exact kstop_all hA hAr hv hs i
theorem kw_n {u : Vec F} (h8 : n ≤ 8) : RSpan (krows A n v n) u ↔ KW A n v u := by
  obtain ⟨m, hm, hk⟩ := kstop_ex hv hAr h8
  constructor
  · exact fun h => ⟨n, h⟩
  · exact fun h => krows_mono hm ((kstop_kw hA hAr hv hk.2.2).mpr h)
theorem krows_cons (t : Nat) {u : Vec F} : RSpan (krows A n v (t + 1)) u ↔ ∃ a y, RSpan (krows A n v t) y ∧ ∀ j, u j = mulV A n y j + a * tl v j := by
  have e : (krows A n v (t + 1)).map tl = tl v :: ((krows A n v t).map tl).map (mulV A n) := by
    unfold krows
    rw [List.range_succ_eq_map, List.map_cons, List.map_cons, List.map_map, List.map_map, List.map_map, List.map_map]
    exact congrArg (fun l => tl v :: l) (List.map_congr_left fun k _ => kpow_succ_v hA hAr hv k)
  show Span ((krows A n v (t + 1)).map tl) u ↔ _
  rw [e, Span.cons_iff]
  constructor
  · rintro ⟨a, z, hz, e1⟩
    obtain ⟨y, hy, e2⟩ := (span_image (mulV_lin A n)).mp hz
    exact ⟨a, y, hy, fun j => by rw [e1 j, e2 j]⟩
  · rintro ⟨a, y, hy, e1⟩
    exact ⟨a, mulV A n y, (span_image (mulV_lin A n)).mpr ⟨y, hy, fun _ => rfl⟩, e1⟩
end
theorem mem_insK {f : List (Row F)} {x y : Row F} : y ∈ insK f x ↔ y ∈ f ∨ y = x := by
  unfold insK
  split
  · rename_i h
    exact ⟨.inl, fun z => z.elim id fun e => by rw [e]; exact h⟩
  · rw [List.mem_append, List.mem_singleton]
theorem mem_insF {α : Type} {g : α → Row F} {y : Row F} : ∀ (l : List α) (f : List (Row F)), y ∈ l.foldl (fun f a => insK f (g a)) f ↔ y ∈ f ∨ ∃ a ∈ l, y = g a
  | [], f => by simp
  | a :: l, f => by
    rw [List.foldl_cons, mem_insF l, mem_insK]
    constructor
    · rintro ((h | h) | ⟨b, hb, e⟩)
      · exact .inl h
      · exact .inr ⟨a, List.mem_cons_self, h⟩
      · exact .inr ⟨b, List.mem_cons_of_mem _ hb, e⟩
    · rintro (h | ⟨b, hb, e⟩)
      · exact .inl (.inl h)
      · rcases List.mem_cons.mp hb with z | z
        · subst z; exact .inl (.inr e)
        · exact .inr ⟨b, z, e⟩
theorem mem_oneF {rows : List (Row F)} {b : Row F} {n : Nat} {y : Row F} : ∀ (l f : List (Row F)), y ∈ l.foldl (reachOne rows b n) f ↔ y ∈ f ∨ ∃ x ∈ l, ∃ u, y = addMul n (rowBefore x rows n) u b
  | [], f => by simp
  | a :: l, f => by
    rw [List.foldl_cons, mem_oneF l]
    unfold reachOne
    rw [mem_insF]
    constructor
    · rintro ((h | ⟨u, _, e⟩) | ⟨x, hx, u, e⟩)
      · exact .inl h
      · exact .inr ⟨a, List.mem_cons_self, u, e⟩
      · exact .inr ⟨x, List.mem_cons_of_mem _ hx, u, e⟩
    · rintro (h | ⟨x, hx, u, e⟩)
      · exact .inl (.inl h)
      · rcases List.mem_cons.mp hx with z | z
        · subst z; exact .inl (.inr ⟨u, Fld.mem_all u, e⟩)
        · exact .inr ⟨x, z, u, e⟩
theorem mem_reach {A : List (Row F)} {n : Nat} {b : Row F} (hA : A.length = n) (hAr : ∀ r ∈ A, r.length = n) (hb : b.length = n) : ∀ (t : Nat) (x : Row F), x ∈ reachL A b n t ↔ x.length = n ∧ RSpan (krows A n b t) (tl x)
  | 0, x => by
    show x ∈ [List.replicate n 0] ↔ _
    rw [List.mem_singleton]
    constructor
    · intro e
      subst e
      exact ⟨List.length_replicate, .zero fun i => tl_rep n i⟩
    · rintro ⟨hx, h⟩
      have hz := Span.nil_iff.mp h
      exact tl_inj (by rw [hx, List.length_replicate]) fun j => by rw [hz j, tl_rep]
  | t + 1, x => by
    show x ∈ reachStep A b n (reachL A b n t) ↔ _
    unfold reachStep
    rw [mem_oneF, mem_reach hA hAr hb t]
    constructor
    · rintro (⟨hx, h⟩ | ⟨y, hy, u, e⟩)
      · exact ⟨hx, krows_mono (Nat.le_succ t) h⟩
      · obtain ⟨hyl, hys⟩ := (mem_reach hA hAr hb t y).mp hy
        rw [e]
        refine ⟨addMul_len _ _ _ _, (krows_cons hA hAr hb t).mpr ⟨u, tl y, hys, fun j => ?_⟩⟩
        rw [tl_addMul (rowBefore_len _ _ _) hb, rowBefore_eq hyl hA hAr, tl_rowTimes hyl hA hAr]
    · rintro ⟨hx, h⟩
      obtain ⟨a, y, hy, e⟩ := (krows_cons hA hAr hb t).mp h
      have hout : ∀ j, n ≤ j → y j = 0 := fun j hj => RSpan.out (krows_len hb hAr) hy hj
      have hyt : tl ((List.range n).map y) = y := by
        funext j
        rw [tl_range]
        split
        · rfl
        · exact (hout j (by omega)).symm
      have hyl : ((List.range n).map y).length = n := by simp
      refine .inr ⟨(List.range n).map y, (mem_reach hA hAr hb t _).mpr ⟨hyl, by rw [hyt]; exact hy⟩, a, ?_⟩
      refine tl_inj (by rw [hx, addMul_len]) fun j => ?_
      rw [tl_addMul (rowBefore_len _ _ _) hb, rowBefore_eq hyl hA hAr, tl_rowTimes hyl hA hAr, hyt, e j]
end
end K47

/-! text M6 -/
/-! the states that give no output -/
namespace K47
section
variable {F : Type} [Fld F] [DecidableEq F]
theorem transp_get {rows : List (Row F)} {w j : Nat} (hj : j < w) (i : Nat) : tl ((transp rows w).getD j []) i = tl (rows.getD i []) j := by
  unfold transp
  rw [List.getD_eq_getElem?_getD, List.getElem?_map, List.getElem?_range hj]
  show tl (rows.map fun r => r.getD j 0) i = _
  unfold tl
  rw [List.getD_eq_getElem?_getD, List.getElem?_map, List.getD_eq_getElem?_getD (l := rows)]
  cases h : rows[i]? with
  | none => simp
  | some r => rfl
theorem adjoint {A : List (Row F)} {n : Nat} (x c : Vec F) : dotV n (mulV A n x) c = dotV n x (mulV (transp A n) n c) := by
  unfold dotV mulV
  have e1 : fsum n (fun i => (fsum n fun k => x k * tl (A.getD k []) i) * c i) = fsum n fun i => fsum n fun k => x k * tl (A.getD k []) i * c i := fsum_congr fun i _ => (fsum_mul (c i) (fun k => x k * tl (A.getD k []) i) n).symm
  have e2 : fsum n (fun i => x i * fsum n fun k => c k * tl ((transp A n).getD k []) i) = fsum n fun i => fsum n fun k => x i * tl (A.getD i []) k * c k := fsum_congr fun i _ => by
    rw [← fsum_mul']
    exact fsum_congr fun k hk => by rw [transp_get hk]; grind
  rw [e1, e2, fsum_swap]
theorem vpow_shift (T : Vec F → Vec F) (v : Vec F) : ∀ k, vpow T (T v) k = T (vpow T v k)
  | 0 => rfl
  | k + 1 => by show T (vpow T (T v) k) = T (T (vpow T v k)); rw [vpow_shift T v k]
theorem adjoint_pow {A : List (Row F)} {n : Nat} (x : Vec F) : ∀ (k : Nat) (c : Vec F), dotV n (vpow (mulV A n) x k) c = dotV n x (vpow (mulV (transp A n) n) c k)
  | 0, c => rfl
  | k + 1, c => by
    show dotV n (mulV A n (vpow (mulV A n) x k)) c = dotV n x (mulV (transp A n) n (vpow (mulV (transp A n) n) c k))
    rw [adjoint, adjoint_pow x k, vpow_shift]
theorem dotF_eq {x c : Row F} {n : Nat} (hx : x.length = n) : dotF x c = dotV n (tl x) (tl c) := by
  unfold dotF
  rw [lsum_range, hx]; rfl
theorem dot_span {n : Nat} {x : Vec F} {S : List (Vec F)} (h : ∀ r ∈ S, dotV n x r = 0) {v : Vec F} (hv : Span S v) : dotV n x v = 0 := by
  induction hv with
  | zero hz => exact fsum_zero fun i _ => by rw [hz i]; grind
  | @step v r u a _ hr hx ih =>
    have e : dotV n x u = dotV n x v + a * dotV n x r := by
      unfold dotV
      rw [← fsum_lin]
      exact fsum_congr fun i _ => by rw [hx i]; grind
    rw [e, ih, h r hr]; grind
section
variable {A : List (Row F)} {n : Nat} {c : Row F} (hA : A.length = n) (hAr : ∀ r ∈ A, r.length = n) (hc : c.length = n) (h8 : n ≤ 8)
include hA hAr hc h8
theorem darkB_iff {x : Row F} (hx : x.length = n) : darkB A x c n = true ↔ ∀ k, k < n → dotV n (tl x) (tl (kpow (transp A n) n c k)) = 0 := by
  have hT : (transp A n).length = n := transp_len _ _
  have hTr : ∀ r ∈ transp A n, r.length = n := fun r hr => by rw [transp_row r hr, hA]
  have one : ∀ k, dotF (lpow A n x k) c = dotV n (tl x) (tl (kpow (transp A n) n c k)) := fun k => by
    rw [lpow_eq hA hAr hx, dotF_eq (kpow_len hx hAr k), tl_kpow hA hAr hx, tl_kpow hT hTr hc, adjoint_pow]
  unfold darkB
  rw [List.all_eq_true]
  constructor
  · intro h k hk
    rw [← one k]
    exact of_decide_eq_true (h k (List.mem_range.mpr (by omega)))
  · intro h k _
    refine decide_eq_true ?_
    rw [one k]
    have hs : RSpan (krows (transp A n) n c n) (tl (kpow (transp A n) n c k)) := (kw_n hT hTr hc h8).mpr ⟨k + 1, RSpan.mem (mem_krows (Nat.lt_succ_self k))⟩
    refine dot_span (fun r hr => ?_) hs
    obtain ⟨y, hy, rfl⟩ := List.mem_map.mp hr
    obtain ⟨i, hi, rfl⟩ := List.mem_map.mp hy
    exact h i (List.mem_range.mp hi)
theorem dark_ker {x : Row F} (hx : x.length = n) : RSpan (darkMat A n c) (tl x) ↔ ∀ k, k < n → dotV n (tl x) (tl (kpow (transp A n) n c k)) = 0 := by
  have lM : (transp (obsCols A n c) n).length = n := transp_len _ _
  have hspan : RSpan (darkMat A n c) (tl x) ↔ RSpan (kerRows (transp (obsCols A n c) n) n) (tl x) := by
    unfold darkMat kerMat redRows
    exact (redR_ok (kerRows_len (obsT_row (A := A) (n := n) (c := c)))).span _
  rw [hspan, ker_span obsT_row]
  have at_ : ∀ k, k < n → fsum (transp (obsCols A n c) n).length (fun i => tl x i * tl ((transp (obsCols A n c) n).getD i []) k) = dotV n (tl x) (tl (kpow (transp A n) n c k)) := fun k hk => by
    rw [lM]
    refine fsum_congr fun i hi => ?_
    rw [transp_get hi]
    unfold obsCols
    rw [krows_getD hk]
  constructor
  · rintro ⟨_, h⟩ k hk
    rw [← at_ k hk]; exact h k
  · intro h
    refine ⟨fun i hi => tl_out (by rw [lM] at hi; omega), fun k => ?_⟩
    by_cases hk : k < n
    · rw [at_ k hk]; exact h k hk
    · refine fsum_zero fun i hi => ?_
      have hm := obsT_row (A := A) (n := n) (c := c) _ (range_lt hi [])
      have hz : tl ((transp (obsCols A n c) n).getD i []) k = 0 := tl_out (by rw [hm]; omega)
      rw [hz]; grind
theorem mem_dark (x : Row F) : x ∈ darkL A c n ↔ x.length = n ∧ RSpan (darkMat A n c) (tl x) := by
  unfold darkL
  rw [List.mem_filter]
  constructor
  · rintro ⟨hx, h⟩
    have hl := statesL_row n x hx
    exact ⟨hl, (dark_ker hA hAr hc h8 hl).mpr ((darkB_iff hA hAr hc h8 hl).mp h)⟩
  · rintro ⟨hl, h⟩
    exact ⟨mem_states n x hl, (darkB_iff hA hAr hc h8 hl).mpr ((dark_ker hA hAr hc h8 hl).mp h)⟩
end
end
end K47

/-! text M7 -/
/-! counting -/
namespace K47
section
variable {F : Type} [Fld F] [DecidableEq F]
def radd (x y : Row F) : Row F := List.zipWith (fun a b => a + b) x y
def rsub (x y : Row F) : Row F := List.zipWith (fun a b => a - b) x y
theorem radd_len {x y : Row F} {n : Nat} (hx : x.length = n) (hy : y.length = n) : (radd x y).length = n := by unfold radd; rw [List.length_zipWith, hx, hy, Nat.min_self]
theorem rsub_len {x y : Row F} {n : Nat} (hx : x.length = n) (hy : y.length = n) : (rsub x y).length = n := by unfold rsub; rw [List.length_zipWith, hx, hy, Nat.min_self]
theorem tl_radd {x y : Row F} {n : Nat} (hx : x.length = n) (hy : y.length = n) (j : Nat) : tl (radd x y) j = tl x j + tl y j := tl_zip (f := fun a b => a + b) (by grind) (by rw [hx, hy]) j
theorem tl_rsub {x y : Row F} {n : Nat} (hx : x.length = n) (hy : y.length = n) (j : Nat) : tl (rsub x y) j = tl x j - tl y j := tl_zip (f := fun a b => a - b) (by grind) (by rw [hx, hy]) j
theorem span_app {S T : List (Vec F)} {w : Vec F} : Span (S ++ T) w ↔ ∃ u v, Span S u ∧ Span T v ∧ ∀ j, w j = u j + v j := by
  constructor
  · intro h
    induction h with
    | @zero v hz => exact ⟨fun _ => 0, fun _ => 0, .zero fun _ => rfl, .zero fun _ => rfl, fun j => by rw [hz j]; grind⟩
    | @step v r x a _ hr hx ih =>
      obtain ⟨u, v', hu, hv, e⟩ := ih
      rcases List.mem_append.mp hr with z | z
      · exact ⟨fun j => u j + a * r j, v', Span.step a hu z fun _ => rfl, hv, fun j => by rw [hx j, e j]; grind⟩
      · exact ⟨u, fun j => v' j + a * r j, hu, Span.step a hv z fun _ => rfl, fun j => by rw [hx j, e j]; grind⟩
  · rintro ⟨u, v, hu, hv, e⟩
    exact Span.lin 1 (hu.mono fun r hr => List.mem_append_left _ hr) (hv.mono fun r hr => List.mem_append_right _ hr) fun j => by rw [e j]; grind
end
section
variable {α : Type} [DecidableEq α]
def cnt1 (w : α) : List α → Nat
  | [] => 0
  | x :: l => (if x = w then 1 else 0) + cnt1 w l
theorem cnt1_app (w : α) : ∀ a b : List α, cnt1 w (a ++ b) = cnt1 w a + cnt1 w b
  | [], b => by simp [cnt1]
  | x :: a, b => by rw [List.cons_append]; simp only [cnt1]; rw [cnt1_app w a b]; omega
theorem cnt1_no {w : α} : ∀ {l : List α}, w ∉ l → cnt1 w l = 0
  | [], _ => rfl
  | x :: l, h => by
    simp only [cnt1]
    rw [if_neg (fun e => h (by rw [e]; exact List.mem_cons_self)), cnt1_no fun z => h (List.mem_cons_of_mem _ z)]
theorem cnt1_nodup {w : α} : ∀ {l : List α}, l.Nodup → w ∈ l → cnt1 w l = 1
  | x :: l, hn, h => by
    obtain ⟨h1, h2⟩ := List.nodup_cons.mp hn
    simp only [cnt1]
    rcases List.mem_cons.mp h with e | e
    · subst e; rw [if_pos rfl, cnt1_no h1]
    · rw [if_neg (fun z => h1 (by rw [z]; exact e)), cnt1_nodup h2 e]
theorem sum_bump (f : α → Nat) (x : α) : ∀ W : List α, (W.map fun w => (if x = w then 1 else 0) + f w).sum = (W.map f).sum + cnt1 x W
  | [] => rfl
  | y :: W => by
    simp only [List.map_cons, List.sum_cons, cnt1]
    rw [sum_bump f x W]
    by_cases h : x = y
    · rw [if_pos h, if_pos h.symm]; omega
    · rw [if_neg h, if_neg fun z => h z.symm]; omega
theorem sum_zero : ∀ W : List α, (W.map fun _ => 0).sum = 0
  | [] => rfl
  | y :: W => by rw [List.map_cons, List.sum_cons, sum_zero W]
theorem len_count {W : List α} (hn : W.Nodup) : ∀ P : List α, (∀ x ∈ P, x ∈ W) → P.length = (W.map fun w => cnt1 w P).sum
  | [], _ => (sum_zero W).symm
  | x :: P, h => by
    have e : (W.map fun w => cnt1 w (x :: P)) = W.map fun w => (if x = w then 1 else 0) + cnt1 w P := rfl
    rw [e, sum_bump, ← len_count hn P fun y hy => h y (List.mem_cons_of_mem _ hy), List.length_cons, cnt1_nodup hn (h x List.mem_cons_self)]
theorem sum_const {f : α → Nat} {c : Nat} : ∀ {W : List α}, (∀ w ∈ W, f w = c) → (W.map f).sum = W.length * c
  | [], _ => by simp
  | x :: W, h => by
    rw [List.map_cons, List.sum_cons, sum_const fun w hw => h w (List.mem_cons_of_mem _ hw), h x List.mem_cons_self, List.length_cons, Nat.add_mul]; omega
theorem count_flat {β : Type} {f : β → List α} {g : β → Bool} {w : α} : ∀ {U : List β}, (∀ u ∈ U, cnt1 w (f u) = if g u = true then 1 else 0) → cnt1 w (U.flatMap f) = (U.filter g).length
  | [], _ => rfl
  | u :: U, h => by
    rw [List.flatMap_cons, cnt1_app, count_flat fun x hx => h x (List.mem_cons_of_mem _ hx), h u List.mem_cons_self]
    by_cases hg : g u = true
    · rw [if_pos hg, List.filter_cons_of_pos hg, List.length_cons]; omega
    · rw [if_neg hg, List.filter_cons_of_neg hg]; omega
theorem nodup_map {β : Type} {f : β → α} {l : List β} (hn : l.Nodup) (hi : ∀ x ∈ l, ∀ y ∈ l, f x = f y → x = y) : (l.map f).Nodup := by
  refine List.pairwise_map.mpr (List.Pairwise.imp_of_mem (fun {a b} ha hb hne e => hne (hi a ha b hb e)) hn)
end
section
variable {F : Type} [Fld F] [DecidableEq F]
/-- |U| |V| = |U + V| |U ∩ V| -/
theorem inter_card {n : Nat} {SU SV U V W : List (Row F)} (hSU : ∀ r ∈ SU, r.length = n) (nU : U.Nodup) (nV : V.Nodup) (nW : W.Nodup) (hU : ∀ x, x ∈ U ↔ x.length = n ∧ RSpan SU (tl x)) (hV : ∀ x, x ∈ V ↔ x.length = n ∧ RSpan SV (tl x))
    (hW : ∀ x, x ∈ W ↔ x.length = n ∧ RSpan (SU ++ SV) (tl x)) : U.length * V.length = W.length * (U.filter fun x => decide (x ∈ V)).length := by
  have happ : ∀ {w : Vec F}, RSpan (SU ++ SV) w ↔ ∃ u v, RSpan SU u ∧ RSpan SV v ∧ ∀ j, w j = u j + v j := fun {w} => by
    show Span ((SU ++ SV).map tl) w ↔ _
    rw [List.map_append]; exact span_app
  let P : List (Row F) := U.flatMap fun u => V.map fun v => radd u v
  have lP : P.length = U.length * V.length := flat_len (fun u => by rw [List.length_map]) U
  have sP : ∀ x ∈ P, x ∈ W := fun x hx => by
    obtain ⟨u, hu, hx⟩ := List.mem_flatMap.mp hx
    obtain ⟨v, hv, rfl⟩ := List.mem_map.mp hx
    obtain ⟨ul, us⟩ := (hU u).mp hu
    obtain ⟨vl, vs⟩ := (hV v).mp hv
    exact (hW _).mpr ⟨radd_len ul vl, happ.mpr ⟨tl u, tl v, us, vs, tl_radd ul vl⟩⟩
  have vsub : ∀ {x y : Vec F}, RSpan SV x → RSpan SV y → RSpan SV (fun j => x j + (-1) * y j) := fun hx hy => Span.lin (-1) hx hy fun _ => rfl
  have usub : ∀ {x y : Vec F}, RSpan SU x → RSpan SU y → RSpan SU (fun j => x j + (-1) * y j) := fun hx hy => Span.lin (-1) hx hy fun _ => rfl
  have cnt : ∀ w ∈ W, cnt1 w P = (U.filter fun x => decide (x ∈ V)).length := fun w hw => by
    obtain ⟨wl, ws⟩ := (hW w).mp hw
    have c1 : cnt1 w P = (U.filter fun u => decide (rsub w u ∈ V)).length := count_flat (g := fun u => decide (rsub w u ∈ V)) fun u hu => by
      obtain ⟨ul, us⟩ := (hU u).mp hu
      have nm : (V.map fun v => radd u v).Nodup := nodup_map nV fun x hx y hy e => by
        obtain ⟨xl, _⟩ := (hV x).mp hx
        obtain ⟨yl, _⟩ := (hV y).mp hy
        refine tl_inj (by rw [xl, yl]) fun j => ?_
        have ej := congrArg (fun l => tl l j) e
        simp only [tl_radd ul xl, tl_radd ul yl] at ej
        grind
      have mm : w ∈ (V.map fun v => radd u v) ↔ rsub w u ∈ V := by
        rw [List.mem_map]
        constructor
        · rintro ⟨v, hv, e⟩
          obtain ⟨vl, _⟩ := (hV v).mp hv
          have : rsub w u = v := tl_inj (by rw [rsub_len wl ul, vl]) fun j => by
            rw [tl_rsub wl ul, ← e, tl_radd ul vl]; grind
          rw [this]; exact hv
        · intro hv
          refine ⟨_, hv, tl_inj (by rw [radd_len ul (rsub_len wl ul), wl]) fun j => ?_⟩
          rw [tl_radd ul (rsub_len wl ul), tl_rsub wl ul]; grind
      by_cases hm : rsub w u ∈ V
      · rw [if_pos (decide_eq_true hm)]
        exact cnt1_nodup nm (mm.mpr hm)
      · rw [if_neg (by rw [decide_eq_false hm]; decide)]
        exact cnt1_no fun z => hm (mm.mp z)
    obtain ⟨u0v, v0v, hu0, hv0, e0⟩ := happ.mp ws
    -- as rows
    rw [c1]
    -- the part of w in U, as a row
    let u0 : Row F := (List.range n).map u0v
    have u0l : u0.length = n := by simp [u0]
    have tu0 : tl u0 = u0v := by
      funext j
      show tl ((List.range n).map u0v) j = _
      rw [tl_range]
      split
      · rfl
      · exact (RSpan.out hSU hu0 (by omega)).symm
    have mu0 : u0 ∈ U := (hU u0).mpr ⟨u0l, by rw [tu0]; exact hu0⟩
    have perm : ∀ (f : Row F → Row F), (∀ x ∈ U, f x ∈ U) → (∀ x ∈ U, f (f x) = x) → (U.map f).Perm U := fun f h1 h2 => by
      refine (List.perm_ext_iff_of_nodup (nodup_map nU fun x hx y hy e => by rw [← h2 x hx, ← h2 y hy, e]) nU).mpr fun x => ?_
      rw [List.mem_map]
      constructor
      · rintro ⟨y, hy, rfl⟩; exact h1 y hy
      · intro hx; exact ⟨f x, h1 x hx, h2 x hx⟩
    have f1 : ∀ x ∈ U, rsub u0 x ∈ U := fun x hx => by
      obtain ⟨xl, xs⟩ := (hU x).mp hx
      refine (hU _).mpr ⟨rsub_len u0l xl, (usub hu0 xs).congr fun j => ?_⟩
      rw [tl_rsub u0l xl, tu0]; grind
    have f2 : ∀ x ∈ U, rsub u0 (rsub u0 x) = x := fun x hx => by
      obtain ⟨xl, _⟩ := (hU x).mp hx
      refine tl_inj (by rw [rsub_len u0l (rsub_len u0l xl), xl]) fun j => ?_
      rw [tl_rsub u0l (rsub_len u0l xl), tl_rsub u0l xl]; grind
    have e1 : (U.filter fun u => decide (rsub w u ∈ V)) = U.filter fun u => decide (rsub u0 u ∈ V) := List.filter_congr fun u hu => by
      obtain ⟨ul, us⟩ := (hU u).mp hu
      have hiff : rsub w u ∈ V ↔ rsub u0 u ∈ V := by
        rw [hV, hV]
        constructor
        · rintro ⟨_, h⟩
          refine ⟨rsub_len u0l ul, (vsub h hv0).congr fun j => ?_⟩
          rw [tl_rsub u0l ul, tl_rsub wl ul, e0 j, tu0]; grind
        · rintro ⟨_, h⟩
          refine ⟨rsub_len wl ul, (Span.lin 1 h hv0 (w := tl (rsub w u)) fun j => ?_)⟩
          rw [tl_rsub u0l ul, tl_rsub wl ul, e0 j, tu0]; grind
      by_cases h : rsub u0 u ∈ V
      · rw [decide_eq_true h, decide_eq_true (hiff.mpr h)]
      · rw [decide_eq_false h, decide_eq_false fun z => h (hiff.mp z)]
    rw [e1]
    have hp := (perm _ f1 f2).filter fun x => decide (x ∈ V)
    rw [List.filter_map] at hp
    have := hp.length_eq
    rw [List.length_map] at this
    exact this
  rw [← lP, len_count nW P sP, sum_const cnt]
end
end K47

/-! text M8 -/
/-! dimensions, order, feedback; the plain law -/
namespace K47
/-! ### dimension -/
theorem dimAt_pow {p k : Nat} (hp : 2 ≤ p) : ∀ i, dimAt p (p ^ k) i = (p ^ (min i k), min i k)
  | 0 => by simp [dimAt]
  | i + 1 => by
    rw [dimAt_succ, dimAt_pow hp i]
    unfold dimStep
    by_cases h : i < k
    · rw [Nat.min_eq_left (by omega), Nat.min_eq_left (by omega)]
      rw [if_pos (Nat.pow_lt_pow_right (by omega) h), Nat.pow_succ]
    · rw [Nat.min_eq_right (by omega), Nat.min_eq_right (by omega), if_neg (Nat.lt_irrefl _)]
theorem dimL_pow {p k : Nat} (hp : 2 ≤ p) (hk : k ≤ 8) : dimL p (p ^ k) = k := by
  have : dimL p (p ^ k) = (dimAt p (p ^ k) 8).2 := rfl
  rw [this, dimAt_pow hp]
  exact Nat.min_eq_right hk
/-! ### order -/
theorem code_snoc (B : Int) (d : Int) : ∀ r : List Int, TS.code B (r ++ [d]) = TS.code B r * B + d
  | [] => by simp [TS.code]
  | e :: r => by
    rw [List.cons_append]
    simp only [TS.code]
    rw [code_snoc B d r, List.length_append, List.length_singleton, Int.pow_succ]
    rw [Int.add_mul, Int.mul_assoc, Int.add_assoc]
theorem code_inj {B : Int} : ∀ {x y : List Int}, x.length = y.length → TS.Bd B x → TS.Bd B y → TS.code B x = TS.code B y → x = y
  | [], [], _, _, _, _ => rfl
  | d :: r, e :: q, hl, hx, hy, h => by
    have hl' : r.length = q.length := by simpa using hl
    rcases Int.lt_trichotomy d e with z | z | z
    · have := TS.code_lt hl' hx.tail hy.tail z; omega
    · subst z
      have h2 : TS.code B r = TS.code B q := by
        simp only [TS.code] at h
        rw [hl'] at h; omega
      rw [code_inj hl' hx.tail hy.tail h2]
    · have := TS.code_lt hl'.symm hy.tail hx.tail z; omega
theorem zints_len {p : Nat} (x : List (Zp p)) : (zints x).length = x.length := by unfold zints; rw [List.length_map]
theorem codeLe_anti {p : Nat} {x y : List (Zp p)} (hl : x.length = y.length) (h1 : codeLe x y) (h2 : codeLe y x) : x = y :=
  zints_inj (code_inj (by rw [zints_len, zints_len, hl]) (ints_bd x) (ints_bd y) (Int.le_antisymm h1 h2))
theorem states_pw {p : Nat} [P23 p] : ∀ n : Nat, (statesL (Zp p) n).Pairwise fun x y => TS.code (p : Int) (zints x) < TS.code (p : Int) (zints y)
  | 0 => List.pairwise_singleton _ _
  | n + 1 => by
    have sn : ∀ (r : List (Zp p)) (a : Zp p), TS.code (p : Int) (zints (r ++ [a])) = TS.code (p : Int) (zints r) * p + a.val := fun r a => by
      unfold zints; rw [List.map_append]; exact code_snoc _ _ _
    show ((statesL (Zp p) n).flatMap fun row => Fld.all.map fun x => row ++ [x]).Pairwise _
    refine List.pairwise_flatMap.mpr ⟨fun r _ => List.pairwise_map.mpr ?_, (states_pw n).imp fun {r r'} h x hx y hy => ?_⟩
    · rw [all_zp]
      refine List.pairwise_map.mpr (List.Pairwise.imp_of_mem (fun {a b} ha hb hab => ?_) List.pairwise_lt_range)
      have ha := List.mem_range.mp ha
      have hb := List.mem_range.mp hb
      rw [sn, sn, zi_val, zi_val, Int.emod_eq_of_lt (by omega) (by omega), Int.emod_eq_of_lt (by omega) (by omega)]
      omega
    · obtain ⟨a, _, rfl⟩ := List.mem_map.mp hx
      obtain ⟨b, _, rfl⟩ := List.mem_map.mp hy
      rw [sn, sn]
      have h1 := a.isLt
      have h2 : (TS.code (p : Int) (zints r) + 1) * (p : Int) ≤ TS.code (p : Int) (zints r') * (p : Int) := Int.mul_le_mul_of_nonneg_right (by omega) (by omega)
      rw [Int.add_mul, Int.one_mul] at h2
      omega
/-- two sorted lists of the same states -/
theorem sorted_eq {p n : Nat} {xs ys : List (List (Zp p))} (nx : xs.Nodup) (ny : ys.Nodup) (hx : xs.Pairwise codeLe) (hy : ys.Pairwise codeLe) (h : ∀ x, x ∈ xs ↔ x ∈ ys) (hn : ∀ x ∈ xs, x.length = n) : xs = ys := by
  have pm : xs.Perm ys := (List.perm_ext_iff_of_nodup nx ny).mpr h
  exact List.Perm.eq_of_pairwise (le := codeLe) (fun a b ha hb h1 h2 => codeLe_anti (by rw [hn a ha, hn b ((h b).mpr hb)]) h1 h2) hx hy pm
/-! ### feedback -/
section
variable {F : Type} [Fld F] [DecidableEq F]
theorem kw_lin {A : List (Row F)} {n : Nat} {b : Row F} (a : F) {u v w : Vec F} (hu : KW A n b u) (hv : KW A n b v) (h : ∀ j, w j = u j + a * v j) : KW A n b w := by
  obtain ⟨N, hu⟩ := hu
  obtain ⟨M, hv⟩ := hv
  exact ⟨N + M, Span.lin a (krows_mono (Nat.le_add_right N M) hu) (krows_mono (Nat.le_add_left M N) hv) h⟩
theorem kw_b {A : List (Row F)} {n : Nat} {b : Row F} : KW A n b (tl b) := ⟨1, RSpan.mem (mem_krows (A := A) (n := n) (v := b) (k := 0) (m := 1) (by decide))⟩
section
variable {A : List (Row F)} {n : Nat} {b : Row F} (hA : A.length = n) (hAr : ∀ r ∈ A, r.length = n) (hb : b.length = n)
include hA hAr hb
theorem kw_T {u : Vec F} (hu : KW A n b u) : KW A n b (mulV A n u) := by
  obtain ⟨N, hu⟩ := hu
  exact ⟨N + 1, (krows_cons hA hAr hb N).mpr ⟨0, u, hu, fun j => by grind⟩⟩
theorem kw_sub {A' : List (Row F)} (hA' : A'.length = n) (hAr' : ∀ r ∈ A', r.length = n) {c : Vec F → F} (h : ∀ v j, mulV A' n v j = mulV A n v j + c v * tl b j) {u : Vec F} (hu : KW A' n b u) : KW A n b u := by
  have one : ∀ i, KW A n b (tl (kpow A' n b i)) := fun i => by
    induction i with
    | zero => exact kw_b
    | succ i ih =>
      refine kw_lin (c (tl (kpow A' n b i))) (kw_T hA hAr hb ih) kw_b fun j => ?_
      rw [kpow_succ_v hA' hAr' hb, h]
  obtain ⟨N, hu⟩ := hu
  have gen : ∀ {S : List (Vec F)}, (∀ r ∈ S, KW A n b r) → ∀ {v : Vec F}, Span S v → KW A n b v := fun {S} hS {v} hv => by
    induction hv with
    | zero hz => exact ⟨0, .zero hz⟩
    | @step v r x a _ hr hx ih => exact kw_lin a ih (hS r hr) hx
  refine gen (fun r hr => ?_) hu
  obtain ⟨x, hx, rfl⟩ := List.mem_map.mp hr
  obtain ⟨i, _, rfl⟩ := List.mem_map.mp hx
  exact one i
end
theorem fed_mul {A : List (Row F)} {n : Nat} {b k : Row F} (hA : A.length = n) (hAr : ∀ r ∈ A, r.length = n) (hb : b.length = n) (hk : k.length = n) (v : Vec F) (j : Nat) : mulV (addRows A (outerRows k b)) n v j = mulV A n v j + dotV n v (tl k) * tl b j := by
  unfold mulV dotV
  rw [← fsum_mul, ← fsum_add]
  refine fsum_congr fun i hi => ?_
  have ha : A[i]? = some (A.getD i []) := by rw [List.getD_eq_getElem?_getD, List.getElem?_eq_getElem (by omega)]; rfl
  have hk' : k[i]? = some (tl k i) := by unfold tl; rw [List.getD_eq_getElem?_getD, List.getElem?_eq_getElem (by omega)]; rfl
  have ho : (outerRows k b)[i]? = some (b.map fun y => tl k i * y) := by
    unfold outerRows
    rw [List.getElem?_map, hk']; rfl
  have hm : A.getD i [] ∈ A := range_lt (by omega) _
  have e : (addRows A (outerRows k b)).getD i [] = List.zipWith (fun x y => x + y) (A.getD i []) (b.map fun y => tl k i * y) := by
    rw [List.getD_eq_getElem?_getD, addRows_get ha ho]; rfl
  rw [e, tl_zip (f := fun x y => x + y) (by grind) (by rw [hAr _ hm, List.length_map, hb]), tl_map (f := fun y => tl k i * y) (by grind)]
  grind
theorem own_span {A : List (Row F)} {n : Nat} {b : Row F} {m : Nat} (hA : A.length = n) (hAr : ∀ r ∈ A, r.length = n) (hb : b.length = n) (hk : KStop A n b m) {u : Vec F} : RSpan (ownMat A n b m) u ↔ KW A n b u := by
  rw [← kstop_kw hA hAr hb hk.2.2]
  exact (redR_ok (krows_len hb hAr)).span u
theorem fed_own {A : List (Row F)} {n : Nat} {b k : Row F} {m m' : Nat} (hA : A.length = n) (hAr : ∀ r ∈ A, r.length = n) (hb : b.length = n) (hk : k.length = n) (hs : KStop A n b m) (hA' : (addRows A (outerRows k b)).length = n) (hAr' : ∀ r ∈ addRows A (outerRows k b), r.length = n)
    (hs' : KStop (addRows A (outerRows k b)) n b m') : ownMat (addRows A (outerRows k b)) n b m' = ownMat A n b m := by
  have R := redR_ok (krows_len (k := m) hb hAr)
  have R' := redR_ok (krows_len (k := m') hb hAr')
  have e : redR (krows (addRows A (outerRows k b)) n b m') n = redR (krows A n b m) n := rr_unique R'.rr R.rr R'.len R.len fun v => by
    have h1 : RSpan ((redR (krows (addRows A (outerRows k b)) n b m') n).map (·.1)) v ↔ KW (addRows A (outerRows k b)) n b v := own_span hA' hAr' hb hs'
    have h2 : RSpan ((redR (krows A n b m) n).map (·.1)) v ↔ KW A n b v := own_span hA hAr hb hs
    rw [h1, h2]
    exact ⟨kw_sub hA hAr hb hA' hAr' (fed_mul hA hAr hb hk), kw_sub hA' hAr' hb hA hAr (c := fun v => -(dotV n v (tl k))) fun v j => by rw [fed_mul hA hAr hb hk]; grind⟩
  unfold ownMat redRows
  rw [e]
end
/-! ### the plain law -/
theorem plain_law : PlainLaw := by
  intro p hp n A b c plok h64 hn4
  obtain ⟨hA, hAr, hb, hc, h8⟩ := plok
  obtain ⟨m, hm, hks⟩ := kstop_ex hb hAr h8
  have hp2 := P23.two p
  have RO := redR_ok (krows_len (k := m) hb hAr)
  have RD := redR_ok (kerRows_len (obsT_row (A := A) (n := n) (c := c)))
  have lT : (transp (obsCols A n c) n).length = n := transp_len _ _
  have hol := ownMat_len (m := m) hb hAr
  have hdl := darkMat_len (A := A) (n := n) (c := c)
  have hoi : Ind (ownMat A n b m) := rr_ind RO.rr
  have hdi : Ind (darkMat A n c) := rr_ind RD.rr
  have nO := nodup_spanL hol hoi
  have nD := nodup_spanL hdl hdi
  have dR := Dist.reach (rows := A) (b := b) (n := n) n
  have mR : ∀ x, x ∈ reachL A b n n ↔ x.length = n ∧ RSpan (ownMat A n b m) (tl x) := fun x => by
    rw [mem_reach hA hAr hb, kw_n hA hAr hb h8, own_span hA hAr hb hks]
  have mD := fun x => mem_dark hA hAr hc h8 x
  have sp := states_pw (p := p) n
  have dpw : (darkL A c n).Pairwise codeLe := (sp.filter _).imp fun h => Int.le_of_lt h
  have dnd : (darkL A c n).Nodup := (sp.filter _).imp fun {x y} h e => by rw [e] at h; exact Int.lt_irrefl _ h
  have pO : (reachL A b n n).Perm (spanL (ownMat A n b m) n) := (List.perm_ext_iff_of_nodup dR.nd nO).mpr fun x => by rw [mR, mem_spanL hol]
  have pD : (darkL A c n).Perm (spanL (darkMat A n c) n) := (List.perm_ext_iff_of_nodup dnd nD).mpr fun x => by rw [mD, mem_spanL hdl]
  have lO : (reachL A b n n).length = p ^ (ownMat A n b m).length := by rw [pO.length_eq, spanL_len, all_len]
  have lD : (darkL A c n).length = p ^ (darkMat A n c).length := by rw [pD.length_eq, spanL_len, all_len]
  have cO := ind_card hol hoi
  have cD := ind_card hdl hdi
  refine ⟨m, hks, fun own hpo hpw ys hpy hyw => ?_, fun ys hpy hyw => ?_, ?_, ?_, ?_, cO, fun k hk => ?_⟩
  · refine sorted_eq (n := n) (hpy.nodup_iff.mpr nO) (hpo.nodup_iff.mpr dR.nd) hyw hpw (fun x => ?_) fun x hx => spanL_row _ x (hpy.mem_iff.mp hx)
    rw [hpy.mem_iff, hpo.mem_iff, mR, mem_spanL hol]
  · refine sorted_eq (n := n) (hpy.nodup_iff.mpr nD) dnd hyw dpw (fun x => ?_) fun x hx => spanL_row _ x (hpy.mem_iff.mp hx)
    rw [hpy.mem_iff, mD, mem_spanL hdl]
  · rw [lO, dimL_pow hp2 (by omega)]
  · rw [lD, dimL_pow hp2 (by omega)]
  · have hall : ∀ r ∈ ownMat A n b m ++ darkMat A n c, r.length = n := fun r hr => (List.mem_append.mp hr).elim (hol r) (hdl r)
    have RS := redR_ok hall
    have hsl := redRows_len hall
    have nS := nodup_spanL hsl (rr_ind RS.rr)
    have lS : (spanL (redRows (ownMat A n b m ++ darkMat A n c) n) n).length = p ^ sumCnt A n b c m := by
      rw [spanL_len, all_len]
      congr 1
      exact List.length_map _
    have mS : ∀ x, x ∈ spanL (redRows (ownMat A n b m ++ darkMat A n c) n) n ↔ x.length = n ∧ RSpan (ownMat A n b m ++ darkMat A n c) (tl x) := fun x => by
      rw [mem_spanL hsl]
      exact and_congr Iff.rfl (RS.span (tl x))
    have hc := inter_card hol dR.nd dnd nS mR mD mS
    rw [lO, lD, lS, ← Nat.pow_add] at hc
    generalize ((reachL A b n n).filter fun x => decide (x ∈ darkL A c n)).length = I at hc ⊢
    generalize hr : (ownMat A n b m).length = r at *
    generalize hs : (darkMat A n c).length = s at *
    generalize sumCnt A n b c m = t at *
    have hle : t ≤ r + s := by
      refine Nat.le_of_not_lt fun hlt => ?_
      have h1 : p ^ (r + s) < p ^ t := Nat.pow_lt_pow_right (by omega) hlt
      have h2 : 0 < p ^ (r + s) := Nat.pow_pos (by omega)
      have h3 : 0 < I := by
        rcases Nat.eq_zero_or_pos I with z | z
        · rw [z, Nat.mul_zero] at hc; omega
        · exact z
      have h4 : p ^ t * 1 ≤ p ^ t * I := Nat.mul_le_mul_left _ h3
      omega
    obtain ⟨d, hd⟩ := Nat.exists_eq_add_of_le hle
    rw [hd, Nat.pow_add] at hc
    have hI : p ^ d = I := Nat.eq_of_mul_eq_mul_left (Nat.pow_pos (by omega)) hc
    rw [← hI, dimL_pow hp2 (by omega)]
    omega
  · have lo : (outerRows k b).length = A.length := by unfold outerRows; rw [List.length_map, hk, hA]
    have hA' : (addRows A (outerRows k b)).length = n := by rw [addRows_len lo.symm, hA]
    have hAr' : ∀ r ∈ addRows A (outerRows k b), r.length = n := addRows_row hAr fun x hx => by rw [outer_row x hx, hb]
    obtain ⟨m', _, hks'⟩ := kstop_ex hb hAr' h8
    exact ⟨m', hks', fed_own hA hAr hb hk hks hA' hAr' hks'⟩
end K47

/-! text H0 -/
namespace K47
open PySem PySem.Spec PyProof.Rows L2
def hookR : PySem.W.Hook where
  α := AlR
  obs := fun s => obsR s.heap.get?
  val := fun _ => (He.valD fnL, true)
  says := fun _ h => ∃ K : PySem.W.Frag, K.In h ∧ SaysR K
  of := fun _ _ e => ⟨_, He.frG_in, ⟨congrArg (fun z : AlR => z.1) e, congrArg (fun z : AlR => z.2) e⟩⟩
  keeps := fun _ _ _ ⟨K, hK, c⟩ k => ⟨K, PySem.W.Frag.In.keeps hK k, c⟩
def obT (s : PySem.W.SharedT) : AlR := obsR (HandSHeadRun.getT s)
theorem obT_eq (s : PySem.W.SharedT) : obT s = hookR.obs s.abs := by
  have e : HandSHeadRun.getT s = s.abs.heap.get? := funext (HandSHeadRun.getT_eq s)
  show obsR (HandSHeadRun.getT s) = obsR s.abs.heap.get?
  rw [e]
theorem run (w : World) : HandSHeadRun.RunEqI R (PySem.W.view R.prog [0, 70]) hookR obT 40000 looseL w := by
  unfold HandSHeadRun.RunEqI
  kernel_rfl
end K47

/-! text Fin -/
namespace K47
open PySem PySem.Spec PyProof.Rows L2
theorem facts {P : Program} {w : World} {K : PySem.W.Frag} {h : Heap} {mg : Str → Option Value} {f : Addr} (PL : PlainLaw) (X : K.In h) (G : h.Ns mainGlobals mg) (hfa : mg ("law" : Str) = some (.ref f)) (c : SaysR K) :
    ∃ fd : FuncData, (∀ (s : Shared) (v : Value), BindsTo s fd ⟨[v], []⟩ [("_law_script", v)]) ∧ ∀ base : Heap, K.In base → base.Ns mainGlobals mg → FnOk P w K mg base C8.CX0 16 f fd ["_law_script"] (spLaw K) := by
  have T := tx_of X G c
  have e := hfa.symm.trans T.g_law
  cases e
  obtain ⟨fd, F⟩ := T.d_law
  have b := FunD.bindsA (ps := ["_law_script"]) F fun _ _ _ _ _ _ us hl => match us, hl with | [_], _ => rfl
  refine ⟨fd, fun s v => b s [v] rfl, fun base _ _ => ?_⟩
  exact ok_law (P := P) (w := w) (base := base) T PL F
end K47
open PySem PySem.W PySem.Calls PyProof.Rows
theorem PySem.Challenge.cw_similarforms_k47_whole_reachable_and_uno_holds : PySem.Challenge.rw_similarforms_k47_whole_reachable_and_uno.Holds := by
  w_on; o_law
  refine HandSHeadRun.head_imp (r := OpenLaw.row PySem.Challenge.rw_similarforms_k47_whole_reachable_and_uno) (q := view (OpenLaw.row PySem.Challenge.rw_similarforms_k47_whole_reachable_and_uno).prog [0, 70]) (H := K47.hookR) (ob := K47.obT) (M := 40000) (loose := K47.looseL) (d := HandSHeadRun.topDef (OpenLaw.row PySem.Challenge.rw_similarforms_k47_whole_reachable_and_uno).prog 70) (kwd := []) K47.obT_eq K47.run
    (by kernel_rfl) (by kernel_rfl) (by kernel_rfl) (by rfl) (by first | assumption | decide +kernel) (by decide +kernel) ⟨rfl, rfl, rfl, rfl, rfl, by decide +kernel⟩ ?hw ?hc
  case hw => w_witness2
  case hc =>
    refine L2.walk_ofE (l := PySem.Challenge.rw_similarforms_k47_whole_reachable_and_uno) (n := 63) (k := 16) (x := "_law_script") (CX := C8.CX0) rfl (by decide) (by kernel_rfl) ⟨rfl, by decide, by decide⟩ ?F (fun _ _ _ _ z => z)
    intro w mg fa h Y G hmg0
    obtain ⟨K, KX, c⟩ := Y
    have hmg : mg ("law" : PySem.Str) = some (.ref fa) := by
      have e : (HandSHeadRun.topDef (OpenLaw.row PySem.Challenge.rw_similarforms_k47_whole_reachable_and_uno).prog 70).name = ("law" : PySem.Str) := by kernel_rfl
      rw [← e]
      exact hmg0
    obtain ⟨fd, hb, hF⟩ := K47.facts (P := (PySem.Challenge.rw_similarforms_k47_whole_reachable_and_uno).prog) (w := w) K47.plain_law KX G hmg c
    exact ⟨K, fd, K47.spLaw K, KX, hb, fun H a ns hl _ hS => ⟨a, ns, rfl, hS, fun _ => rfl⟩, hF⟩
