import PyProof.Rows.All
import Wide.All
import OpenK.AllK
import Wide.FinOn
import HandS.ForMost
import HandS.EndBits
import HandS.TupAny
import HandS.TupMul
import HandS.Wide
import HandS.WideBits
import HandS.Style
import HandS.Codes
import HandS.Flow
import HandS.Deep
import HandS.IsInst
import HandS.TupLe
import HandS.StrMore
import HandS.Conv
import HandS.Iter
import PyProof.Draws
import PyProof.ListRange
import PyProof.TupleOfStr
import PyProof.Rows.StrRev
import HandS.Strs
import HandS.WideMore
import PySem.Challenge.RW_tworeadings_k35_whole_lengths_in_order
set_option maxHeartbeats 4000000
set_option Elab.async false
set_option linter.all false
set_option maxRecDepth 100000
/-! W3, part a: plain data over the hand layer: values without a heap, mutable things owned by slots. -/
namespace L2.W3
open PySem PySem.Spec PyProof.Rows

/-- plain data -/
inductive D where
  | non | bl (b : Bool) | int (i : Int) | str (s : List Nat) | tup (l : List D) | lst (l : List D) | dik (l : List (Key × D)) | ty (n : String) | box

/-- a text's signs are code points -/
def okS (s : List Nat) : Bool := s.all fun c => decide (c < 1114112)
/-- a key's text, too -/
def okK : Key → Bool
  | .inl _ => true
  | .inr s => okS s.cps.toList
mutual
inductive Rep (K : PySem.W.Frag) (B : Addr) (G : Hp) : V → D → Prop
  | non : Rep K B G .non .non
  | bl (b : Bool) : Rep K B G (.bl b) (.bl b)
  | int (i : Int) : Rep K B G (.int i) (.int i)
  | str {s : List Nat} (h : okS s = true) : Rep K B G (.str ⟨s.toArray⟩) (.str s)
  | ty (n : String) : Rep K B G (.ty n) (.ty n)
  | box : Rep K B G (.ref B) .box
  | tup {a : Addr} {vs : List V} {ds : List D} : SqT K G a vs → RepL K B G vs ds → Rep K B G (.ref a) (.tup ds)
  | lst {a : Addr} {vs : List V} {ds : List D} : G a = some (.lst vs) → RepL K B G vs ds → Rep K B G (.ref a) (.lst ds)
  | dik {a : Addr} {kvs : List (Key × V)} {es : List (Key × D)} : G a = some (.dK kvs) → RepK K B G kvs es → Rep K B G (.ref a) (.dik es)
inductive RepL (K : PySem.W.Frag) (B : Addr) (G : Hp) : List V → List D → Prop
  | nil : RepL K B G [] []
  | cons {v : V} {vs : List V} {d : D} {ds : List D} : Rep K B G v d → RepL K B G vs ds → RepL K B G (v :: vs) (d :: ds)
inductive RepK (K : PySem.W.Frag) (B : Addr) (G : Hp) : List (Key × V) → List (Key × D) → Prop
  | nil : RepK K B G [] []
  | cons {k : Key} {v : V} {vs : List (Key × V)} {d : D} {ds : List (Key × D)} : okK k = true → Rep K B G v d → RepK K B G vs ds → RepK K B G ((k, v) :: vs) ((k, d) :: ds)
end

section
variable {K : PySem.W.Frag} {B : Addr} {G G' : Hp}
theorem sqT_mono (e : Same G G') {a : Addr} {xs : List V} (h : SqT K G a xs) : SqT K G' a xs := by
  rcases h with (h | ⟨o, h⟩) | h
  · exact .inl (.inl (e _ _ h))
  · exact .inl (.inr ⟨o, e _ _ h⟩)
  · exact .inr h
mutual
theorem Rep.mono (e : Same G G') : ∀ {v : V} {d : D}, Rep K B G v d → Rep K B G' v d
  | _, _, .non => .non
  | _, _, .bl b => .bl b
  | _, _, .int i => .int i
  | _, _, .str h => .str h
  | _, _, .ty n => .ty n
  | _, _, .box => .box
  | _, _, .tup h r => .tup (sqT_mono e h) (RepL.mono e r)
  | _, _, .lst h r => .lst (e _ _ h) (RepL.mono e r)
  | _, _, .dik h r => .dik (e _ _ h) (RepK.mono e r)
theorem RepL.mono (e : Same G G') : ∀ {vs : List V} {ds : List D}, RepL K B G vs ds → RepL K B G' vs ds
  | _, _, .nil => .nil
  | _, _, .cons a r => .cons (Rep.mono e a) (RepL.mono e r)
theorem RepK.mono (e : Same G G') : ∀ {vs : List (Key × V)} {ds : List (Key × D)}, RepK K B G vs ds → RepK K B G' vs ds
  | _, _, .nil => .nil
  | _, _, .cons o a r => .cons o (Rep.mono e a) (RepK.mono e r)
end
theorem RepL.length : ∀ {vs : List V} {ds : List D}, RepL K B G vs ds → vs.length = ds.length
  | _, _, .nil => rfl
  | _, _, .cons _ r => by simp [RepL.length r]
theorem RepL.get : ∀ {vs : List V} {ds : List D} {i : Nat} {d : D}, RepL K B G vs ds → ds[i]? = some d → ∃ v, vs[i]? = some v ∧ Rep K B G v d
  | _, _, i, d, .nil, h => by simp at h
  | _, _, 0, d, .cons a r, h => by
    simp at h; subst h; exact ⟨_, rfl, a⟩
  | _, _, i + 1, d, .cons a r, h => by
    obtain ⟨v, e, q⟩ := RepL.get (i := i) r (by simpa using h)
    exact ⟨v, by simpa using e, q⟩
theorem RepL.getV : ∀ {vs : List V} {ds : List D} {i : Nat} {v : V}, RepL K B G vs ds → vs[i]? = some v → ∃ d, ds[i]? = some d ∧ Rep K B G v d
  | _, _, i, d, .nil, h => by simp at h
  | _, _, 0, d, .cons a r, h => by
    simp at h; subst h; exact ⟨_, rfl, a⟩
  | _, _, i + 1, d, .cons a r, h => by
    obtain ⟨v, e, q⟩ := RepL.getV (i := i) r (by simpa using h)
    exact ⟨v, by simpa using e, q⟩
theorem RepL.append : ∀ {vs ws : List V} {ds es : List D}, RepL K B G vs ds → RepL K B G ws es → RepL K B G (vs ++ ws) (ds ++ es)
  | _, _, _, _, .nil, h => h
  | _, _, _, _, .cons a r, h => .cons a (RepL.append r h)
theorem RepL.take : ∀ {vs : List V} {ds : List D} (n : Nat), RepL K B G vs ds → RepL K B G (vs.take n) (ds.take n)
  | _, _, 0, _ => .nil
  | _, _, _ + 1, .nil => .nil
  | _, _, n + 1, .cons a r => .cons a (RepL.take n r)
theorem RepL.drop : ∀ {vs : List V} {ds : List D} (n : Nat), RepL K B G vs ds → RepL K B G (vs.drop n) (ds.drop n)
  | _, _, 0, h => h
  | _, _, _ + 1, .nil => .nil
  | _, _, n + 1, .cons a r => RepL.drop n r
theorem RepL.set : ∀ {vs : List V} {ds : List D} {v : V} {d : D} (n : Nat), RepL K B G vs ds → Rep K B G v d → RepL K B G (vs.set n v) (ds.set n d)
  | _, _, _, _, _, .nil, _ => .nil
  | _, _, _, _, 0, .cons _ r, h => .cons h r
  | _, _, _, _, n + 1, .cons a r, h => .cons a (RepL.set n r h)
theorem RepL.reverse : ∀ {vs : List V} {ds : List D}, RepL K B G vs ds → RepL K B G vs.reverse ds.reverse
  | _, _, .nil => .nil
  | _, _, .cons a r => by
    rw [List.reverse_cons, List.reverse_cons]
    exact RepL.append (RepL.reverse r) (.cons a .nil)
theorem RepL.dropLast : ∀ {vs : List V} {ds : List D}, RepL K B G vs ds → RepL K B G vs.dropLast ds.dropLast
  | _, _, .nil => .nil
  | _, _, .cons a .nil => .nil
  | _, _, .cons a (.cons b r) => .cons a (RepL.dropLast (.cons b r))
end

/-- the law's drawer: one object, its footprint, what holds of it -/
structure Bx where
  adr : Addr
  fp : List Addr
  inv : Hp → Prop
  loc : ∀ H H' : Hp, (∀ a ∈ fp, H' a = H a) → inv H → inv H'
  has : ∀ H : Hp, inv H → ∀ a ∈ fp, ∃ o, H a = some o

/-- F: what others own (kept, never frozen); G: what is frozen; H: all -/
structure Fr3 (bx : Bx) (F G H : Hp) : Prop where
  gs : Same G H
  fs : Same F H
  fg : ∀ a o, F a = some o → G a = none
  bi : bx.inv H
  bg : ∀ a ∈ bx.fp, G a = none ∧ F a = none

inductive Sl where
  | un | val (d : D) | own (d : D)
abbrev Env3 := List Sl
inductive R where
  | val (d : D) | new (d : D) | slot (i : Nat)

def Own (ρ : Env3) (σ : St) (i : Nat) (p : Addr) : Prop := (∃ d, ρ[i]? = some (.own d)) ∧ σ[i]? = some (some (.ref p))
inductive Top (K : PySem.W.Frag) (B : Addr) (G H : Hp) (p : Addr) : D → Prop
  | lst {vs : List V} {ds : List D} : H p = some (.lst vs) → RepL K B G vs ds → Top K B G H p (.lst ds)
  | dik {kvs : List (Key × V)} {es : List (Key × D)} : H p = some (.dK kvs) → RepK K B G kvs es → Top K B G H p (.dik es)

structure Stt (K : PySem.W.Frag) (bx : Bx) (F : Hp) (ρ : Env3) (σ : St) (G H : Hp) : Prop extends Fr3 bx F G H where
  len : ρ.length = σ.length
  vl : ∀ (i : Nat) (d : D), ρ[i]? = some (Sl.val d) → ∃ v, σ[i]? = some (some v) ∧ Rep K bx.adr G v d
  ow : ∀ (i : Nat) (d : D), ρ[i]? = some (Sl.own d) → ∃ p, σ[i]? = some (some (V.ref p)) ∧ Top K bx.adr G H p d ∧ G p = none ∧ F p = none ∧ p ∉ bx.fp
  dj : ∀ i j p, Own ρ σ i p → Own ρ σ j p → i = j

/-- a new thing at p that nobody else has -/
def Sole (K : PySem.W.Frag) (bx : Bx) (F G H : Hp) (p : Addr) (d : D) : Prop := Top K bx.adr G H p d ∧ G p = none ∧ F p = none ∧ p ∉ bx.fp
def RepR (K : PySem.W.Frag) (bx : Bx) (F : Hp) (ρ : Env3) (σ : St) (G H : Hp) (r : R) (v : V) : Prop :=
  match r with
  | .val d => Rep K bx.adr G v d
  | .new d => ∃ p, v = .ref p ∧ Sole K bx F G H p d ∧ ∀ i, ¬ Own ρ σ i p
  | .slot i => σ[i]? = some (some v)

section
variable {K : PySem.W.Frag} {B : Addr} {bx : Bx} {F G G' H H' : Hp} {ρ ρ' : Env3} {σ : St} {r : R} {v : V} {p : Addr} {d : D}

theorem Top.mono (e : Same G G') (h : Top K B G H p d) : Top K B G' H p d := by
  cases h with
  | lst h r => exact .lst h (r.mono e)
  | dik h r => exact .dik h (r.mono e)
theorem Top.heap (e : H' p = H p) (h : Top K B G H p d) : Top K B G H' p d := by
  cases h with
  | lst h r => exact .lst (e.trans h) r
  | dik h r => exact .dik (e.trans h) r
theorem Top.some (h : Top K B G H p d) : ∃ o, H p = some o := by
  cases h with
  | lst h r => exact ⟨_, h⟩
  | dik h r => exact ⟨_, h⟩

/-- what is pending while other parts run -/
def pend (F H : Hp) (r : R) (v : V) : Hp :=
  match r, v with
  | .new _, .ref p => fun a => if a = p then H p else F a
  | _, _ => F

theorem pend_st (st : Stt K bx F ρ σ G H) (rr : RepR K bx F ρ σ G H r v) : Stt K bx (pend F H r v) ρ σ G H := by
  cases r with
  | val d => exact st
  | slot i => exact st
  | new d =>
    obtain ⟨p, rfl, ⟨tp, gp, fp, bp⟩, no⟩ := rr
    obtain ⟨o, ho⟩ := tp.some
    refine ⟨⟨st.gs, fun a u e => ?_, fun a u e => ?_, st.bi, fun a ha => ⟨(st.bg a ha).1, ?_⟩⟩, st.len, st.vl, fun i d' e => ?_, st.dj⟩
    · by_cases h : a = p
      · subst h; simp only [pend, if_pos] at e; exact e
      · simp only [pend, if_neg h] at e; exact st.fs a u e
    · by_cases h : a = p
      · subst h; exact gp
      · simp only [pend, if_neg h] at e; exact st.fg a u e
    · have h : a ≠ p := fun h => bp (h ▸ ha)
      simp only [pend, if_neg h]; exact (st.bg a ha).2
    · obtain ⟨q, e1, t, e2, e3, e4⟩ := st.ow i d' e
      have h : q ≠ p := fun h => no i ⟨⟨_, e⟩, h ▸ e1⟩
      exact ⟨q, e1, t, e2, by simp only [pend, if_neg h]; exact e3, e4⟩

theorem pend_back {F0 G0 H0 G1 H1 : Hp} {ρ0 ρ1 : Env3} (st0 : Stt K bx F0 ρ0 σ G0 H0) (rr : RepR K bx F0 ρ0 σ G0 H0 r v) (g : Same G0 G1) (st1 : Stt K bx (pend F0 H0 r v) ρ1 σ G1 H1) :
    Stt K bx F0 ρ1 σ G1 H1 ∧ RepR K bx F0 ρ1 σ G1 H1 r v := by
  cases r with
  | val d => exact ⟨st1, Rep.mono g rr⟩
  | slot i => exact ⟨st1, rr⟩
  | new d =>
    obtain ⟨p, rfl, ⟨tp, gp, fp, bp⟩, no⟩ := rr
    obtain ⟨o, ho⟩ := tp.some
    have pp : pend F0 H0 (.new d) (.ref p) p = some o := by simp only [pend, if_pos]; exact ho
    have pn : ∀ a, a ≠ p → pend F0 H0 (.new d) (.ref p) a = F0 a := fun a h => by simp only [pend, if_neg h]
    have ne : ∀ a o', F0 a = some o' → a ≠ p := fun a o' e h => by subst h; rw [fp] at e; cases e
    have hp1 : H1 p = H0 p := (st1.fs p o pp).trans ho.symm
    refine ⟨⟨⟨st1.gs, fun a u e => st1.fs a u (by rw [pn a (ne a u e)]; exact e), fun a u e => st1.fg a u (by rw [pn a (ne a u e)]; exact e), st1.bi, fun a ha => ⟨(st1.bg a ha).1, (st0.bg a ha).2⟩⟩, st1.len, st1.vl, fun i d' e => ?_, st1.dj⟩,
      p, rfl, ⟨(tp.mono g).heap hp1, st1.fg p o pp, fp, bp⟩, fun i hi => ?_⟩
    · obtain ⟨q, e1, t, e2, e3, e4⟩ := st1.ow i d' e
      have h : q ≠ p := fun h => by subst h; rw [pp] at e3; cases e3
      exact ⟨q, e1, t, e2, by rw [pn q h] at e3; exact e3, e4⟩
    · obtain ⟨⟨d', e⟩, e1⟩ := hi
      obtain ⟨q, e1', t, e2, e3, e4⟩ := st1.ow i d' e
      rw [e1] at e1'; cases e1'
      rw [pp] at e3; cases e3
theorem rr_unpend {r2 : R} {v2 : V} {H0 : Hp} (rr : RepR K bx (pend F H0 r v) ρ σ G H r2 v2) (rr0 : RepR K bx F ρ' σ G' H0 r v) : RepR K bx F ρ σ G H r2 v2 := by
  cases r2 with
  | val d => exact rr
  | slot i => exact rr
  | new d2 =>
    obtain ⟨q, rfl, ⟨tq, gq, fq, bq⟩, no⟩ := rr
    refine ⟨q, rfl, ⟨tq, gq, ?_, bq⟩, no⟩
    cases r with
    | val d => exact fq
    | slot i => exact fq
    | new d =>
      obtain ⟨p, rfl, ⟨tp, gp, fp, bp⟩, _⟩ := rr0
      by_cases h : q = p
      · subst h; exact fp
      · simp only [pend, if_neg h] at fq; exact fq

/-- a value that may be read now -/
def View (K : PySem.W.Frag) (B : Addr) (G H : Hp) (v : V) (d : D) : Prop := Rep K B G v d ∨ ∃ p, v = .ref p ∧ Top K B G H p d
/-- the data of a result, where it stands -/
def pk (r : R) (ρ : Env3) (k : D → Prop) : Prop :=
  match r with
  | .val d => k d
  | .new d => k d
  | .slot i => match ρ[i]? with
    | some (.val d) => k d
    | some (.own d) => k d
    | _ => False
theorem pk_ok {k : D → Prop} (st : Stt K bx F ρ σ G H) (rr : RepR K bx F ρ σ G H r v) (h : pk r ρ k) : ∃ d, k d ∧ View K bx.adr G H v d := by
  cases r with
  | val d => exact ⟨d, h, .inl rr⟩
  | new d =>
    obtain ⟨p, rfl, ⟨tp, _⟩, _⟩ := rr
    exact ⟨d, h, .inr ⟨p, rfl, tp⟩⟩
  | slot i =>
    have rr : σ[i]? = some (some v) := rr
    have h : match ρ[i]? with
      | some (.val d) => k d
      | some (.own d) => k d
      | _ => False := h
    split at h
    · rename_i d e
      obtain ⟨w, e1, q⟩ := st.vl i d e
      rw [rr] at e1; cases e1
      exact ⟨d, h, .inl q⟩
    · rename_i d e
      obtain ⟨p, e1, t, _⟩ := st.ow i d e
      rw [rr] at e1; cases e1
      exact ⟨d, h, .inr ⟨p, rfl, t⟩⟩
    · exact h.elim

/-- a result handed on for good -/
def fz (r : R) (ρ : Env3) (k : D → Env3 → Prop) : Prop :=
  match r with
  | .val d => k d ρ
  | .new d => k d ρ
  | .slot i => match ρ[i]? with
    | some (.val d) => k d ρ
    | some (.own d) => k d (ρ.set i (.val d))
    | _ => False
theorem Top.rep (h : Top K B G H p d) (e : G' p = H p) (g : Same G G') : Rep K B G' (.ref p) d := by
  cases h with
  | lst h r => exact .lst (e.trans h) (r.mono g)
  | dik h r => exact .dik (e.trans h) (r.mono g)
theorem freeze_at (st : Stt K bx F ρ σ G H) {o : HO} (ho : H p = some o) (gp : G p = none) (fp : F p = none) (bp : p ∉ bx.fp) (no : ∀ i, ¬ Own ρ σ i p) : Same G (upd G p o) ∧ Stt K bx F ρ σ (upd G p o) H := by
  have gg : Same G (upd G p o) := fun a u e => by rw [upd_ne (ne_of_none e gp)]; exact e
  refine ⟨gg, ⟨⟨fun a u e => ?_, st.fs, fun a u e => ?_, st.bi, fun a ha => ⟨?_, (st.bg a ha).2⟩⟩, st.len, fun i d e => ?_, fun i d e => ?_, st.dj⟩⟩
  · by_cases h : a = p
    · subst h; rw [upd_same] at e; cases e; exact ho
    · rw [upd_ne h] at e; exact st.gs a u e
  · rw [upd_ne (ne_of_none e fp)]; exact st.fg a u e
  · have hne : a ≠ p := fun h => bp (h ▸ ha)
    rw [upd_ne hne]; exact (st.bg a ha).1
  · obtain ⟨w, e1, q⟩ := st.vl i d e
    exact ⟨w, e1, q.mono gg⟩
  · obtain ⟨q, e1, t, e2, e3⟩ := st.ow i d e
    have h : q ≠ p := fun h => no i ⟨⟨_, e⟩, h ▸ e1⟩
    exact ⟨q, e1, t.mono gg, by rw [upd_ne h]; exact e2, e3⟩
theorem own_forget {i : Nat} {d : D} (st : Stt K bx F ρ σ G H) : Stt K bx F (ρ.set i .un) σ G H ∧ (∀ p, Own ρ σ i p → ∀ j, ¬ Own (ρ.set i .un) σ j p) := by
  have get : ∀ j s, (ρ.set i .un)[j]? = some s → s ≠ .un → ρ[j]? = some s ∧ j ≠ i := fun j s e hs => by
    by_cases h : j = i
    · subst h
      rw [List.getElem?_set] at e
      simp only [if_pos] at e
      split at e
      · cases e; exact absurd rfl hs
      · cases e
    · rw [List.getElem?_set_ne (Ne.symm h)] at e
      exact ⟨e, h⟩
  refine ⟨⟨st.toFr3, by simp [st.len], fun j d e => st.vl j d (get j _ e (by simp)).1, fun j d e => st.ow j d (get j _ e (by simp)).1, fun j k p ⟨⟨d1, h1⟩, e1⟩ ⟨⟨d2, h2⟩, e2⟩ => st.dj j k p ⟨⟨d1, (get j _ h1 (by simp)).1⟩, e1⟩ ⟨⟨d2, (get k _ h2 (by simp)).1⟩, e2⟩⟩, fun p hi j hj => ?_⟩
  obtain ⟨⟨d', e⟩, e1⟩ := hj
  obtain ⟨e2, ne⟩ := get j _ e (by simp)
  exact ne (st.dj j i p ⟨⟨d', e2⟩, e1⟩ hi)
theorem set_val {i : Nat} (st : Stt K bx F (ρ.set i .un) σ G H) (hv : σ[i]? = some (some v)) (r : Rep K bx.adr G v d) : Stt K bx F (ρ.set i (.val d)) σ G H := by
  have get : ∀ j s, (ρ.set i (.val d))[j]? = some s → s = .val d ∧ j = i ∨ (ρ.set i .un)[j]? = some s := fun j s e => by
    by_cases h : j = i
    · subst h
      rw [List.getElem?_set] at e
      simp only [if_pos] at e
      split at e
      · cases e; exact .inl ⟨rfl, rfl⟩
      · cases e
    · rw [List.getElem?_set_ne (Ne.symm h)] at e
      exact .inr (by rw [List.getElem?_set_ne (Ne.symm h)]; exact e)
  have gown : ∀ (j : Nat) (d' : D), (ρ.set i (Sl.val d))[j]? = some (Sl.own d') → (ρ.set i Sl.un)[j]? = some (Sl.own d') := fun j d' e => by
    rcases get j _ e with ⟨h, _⟩ | h
    · cases h
    · exact h
  refine ⟨st.toFr3, by simpa using st.len, fun j d' e => ?_, fun j d' e => st.ow j d' (gown j d' e), fun j k p ⟨⟨d1, h1⟩, e1⟩ ⟨⟨d2, h2⟩, e2⟩ => st.dj j k p ⟨⟨d1, gown _ _ h1⟩, e1⟩ ⟨⟨d2, gown _ _ h2⟩, e2⟩⟩
  rcases get j _ e with ⟨h, rfl⟩ | h
  · cases h; exact ⟨v, hv, r⟩
  · exact st.vl j d' h
theorem fz_ok {k : D → Env3 → Prop} (st : Stt K bx F ρ σ G H) (rr : RepR K bx F ρ σ G H r v) (h : fz r ρ k) : ∃ d ρ' G', k d ρ' ∧ Same G G' ∧ Stt K bx F ρ' σ G' H ∧ Rep K bx.adr G' v d := by
  cases r with
  | val d => exact ⟨d, ρ, G, h, Same.refl G, st, rr⟩
  | new d =>
    obtain ⟨p, rfl, ⟨tp, gp, fp, bp⟩, no⟩ := rr
    obtain ⟨o, ho⟩ := tp.some
    obtain ⟨g, st'⟩ := freeze_at st ho gp fp bp no
    exact ⟨d, ρ, _, h, g, st', tp.rep (by rw [upd_same, ho]) g⟩
  | slot i =>
    have rr : σ[i]? = some (some v) := rr
    have h : match ρ[i]? with
      | some (.val d) => k d ρ
      | some (.own d) => k d (ρ.set i (.val d))
      | _ => False := h
    split at h
    · rename_i d e
      obtain ⟨w, e1, q⟩ := st.vl i d e
      rw [rr] at e1; cases e1
      exact ⟨d, ρ, G, h, Same.refl G, st, q⟩
    · rename_i d e
      obtain ⟨p, e1, t, e2, e3, e4⟩ := st.ow i d e
      rw [rr] at e1; cases e1
      obtain ⟨o, ho⟩ := t.some
      obtain ⟨st1, no⟩ := own_forget (i := i) (d := d) st
      obtain ⟨g, st2⟩ := freeze_at st1 ho e2 e3 e4 (no p ⟨⟨d, e⟩, rr⟩)
      have rp : Rep K bx.adr (upd G p o) (.ref p) d := t.rep (by rw [upd_same, ho]) g
      exact ⟨d, _, _, h, g, set_val st2 rr rp, rp⟩
    · exact h.elim
end

/-- what a result by values may be: a value, a new tuple, a new list, a new dict -/
structure Res (K : PySem.W.Frag) (bx : Bx) (G H : Hp) (P : R → Prop) (Q : VK) : Prop where
  val : ∀ d v, P (.val d) → Rep K bx.adr G v d → Q v H
  tup : ∀ l vs p, P (.val (.tup l)) → H p = none → RepL K bx.adr G vs l → Q (.ref p) (upd H p (.tup vs))
  lst : ∀ l vs p, P (.new (.lst l)) → H p = none → RepL K bx.adr G vs l → Q (.ref p) (upd H p (.lst vs))
  dik : ∀ l vs p, P (.new (.dik l)) → H p = none → RepK K bx.adr G vs l → Q (.ref p) (upd H p (.dK vs))

abbrev WE := Env3 → (R → Env3 → Prop) → Prop
def lE (K : PySem.W.Frag) (bx : Bx) (f : WE) : TE := fun σ H Q => ∃ F ρ G P, Stt K bx F ρ σ G H ∧ f ρ P ∧
  ∀ r ρ' v G' H', P r ρ' → Same G G' → Stt K bx F ρ' σ G' H' → RepR K bx F ρ' σ G' H' r v → Q v H'
structure E3 (X : Cx) (bx : Bx) (e : Expr) (f : WE) : Prop where
  pe : PE X e (lE X.K bx f)
theorem PE.weaken {X : Cx} {e : Expr} {t t' : TE} (h : PE X e t) (w : ∀ σ H Q, t' σ H Q → t σ H Q) : PE X e t' :=
  ⟨fun pins s σ H Q I q => h.run pins s σ H Q I (w _ _ _ q)⟩


section
variable {K : PySem.W.Frag} {B : Addr} {bx : Bx} {F G G' H H' : Hp} {ρ ρ' : Env3} {σ : St} {r : R} {v : V} {p : Addr} {d : D} {o : HO}
theorem Fr3.nfp (st : Fr3 bx F G H) (hp : H p = none) : p ∉ bx.fp := fun h => by
  obtain ⟨o, e⟩ := bx.has H st.bi p h
  rw [hp] at e; cases e
theorem Fr3.nG (st : Fr3 bx F G H) (hp : H p = none) : G p = none := Same.free st.gs hp
theorem Fr3.nF (st : Fr3 bx F G H) (hp : H p = none) : F p = none := Same.free st.fs hp
theorem same_upd' (hp : H p = none) : Same H (upd H p o) := fun a u e => by rw [upd_ne (ne_of_none e hp)]; exact e
theorem Fr3.alloc (st : Fr3 bx F G H) (hp : H p = none) : Fr3 bx F G (upd H p o) :=
  ⟨st.gs.trans (same_upd' hp), st.fs.trans (same_upd' hp), st.fg, bx.loc H _ (fun a ha => upd_ne (fun e => st.nfp hp (e ▸ ha))) st.bi, st.bg⟩
theorem Stt.alloc (st : Stt K bx F ρ σ G H) (hp : H p = none) : Stt K bx F ρ σ G (upd H p o) :=
  ⟨st.toFr3.alloc hp, st.len, st.vl, fun i d e => by
    obtain ⟨q, e1, t, e2⟩ := st.ow i d e
    obtain ⟨u, hu⟩ := t.some
    exact ⟨q, e1, t.heap (upd_ne (ne_of_none hu hp)), e2⟩, st.dj⟩
theorem Stt.notown (st : Stt K bx F ρ σ G H) (hp : H p = none) : ∀ i, ¬ Own ρ σ i p := fun i hi => by
  obtain ⟨⟨d, e⟩, e1⟩ := hi
  obtain ⟨q, e1', t, _⟩ := st.ow i d e
  rw [e1] at e1'; cases e1'
  obtain ⟨u, hu⟩ := t.some
  rw [hp] at hu; cases hu
/-- what values give, from what is wanted of results -/
theorem res_of {P : R → Prop} {Q : VK} (st : Stt K bx F ρ σ G H) (hQ : ∀ r v G' H', P r → Same G G' → Stt K bx F ρ σ G' H' → RepR K bx F ρ σ G' H' r v → Q v H') : Res K bx G H P Q := by
  refine ⟨fun d v h r => hQ _ v G H h (Same.refl G) st r, fun l vs p h hp r => ?_, fun l vs p h hp r => ?_, fun l vs p h hp r => ?_⟩
  · have st1 : Stt K bx F ρ σ G (upd H p (.tup vs)) := st.alloc hp
    obtain ⟨g, st2⟩ := freeze_at st1 upd_same (st.nG hp) (st.nF hp) (st.nfp hp) (st.notown hp)
    exact hQ _ _ _ _ h g st2 (Rep.tup (.inl (.inl upd_same)) (r.mono g))
  · have st1 : Stt K bx F ρ σ G (upd H p (.lst vs)) := st.alloc hp
    exact hQ _ _ _ _ h (Same.refl G) st1 ⟨p, rfl, ⟨.lst upd_same r, st.nG hp, st.nF hp, st.nfp hp⟩, st.notown hp⟩
  · have st1 : Stt K bx F ρ σ G (upd H p (.dK vs)) := st.alloc hp
    exact hQ _ _ _ _ h (Same.refl G) st1 ⟨p, rfl, ⟨.dik upd_same r, st.nG hp, st.nF hp, st.nfp hp⟩, st.notown hp⟩

/-! ### views -/
theorem view_int {i : Int} (h : View K B G H v (.int i)) : v = .int i := by
  rcases h with h | ⟨p, rfl, t⟩
  · cases h; rfl
  · cases t
theorem view_bl {b : Bool} (h : View K B G H v (.bl b)) : v = .bl b := by
  rcases h with h | ⟨p, rfl, t⟩
  · cases h; rfl
  · cases t
theorem view_non (h : View K B G H v .non) : v = .non := by
  rcases h with h | ⟨p, rfl, t⟩
  · cases h; rfl
  · cases t
theorem view_ty {n : String} (h : View K B G H v (.ty n)) : v = .ty n := by
  rcases h with h | ⟨p, rfl, t⟩
  · cases h; rfl
  · cases t
theorem view_str {s : List Nat} (h : View K B G H v (.str s)) : v = .str ⟨s.toArray⟩ ∧ okS s = true := by
  rcases h with h | ⟨p, rfl, t⟩
  · cases h with | str h => exact ⟨rfl, h⟩
  · cases t
theorem view_tup {l : List D} (g : Same G H) (h : View K B G H v (.tup l)) : ∃ a vs, v = .ref a ∧ SqT K H a vs ∧ RepL K B G vs l ∧ Rep K B G (.ref a) (.tup l) := by
  rcases h with h | ⟨p, rfl, t⟩
  · cases h with | tup h r => exact ⟨_, _, rfl, sqT_mono g h, r, .tup h r⟩
  · cases t
theorem view_lst {l : List D} (g : Same G H) (h : View K B G H v (.lst l)) : ∃ a vs, v = .ref a ∧ H a = some (.lst vs) ∧ RepL K B G vs l := by
  rcases h with h | ⟨p, rfl, t⟩
  · cases h with | lst h r => exact ⟨_, _, rfl, g _ _ h, r⟩
  · cases t with | lst h r => exact ⟨p, _, rfl, h, r⟩
theorem view_dik {l : List (Key × D)} (g : Same G H) (h : View K B G H v (.dik l)) : ∃ a vs, v = .ref a ∧ H a = some (.dK vs) ∧ RepK K B G vs l := by
  rcases h with h | ⟨p, rfl, t⟩
  · cases h with | dik h r => exact ⟨_, _, rfl, g _ _ h, r⟩
  · cases t with | dik h r => exact ⟨p, _, rfl, h, r⟩
theorem okS_append {a b : List Nat} (ha : okS a = true) (hb : okS b = true) : okS (a ++ b) = true := by
  unfold okS at *; rw [List.all_append, ha, hb]; rfl
theorem okS_sub {a b : List Nat} (h : ∀ c ∈ b, c ∈ a) (ha : okS a = true) : okS b = true := by
  unfold okS at *; rw [List.all_eq_true] at *; exact fun c hc => ha c (h c hc)
theorem str_app (a b : List Nat) : (⟨a.toArray⟩ : Str) ++ ⟨b.toArray⟩ = ⟨(a ++ b).toArray⟩ := by
  show Str.append _ _ = _
  simp [Str.append]
theorem str_len (a : List Nat) : (⟨a.toArray⟩ : Str).length = a.length := by simp [Str.length]
end
end L2.W3

/-! W3, part b: operators by data. -/
namespace L2.W3
open PySem PySem.Spec PyProof.Rows

abbrev DOp := D → D → (R → Prop) → Prop
def rD (K : PySem.W.Frag) (bx : Bx) (dop : DOp) : R2 := fun x y H Q => ∃ G d1 d2 P, Same G H ∧ View K bx.adr G H x d1 ∧ View K bx.adr G H y d2 ∧ dop d1 d2 P ∧ Res K bx G H P Q
abbrev OpD (X : Cx) (bx : Bx) (f : Value → Value → Sem Value) (dop : DOp) : Prop := OpR X f (rD X.K bx dop)

def addD : DOp
  | .int i, .int j, P => P (.val (.int (i + j)))
  | .str a, .str b, P => a.length + b.length ≤ sizeLine ∧ P (.val (.str (a ++ b)))
  | .tup a, .tup b, P => a.length + b.length ≤ sizeLine ∧ P (.val (.tup (a ++ b)))
  | .lst a, .lst b, P => a.length + b.length ≤ sizeLine ∧ P (.new (.lst (a ++ b)))
  | _, _, _ => False
def subD : DOp
  | .int i, .int j, P => P (.val (.int (i - j)))
  | _, _, _ => False
def MulI (i j : Int) : Prop := CMul i j ∨ CMulW i j
def repN {α : Type} (n : Int) (l : List α) : List α := (List.replicate n.toNat l).flatten
def mulD : DOp
  | .int i, .int j, P => MulI i j ∧ P (.val (.int (i * j)))
  | .str a, .int n, P => n < 2 ^ 24 ∧ -(2 ^ 24) < n ∧ a.length * n.toNat ≤ 16777216 ∧ P (.val (.str (repN n a)))
  | .lst a, .int n, P => n < 2 ^ 24 ∧ -(2 ^ 24) < n ∧ a.length * n.toNat ≤ sizeLine ∧ P (.new (.lst (repN n a)))
  | _, _, _ => False
def fdivD : DOp
  | .int i, .int j, P => CDivW i j ∧ P (.val (.int (i / j)))
  | _, _, _ => False
def modD : DOp
  | .int i, .int j, P => 0 < j ∧ P (.val (.int (i % j)))
  | _, _, _ => False
def powD : DOp
  | .int i, .int j, P => CPow i j ∧ P (.val (.int (i ^ j.toNat)))
  | _, _, _ => False
def shlD : DOp
  | .int i, .int j, P => CPow i j ∧ P (.val (.int (i * 2 ^ j.toNat)))
  | _, _, _ => False
def shrD : DOp
  | .int i, .int j, P => 0 ≤ j ∧ P (.val (.int (i / 2 ^ j.toNat)))
  | _, _, _ => False
def andD : DOp
  | .int i, .int j, P => 0 ≤ i ∧ j = 1 ∧ P (.val (.int (i % 2)))
  | _, _, _ => False

section
variable {X : Cx} {bx : Bx}
theorem opD_add : OpD X bx (binaryOp .Add) addD := by
  intro pins s σ H x y v u Q I rx ry ⟨G, d1, d2, P, g, v1, v2, h, R⟩
  unfold addD at h
  split at h
  · obtain rfl := view_int v1
    obtain rfl := view_int v2
    exact op_add pins s σ H _ _ v u Q I rx ry ⟨_, _, rfl, rfl, R.val _ _ h (.int _)⟩
  · obtain ⟨rfl, o1⟩ := view_str v1
    obtain ⟨rfl, o2⟩ := view_str v2
    refine op_add_str pins s σ H _ _ v u Q I rx ry ⟨_, _, rfl, rfl, by rw [str_len, str_len]; exact h.1, ?_⟩
    rw [str_app]
    exact R.val _ _ h.2 (.str (okS_append o1 o2))
  · obtain ⟨a, vs, rfl, s1, r1, q1⟩ := view_tup g v1
    obtain ⟨b, ws, rfl, s2, r2, q2⟩ := view_tup g v2
    refine op_catA pins s σ H _ _ v u Q I rx ry ⟨a, b, vs, ws, rfl, rfl, s1, s2, by rw [r1.length, r2.length]; exact h.1, fun e => ?_, fun e e' => ?_, fun _ _ p hp => ?_⟩
    · subst e
      cases r1
      exact R.val _ _ h.2 q2
    · subst e'
      cases r2
      have h2 := h.2
      rw [List.append_nil] at h2
      exact R.val _ _ h2 q1
    · exact R.tup _ _ p h.2 hp (r1.append r2)
  · obtain ⟨a, vs, rfl, s1, r1⟩ := view_lst g v1
    obtain ⟨b, ws, rfl, s2, r2⟩ := view_lst g v2
    exact op_cat pins s σ H _ _ v u Q I rx ry ⟨a, b, vs, ws, rfl, rfl, s1, s2, by rw [r1.length, r2.length]; exact h.1, fun p hp => R.lst _ _ p h.2 hp (r1.append r2)⟩
  · exact h.elim
theorem opD_sub : OpD X bx (binaryOp .Sub) subD := by
  intro pins s σ H x y v u Q I rx ry ⟨G, d1, d2, P, g, v1, v2, h, R⟩
  unfold subD at h
  split at h
  · obtain rfl := view_int v1
    obtain rfl := view_int v2
    exact op_sub pins s σ H _ _ v u Q I rx ry ⟨_, _, rfl, rfl, R.val _ _ h (.int _)⟩
  · exact h.elim
theorem repN_rep {K : PySem.W.Frag} {B : Addr} {G : Hp} {vs : List V} {l : List D} (r : RepL K B G vs l) : ∀ k : Nat, RepL K B G (List.replicate k vs).flatten (List.replicate k l).flatten
  | 0 => .nil
  | k + 1 => by
    rw [List.replicate_succ, List.replicate_succ, List.flatten_cons, List.flatten_cons]
    exact r.append (repN_rep r k)
theorem foldl_app (a : List Nat) : ∀ (k : Nat) (acc : List Nat), (List.replicate k a.toArray).foldl (· ++ ·) acc.toArray = (acc ++ (List.replicate k a).flatten).toArray
  | 0, acc => by simp
  | k + 1, acc => by
    rw [List.replicate_succ, List.foldl_cons, List.replicate_succ, List.flatten_cons]
    have e : acc.toArray ++ a.toArray = (acc ++ a).toArray := by simp
    rw [e, foldl_app a k (acc ++ a), List.append_assoc]
theorem txt_mul (a : List Nat) (n : Int) : Txt.mul ⟨a.toArray⟩ n = ⟨(repN n a).toArray⟩ := by
  unfold Txt.mul repN
  by_cases h1 : n < 1
  · rw [if_pos h1, Int.toNat_of_nonpos (by omega)]
    rfl
  · rw [if_neg h1]
    by_cases h2 : (n == 1 || (⟨a.toArray⟩ : Str).length == 0) = true
    · rw [if_pos h2]
      rw [str_len] at h2
      simp only [Bool.or_eq_true, beq_iff_eq] at h2
      rcases h2 with h2 | h2
      · subst h2; simp
      · have e : a = [] := List.length_eq_zero_iff.mp h2
        subst e
        simp
    · rw [if_neg h2]
      have e := foldl_app a n.toNat []
      rw [List.nil_append] at e
      exact congrArg Str.mk e
theorem okS_rep {a : List Nat} (h : okS a = true) (n : Int) : okS (repN n a) = true := by
  refine okS_sub (a := a) (fun c hc => ?_) h
  unfold repN at hc
  rw [List.mem_flatten] at hc
  obtain ⟨l, hl, hc⟩ := hc
  rw [List.mem_replicate] at hl
  rw [← hl.2]; exact hc
theorem opD_mul : OpD X bx (binaryOp .Mult) mulD := by
  intro pins s σ H x y v u Q I rx ry ⟨G, d1, d2, P, g, v1, v2, h, R⟩
  unfold mulD at h
  split at h
  · obtain rfl := view_int v1
    obtain rfl := view_int v2
    obtain ⟨h1 | h1, h2⟩ := h
    · exact op_mul pins s σ H _ _ v u Q I rx ry ⟨_, _, rfl, rfl, h1, R.val _ _ h2 (.int _)⟩
    · exact op_mulW pins s σ H _ _ v u Q I rx ry ⟨_, _, rfl, rfl, h1, R.val _ _ h2 (.int _)⟩
  · rename_i a n
    obtain ⟨rfl, o1⟩ := view_str v1
    obtain rfl := view_int v2
    obtain ⟨h1, h2, h3, h4⟩ := h
    obtain ⟨t, rfl⟩ := rx
    obtain ⟨t', rfl⟩ := ry
    refine SB.mul ⟨?_, fun h5 h6 => ?_, fun h5 h6 => ?_⟩ fun t2 k => ?_
    · simp only [Bool.or_eq_false_iff, decide_eq_false_iff_not]
      omega
    · rw [str_len]
      have e : (a.length : Int) * n ≤ 16777216 := by
        have h3' : ((a.length * n.toNat : Nat) : Int) ≤ ((16777216 : Nat) : Int) := Int.ofNat_le.mpr h3
        rw [Int.natCast_mul] at h3'
        rw [Int.toNat_of_nonneg (show 0 ≤ n by omega)] at h3'
        exact h3'
      intro hh
      have h7 : (2 ^ 63 - 1) / n < (a.length : Int) := hh
      rw [Int.ediv_lt_iff_lt_mul (by omega)] at h7
      omega
    · unfold Builtin.Str.tooLong
      rw [str_len]
      refine decide_eq_false fun h7 => ?_
      have h8 : sizeLine = 16777216 := by decide
      rw [h8] at h7
      exact absurd h3 (by omega)
    · rw [txt_mul]
      exact ⟨V.str ⟨(repN n a).toArray⟩, H, I.tok _, ⟨_, rfl⟩, R.val _ _ h4 (.str (okS_rep o1 _))⟩
  · obtain ⟨a, vs, rfl, s1, r1⟩ := view_lst g v1
    obtain rfl := view_int v2
    obtain ⟨h1, h2, h3, h4⟩ := h
    exact op_rep pins s σ H _ _ v u Q I rx ry ⟨a, _, vs, rfl, rfl, s1, by omega, by omega, by rw [r1.length]; exact h3, fun p hp => R.lst _ _ p h4 hp (repN_rep r1 _)⟩
  · exact h.elim
theorem opD_fdiv : OpD X bx (binaryOp .FloorDiv) fdivD := by
  intro pins s σ H x y v u Q I rx ry ⟨G, d1, d2, P, g, v1, v2, h, R⟩
  unfold fdivD at h
  split at h
  · obtain rfl := view_int v1
    obtain rfl := view_int v2
    exact op_fdivW pins s σ H _ _ v u Q I rx ry ⟨_, _, rfl, rfl, h.1, R.val _ _ h.2 (.int _)⟩
  · exact h.elim
theorem opD_mod : OpD X bx (binaryOp .Mod) modD := by
  intro pins s σ H x y v u Q I rx ry ⟨G, d1, d2, P, g, v1, v2, h, R⟩
  unfold modD at h
  split at h
  · obtain rfl := view_int v1
    obtain rfl := view_int v2
    exact op_mod pins s σ H _ _ v u Q I rx ry ⟨_, _, rfl, rfl, h.1, R.val _ _ h.2 (.int _)⟩
  · exact h.elim
theorem opD_pow : OpD X bx (binaryOp .Pow) powD := by
  intro pins s σ H x y v u Q I rx ry ⟨G, d1, d2, P, g, v1, v2, h, R⟩
  unfold powD at h
  split at h
  · obtain rfl := view_int v1
    obtain rfl := view_int v2
    exact op_pow pins s σ H _ _ v u Q I rx ry ⟨_, _, rfl, rfl, h.1, R.val _ _ h.2 (.int _)⟩
  · exact h.elim
theorem opD_shl : OpD X bx (binaryOp .LShift) shlD := by
  intro pins s σ H x y v u Q I rx ry ⟨G, d1, d2, P, g, v1, v2, h, R⟩
  unfold shlD at h
  split at h
  · obtain rfl := view_int v1
    obtain rfl := view_int v2
    exact op_shl pins s σ H _ _ v u Q I rx ry ⟨_, _, rfl, rfl, h.1, R.val _ _ h.2 (.int _)⟩
  · exact h.elim
theorem opD_shr : OpD X bx (binaryOp .RShift) shrD := by
  intro pins s σ H x y v u Q I rx ry ⟨G, d1, d2, P, g, v1, v2, h, R⟩
  unfold shrD at h
  split at h
  · obtain rfl := view_int v1
    obtain rfl := view_int v2
    exact op_shr pins s σ H _ _ v u Q I rx ry ⟨_, _, rfl, rfl, h.1, R.val _ _ h.2 (.int _)⟩
  · exact h.elim
theorem opD_and : OpD X bx (binaryOp .BitAnd) andD := by
  intro pins s σ H x y v u Q I rx ry ⟨G, d1, d2, P, g, v1, v2, h, R⟩
  unfold andD at h
  split at h
  · rename_i i j
    obtain rfl := view_int v1
    obtain rfl := view_int v2
    obtain ⟨h1, rfl, h2⟩ := h
    refine op_odd pins s σ H _ _ v u Q I rx ry ⟨i.toNat, by rw [Int.toNat_of_nonneg h1], rfl, ?_⟩
    have e : ((i.toNat % 2 : Nat) : Int) = i % 2 := by omega
    rw [e]
    exact R.val _ _ h2 (.int _)
  · exact h.elim

/-! ### two-place expressions -/
def wBin (dop : DOp) (fa fb : WE) : WE := fun ρ Q => fa ρ fun r1 ρ1 => fb ρ1 fun r2 ρ2 => pk r1 ρ2 fun x => pk r2 ρ2 fun y => dop x y fun r => Q r ρ2
theorem lE_bin {K : PySem.W.Frag} {dop : DOp} {fa fb : WE} (σ : L2.St) (H : Hp) (Q : VK) (h : lE K bx (wBin dop fa fb) σ H Q) : tOp (rD K bx dop) (lE K bx fa) (lE K bx fb) σ H Q := by
  obtain ⟨F, ρ, G, P, st, hf, hQ⟩ := h
  refine ⟨F, ρ, G, _, st, hf, fun r1 ρ1 w1 G1 H1 h1 g1 st1 rr1 => ?_⟩
  refine ⟨pend F H1 r1 w1, ρ1, G1, _, pend_st st1 rr1, h1, fun r2 ρ2 w2 G2 H2 h2 g2 st2 rr2 => ?_⟩
  obtain ⟨st2', rr1'⟩ := pend_back st1 rr1 g2 st2
  have rr2' := rr_unpend rr2 rr1
  obtain ⟨x, h3, vx⟩ := pk_ok st2' rr1' h2
  obtain ⟨y, h4, vy⟩ := pk_ok st2' rr2' h3
  exact ⟨G2, x, y, _, st2'.gs, vx, vy, h4, res_of st2' fun r w G3 H3 h g st3 rr => hQ r ρ2 w G3 H3 h (g1.trans (g2.trans g)) st3 rr⟩
variable {a b : Expr} {fa fb : WE} {pos : Pos}
theorem e_bin {op : Operator} {dop : DOp} (ho : OpD X bx (binaryOp op) dop) (ha : E3 X bx a fa) (hb : E3 X bx b fb) : E3 X bx (.BinOp a op b pos) (wBin dop fa fb) :=
  ⟨PE.weaken (pe_op ho ha.pe hb.pe) lE_bin⟩

/-! ### names, constants -/
def wVar (i : Nat) : WE := fun ρ Q => match ρ[i]? with
  | some (.val d) => Q (.val d) ρ
  | some (.own _) => Q (.slot i) ρ
  | _ => False
theorem e_var (i : Nat) {x : Str} {pos : Pos} (hN : X.N[i]? = some x := by rfl) (hv : Vis X.env.scope x := by first | exact Or.inl rfl | exact Or.inr (Or.inl rfl) | exact Or.inr (Or.inr rfl)) (hd : (x == ("__debug__" : Str)) = false := by decide)
    (hcd : (x == ("__classdict__" : Str)) = false := by decide) : E3 X bx (.Name x pos) (wVar i) := by
  refine ⟨PE.weaken (pv i hN hv hd hcd) fun σ H Q ⟨F, ρ, G, P, st, h, hQ⟩ => ?_⟩
  have h : match ρ[i]? with
    | some (.val d) => P (.val d) ρ
    | some (.own _) => P (.slot i) ρ
    | _ => False := h
  split at h
  · rename_i d e
    obtain ⟨v, e1, r⟩ := st.vl i d e
    exact ⟨v, e1, hQ _ ρ v G H h (Same.refl G) st r⟩
  · rename_i d e
    obtain ⟨p, e1, t, _⟩ := st.ow i d e
    exact ⟨_, e1, hQ _ ρ _ G H h (Same.refl G) st e1⟩
  · exact h.elim
def wC (d : D) : WE := fun ρ Q => Q (.val d) ρ
theorem e_const {e : Expr} {v : V} {d : D} (h : PE X e (tC v)) (hr : ∀ G, Rep X.K bx.adr G v d) : E3 X bx e (wC d) :=
  ⟨PE.weaken h fun σ H Q ⟨F, ρ, G, P, st, h, hQ⟩ => hQ _ ρ v G H h (Same.refl G) st (hr G)⟩
theorem e_int {i : Int} {j pos} : E3 X bx (.Constant (.int i) j pos) (wC (.int i)) := e_const pe_int fun _ => .int i
theorem e_bl {c : Bool} {j pos} : E3 X bx (.Constant (.bool c) j pos) (wC (.bl c)) := e_const pe_bl fun _ => .bl c
theorem e_non {j pos} : E3 X bx (.Constant .none j pos) (wC .non) := e_const pe_non fun _ => .non
theorem e_str {x : Str} {j pos} (s : List Nat) (h : x = ⟨s.toArray⟩ := by decide +kernel) (ho : okS s = true := by decide +kernel) : E3 X bx (.Constant (.str x) j pos) (wC (.str s)) := by
  subst h
  exact e_const pe_str fun _ => .str ho
/-- a constant of the module -/
theorem e_glob {x : Str} {v : V} {u : Value} {d : D} {pos : Pos} (hg : Gl X x) (hm : X.mg x = some u) (r : RelV v u) (hr : ∀ G, Rep X.K bx.adr G v d) (hd : (x == ("__debug__" : Str)) = false := by decide) : E3 X bx (.Name x pos) (wC d) :=
  e_const (pe_glob hg hm r hd) hr

/-! ### one-place -/
abbrev UOp := D → (R → Prop) → Prop
def rU1 (K : PySem.W.Frag) (bx : Bx) (dop : UOp) : V → Hp → VK → Prop := fun x H Q => ∃ G d P, Same G H ∧ View K bx.adr G H x d ∧ dop d P ∧ Res K bx G H P Q
def wUn (dop : UOp) (fa : WE) : WE := fun ρ Q => fa ρ fun r1 ρ1 => pk r1 ρ1 fun x => dop x fun r => Q r ρ1
theorem lE_un {K : PySem.W.Frag} {dop : UOp} (σ : L2.St) (H : Hp) (Q : VK) (h : lE K bx (wUn dop fa) σ H Q) : lE K bx fa σ H (fun x H1 => rU1 K bx dop x H1 Q) := by
  obtain ⟨F, ρ, G, P, st, hf, hQ⟩ := h
  refine ⟨F, ρ, G, _, st, hf, fun r1 ρ1 w1 G1 H1 h1 g1 st1 rr1 => ?_⟩
  obtain ⟨x, h3, vx⟩ := pk_ok st1 rr1 h1
  exact ⟨G1, x, _, st1.gs, vx, h3, res_of st1 fun r w G3 H3 h g st3 rr => hQ r ρ1 w G3 H3 h (g1.trans g) st3 rr⟩
def negD : UOp
  | .int i, P => P (.val (.int (-i)))
  | _, _ => False
theorem e_neg (ha : E3 X bx a fa) : E3 X bx (.UnaryOp .USub a pos) (wUn negD fa) := by
  refine ⟨PE.weaken (pe_un (r := rU1 X.K bx negD) (fun pins s σ H x v Q I rx ⟨G, d, P, g, v1, h, R⟩ => ?_) ha.pe) lE_un⟩
  unfold negD at h
  split at h
  · obtain rfl := view_int v1
    exact un_neg pins s σ H _ v Q I rx ⟨_, rfl, R.val _ _ h (.int _)⟩
  · exact h.elim
end
end L2.W3

/-! W3, part c: comparisons, tests, truth. -/
namespace L2.W3
open PySem PySem.Spec PyProof.Rows

mutual
def toPy : D → PyData
  | .non => .none
  | .bl b => .bool b
  | .int i => .int i
  | .str s => .str ⟨s.toArray⟩
  | .tup l => .tuple (toPyL l)
  | .lst l => .list (toPyL l)
  | .dik _ => .none
  | .ty _ => .none
  | .box => .none
def toPyL : List D → List PyData
  | [] => []
  | d :: r => toPy d :: toPyL r
end
theorem toPyL_map : ∀ l : List D, toPyL l = l.map toPy
  | [] => rfl
  | d :: r => by rw [toPyL, toPyL_map r]; rfl
/-- data that == looks through: nested at most so deep, no dicts -/
def Flat : Nat → D → Prop
  | _, .non => True
  | _, .bl _ => True
  | _, .int _ => True
  | _, .str _ => True
  | n + 1, .tup l => ∀ x ∈ l, Flat n x
  | n + 1, .lst l => ∀ x ∈ l, Flat n x
  | _, _ => False
theorem Flat.scal {n : Nat} {d : D} (h : Flat 0 d) : Flat n d := by
  cases d <;> first | (unfold Flat; trivial) | (unfold Flat at h; exact h.elim)
def eqv (a b : D) : Bool := PyData.eqv (toPy a) (toPy b)

theorem depthAll_le {n : Nat} : ∀ {l : List D}, (∀ x ∈ l, (toPy x).depth ≤ n) → PyData.depthAll (toPyL l) ≤ n
  | [], _ => by simp [toPyL, PyData.depthAll]
  | d :: r, h => by
    rw [toPyL, PyData.depthAll]
    have h1 := h d List.mem_cons_self
    have h2 := depthAll_le (l := r) fun x hx => h x (List.mem_cons_of_mem _ hx)
    omega
theorem flat_depth : ∀ {n : Nat} {d : D}, Flat n d → (toPy d).depth ≤ n
  | _, .non, _ => by simp [toPy, PyData.depth]
  | _, .bl _, _ => by simp [toPy, PyData.depth]
  | _, .int _, _ => by simp [toPy, PyData.depth]
  | _, .str _, _ => by simp [toPy, PyData.depth]
  | 0, .tup l, h => by unfold Flat at h; exact h.elim
  | 0, .lst l, h => by unfold Flat at h; exact h.elim
  | n + 1, .tup l, h => by
    unfold Flat at h
    simp only [toPy, PyData.depth]
    have := depthAll_le (l := l) (n := n) fun x hx => flat_depth (h x hx)
    omega
  | n + 1, .lst l, h => by
    unfold Flat at h
    simp only [toPy, PyData.depth]
    have := depthAll_le (l := l) (n := n) fun x hx => flat_depth (h x hx)
    omega
  | 0, .dik _, h => by unfold Flat at h; exact h.elim
  | _ + 1, .dik _, h => by unfold Flat at h; exact h.elim
  | 0, .ty _, h => by unfold Flat at h; exact h.elim
  | _ + 1, .ty _, h => by unfold Flat at h; exact h.elim
  | 0, .box, h => by unfold Flat at h; exact h.elim
  | _ + 1, .box, h => by unfold Flat at h; exact h.elim
theorem flat_succ {n : Nat} {l : List D} (h : Flat n (.tup l)) : ∃ m, n = m + 1 ∧ ∀ x ∈ l, Flat m x := by
  cases n with
  | zero => unfold Flat at h; exact h.elim
  | succ n => unfold Flat at h; exact ⟨n, rfl, h⟩
theorem flat_succL {n : Nat} {l : List D} (h : Flat n (.lst l)) : ∃ m, n = m + 1 ∧ ∀ x ∈ l, Flat m x := by
  cases n with
  | zero => unfold Flat at h; exact h.elim
  | succ n => unfold Flat at h; exact ⟨n, rfl, h⟩
theorem not_flat_dik {n : Nat} {l : List (Key × D)} (h : Flat n (.dik l)) : False := by
  cases n <;> (unfold Flat at h; exact h)
theorem not_flat_ty {n : Nat} {l : String} (h : Flat n (.ty l)) : False := by
  cases n <;> (unfold Flat at h; exact h)
theorem not_flat_box {n : Nat} (h : Flat n .box) : False := by
  cases n <;> (unfold Flat at h; exact h)
section
variable {K : PySem.W.Frag} {B : Addr} {G H : Hp}
theorem strOk_of {s : List Nat} (h : okS s = true) : PyData.canLay0 (.str ⟨s.toArray⟩) = true := by
  show PyData.strOk ⟨s.toArray⟩ = true
  unfold PyData.strOk
  unfold okS at h
  rw [List.all_eq_true] at h
  rw [← Array.all_toList, List.all_eq_true]
  intro c hc
  have h1 := h c (by simpa using hc)
  simpa using h1
mutual
theorem Rep.dp (g : Same G H) : ∀ {v : V} {d : D} {n : Nat}, Rep K B G v d → Flat n d → Dp K H v (toPy d) ∧ (toPy d).canLay0 = true
  | _, _, _, .non, _ => ⟨.non, rfl⟩
  | _, _, _, .bl b, _ => ⟨.bl b, rfl⟩
  | _, _, _, .int i, _ => ⟨.int i, rfl⟩
  | _, _, _, .str h, _ => ⟨.str _, strOk_of h⟩
  | _, _, _, .ty n, h => (not_flat_ty h).elim
  | _, _, _, .box, h => (not_flat_box h).elim
  | _, _, _, .dik _ _, h => (not_flat_dik h).elim
  | _, _, _, .tup a r, h => by
    obtain ⟨m, rfl, h⟩ := flat_succ h
    obtain ⟨h1, h2⟩ := RepL.dp g r h
    exact ⟨.tup (sqT_mono g a) h1, by simp only [toPy, PyData.canLay0]; exact h2⟩
  | _, _, _, .lst a r, h => by
    obtain ⟨m, rfl, h⟩ := flat_succL h
    obtain ⟨h1, h2⟩ := RepL.dp g r h
    exact ⟨.lst (.inl (.inl (g _ _ a))) h1, by simp only [toPy, PyData.canLay0]; exact h2⟩
theorem RepL.dp (g : Same G H) : ∀ {vs : List V} {ds : List D} {n : Nat}, RepL K B G vs ds → (∀ x ∈ ds, Flat n x) → DpAll K H vs (toPyL ds) ∧ PyData.canLayAll0 (toPyL ds) = true
  | _, _, _, .nil, _ => ⟨by rw [toPyL]; exact .nil, by rw [toPyL]; rfl⟩
  | _, _, _, .cons a r, h => by
    obtain ⟨h1, h2⟩ := Rep.dp g a (h _ List.mem_cons_self)
    obtain ⟨h3, h4⟩ := RepL.dp g r fun x hx => h x (List.mem_cons_of_mem _ hx)
    exact ⟨by rw [toPyL]; exact .cons h1 h3, by rw [toPyL]; simp only [PyData.canLayAll0, h2, h4, Bool.and_self]⟩
end
theorem view_dp (g : Same G H) {v : V} {d : D} {n : Nat} (h : View K B G H v d) (f : Flat n d) : Dp K H v (toPy d) ∧ (toPy d).canLay0 = true := by
  rcases h with h | ⟨p, rfl, t⟩
  · exact h.dp g f
  · cases t with
    | lst h r =>
      obtain ⟨m, rfl, f⟩ := flat_succL f
      obtain ⟨h1, h2⟩ := r.dp g f
      exact ⟨.lst (.inl (.inl h)) h1, by simp only [toPy, PyData.canLay0]; exact h2⟩
    | dik h r => exact (not_flat_dik f).elim
end

/-! ### comparisons -/
def eqD : DOp := fun a b P => Flat 50 a ∧ Flat 50 b ∧ P (.val (.bl (eqv a b)))
def neD : DOp := fun a b P => Flat 50 a ∧ Flat 50 b ∧ P (.val (.bl (!eqv a b)))
def ltD : DOp
  | .int i, .int j, P => P (.val (.bl (decide (i < j))))
  | .str a, .str b, P => P (.val (.bl (decide (a < b))))
  | _, _, _ => False
def leD : DOp
  | .int i, .int j, P => P (.val (.bl (decide (i ≤ j))))
  | .str a, .str b, P => P (.val (.bl (!decide (b < a))))
  | _, _, _ => False
def gtD : DOp := fun a b P => ltD b a P
def geD : DOp := fun a b P => leD b a P
def inD : DOp
  | x, .tup l, P => Flat 50 x ∧ (∀ y ∈ l, Flat 49 y) ∧ P (.val (.bl (l.any fun y => eqv y x)))
  | x, .lst l, P => Flat 50 x ∧ (∀ y ∈ l, Flat 49 y) ∧ P (.val (.bl (l.any fun y => eqv y x)))
  | .str [c], .str t, P => P (.val (.bl (decide (c ∈ t))))
  | _, _, _ => False
def notInD : DOp
  | x, .tup l, P => Flat 50 x ∧ (∀ y ∈ l, Flat 49 y) ∧ P (.val (.bl (!l.any fun y => eqv y x)))
  | x, .lst l, P => Flat 50 x ∧ (∀ y ∈ l, Flat 49 y) ∧ P (.val (.bl (!l.any fun y => eqv y x)))
  | .str [c], .str t, P => P (.val (.bl (!decide (c ∈ t))))
  | _, _, _ => False
def isNon : D → Bool
  | .non => true
  | _ => false
def isD : DOp
  | a, .non, P => P (.val (.bl (isNon a)))
  | .bl a, .bl b, P => P (.val (.bl (decide (a = b))))
  | _, _, _ => False
def isNotD : DOp
  | a, .non, P => P (.val (.bl (!isNon a)))
  | .bl a, .bl b, P => P (.val (.bl (!decide (a = b))))
  | _, _, _ => False

section
variable {X : Cx} {bx : Bx}
theorem opD_eq (hu : X.A.units + 64 < cLine) : OpD X bx (compareOp .Eq) eqD := by
  intro pins s σ H x y v u Q I rx ry ⟨G, d1, d2, P, g, v1, v2, ⟨f1, f2, h⟩, R⟩
  obtain ⟨p1, c1⟩ := view_dp g v1 f1
  obtain ⟨p2, c2⟩ := view_dp g v2 f2
  obtain ⟨as, r1⟩ := Dp.reads I _ x v p1 rx
  obtain ⟨bs, r2⟩ := Dp.reads I _ y u p2 ry
  have h1 := flat_depth f1
  exact SeqAt.compareEq_reads r1 r2 c1 c2 (by omega) ⟨.bl _, H, I, rfl, R.val _ _ h (.bl _)⟩
theorem opD_ne (hu : X.A.units + 64 < cLine) : OpD X bx (compareOp .NotEq) neD := by
  intro pins s σ H x y v u Q I rx ry ⟨G, d1, d2, P, g, v1, v2, ⟨f1, f2, h⟩, R⟩
  obtain ⟨p1, c1⟩ := view_dp g v1 f1
  obtain ⟨p2, c2⟩ := view_dp g v2 f2
  obtain ⟨as, r1⟩ := Dp.reads I _ x v p1 rx
  obtain ⟨bs, r2⟩ := Dp.reads I _ y u p2 ry
  have h1 := flat_depth f1
  exact SeqAt.compareNe_reads r1 r2 c1 c2 (by omega) ⟨.bl _, H, I, rfl, R.val _ _ h (.bl _)⟩
theorem opD_lt : OpD X bx (compareOp .Lt) ltD := by
  intro pins s σ H x y v u Q I rx ry ⟨G, d1, d2, P, g, v1, v2, h, R⟩
  unfold ltD at h
  split at h
  · obtain rfl := view_int v1
    obtain rfl := view_int v2
    exact op_lt pins s σ H _ _ v u Q I rx ry ⟨_, _, rfl, rfl, R.val _ _ h (.bl _)⟩
  · obtain ⟨rfl, o1⟩ := view_str v1
    obtain ⟨rfl, o2⟩ := view_str v2
    exact op_lt_str pins s σ H _ _ v u Q I rx ry ⟨_, _, rfl, rfl, R.val _ _ h (.bl _)⟩
  · exact h.elim
theorem opD_le : OpD X bx (compareOp .LtE) leD := by
  intro pins s σ H x y v u Q I rx ry ⟨G, d1, d2, P, g, v1, v2, h, R⟩
  unfold leD at h
  split at h
  · obtain rfl := view_int v1
    obtain rfl := view_int v2
    exact op_le pins s σ H _ _ v u Q I rx ry ⟨_, _, rfl, rfl, R.val _ _ h (.bl _)⟩
  · obtain ⟨rfl, o1⟩ := view_str v1
    obtain ⟨rfl, o2⟩ := view_str v2
    exact op_le_str pins s σ H _ _ v u Q I rx ry ⟨_, _, rfl, rfl, R.val _ _ h (.bl _)⟩
  · exact h.elim
theorem opD_gt : OpD X bx (compareOp .Gt) gtD := by
  intro pins s σ H x y v u Q I rx ry ⟨G, d1, d2, P, g, v1, v2, h, R⟩
  unfold gtD ltD at h
  split at h
  · obtain rfl := view_int v1
    obtain rfl := view_int v2
    exact op_gt pins s σ H _ _ v u Q I rx ry ⟨_, _, rfl, rfl, R.val _ _ h (.bl _)⟩
  · obtain ⟨rfl, o1⟩ := view_str v1
    obtain ⟨rfl, o2⟩ := view_str v2
    exact op_gt_str pins s σ H _ _ v u Q I rx ry ⟨_, _, rfl, rfl, R.val _ _ h (.bl _)⟩
  · exact h.elim
theorem opD_ge : OpD X bx (compareOp .GtE) geD := by
  intro pins s σ H x y v u Q I rx ry ⟨G, d1, d2, P, g, v1, v2, h, R⟩
  unfold geD leD at h
  split at h
  · obtain rfl := view_int v1
    obtain rfl := view_int v2
    exact op_ge pins s σ H _ _ v u Q I rx ry ⟨_, _, rfl, rfl, R.val _ _ h (.bl _)⟩
  · obtain ⟨rfl, o1⟩ := view_str v1
    obtain ⟨rfl, o2⟩ := view_str v2
    exact op_ge_str pins s σ H _ _ v u Q I rx ry ⟨_, _, rfl, rfl, R.val _ _ h (.bl _)⟩
  · exact h.elim
theorem any_toPy (l : List D) (x : D) : (toPyL l).any (fun y => PyData.eqv y (toPy x)) = l.any fun y => eqv y x := by
  rw [toPyL_map, List.any_map]; rfl
theorem opD_in (hu : X.A.units + 64 < cLine) : OpD X bx (compareOp .In) inD := by
  intro pins s σ H x y v u Q I rx ry ⟨G, d1, d2, P, g, v1, v2, h, R⟩
  unfold inD at h
  split at h
  · obtain ⟨f1, f2, h⟩ := h
    obtain ⟨p1, c1⟩ := view_dp g v1 f1
    obtain ⟨p2, c2⟩ := view_dp (n := 50) g v2 f2
    obtain ⟨as, r1⟩ := Dp.reads I _ x v p1 rx
    obtain ⟨bs, r2⟩ := Dp.reads I _ y u p2 ry
    have h1 := flat_depth f1
    exact SeqAt.in_tuple_reads r2 r1 (by simpa only [toPy, PyData.canLay0] using c2) c1 (by omega) ⟨.bl _, H, I, rfl, R.val _ _ (by rw [any_toPy]; exact h) (.bl _)⟩
  · obtain ⟨f1, f2, h⟩ := h
    obtain ⟨p1, c1⟩ := view_dp g v1 f1
    obtain ⟨p2, c2⟩ := view_dp (n := 50) g v2 f2
    obtain ⟨as, r1⟩ := Dp.reads I _ x v p1 rx
    obtain ⟨bs, r2⟩ := Dp.reads I _ y u p2 ry
    have h1 := flat_depth f1
    exact SeqAt.in_list_reads r2 r1 (by simpa only [toPy, PyData.canLay0] using c2) c1 (by omega) ⟨.bl _, H, I, rfl, R.val _ _ (by rw [any_toPy]; exact h) (.bl _)⟩
  · obtain ⟨rfl, o1⟩ := view_str v1
    obtain ⟨rfl, o2⟩ := view_str v2
    exact op_in_sign pins s σ H _ _ v u Q I rx ry ⟨_, _, rfl, rfl, R.val _ _ h (.bl _)⟩
  · exact h.elim
theorem opD_notIn (hu : X.A.units + 64 < cLine) : OpD X bx (compareOp .NotIn) notInD := by
  intro pins s σ H x y v u Q I rx ry ⟨G, d1, d2, P, g, v1, v2, h, R⟩
  unfold notInD at h
  split at h
  · obtain ⟨f1, f2, h⟩ := h
    obtain ⟨p1, c1⟩ := view_dp g v1 f1
    obtain ⟨p2, c2⟩ := view_dp (n := 50) g v2 f2
    obtain ⟨as, r1⟩ := Dp.reads I _ x v p1 rx
    obtain ⟨bs, r2⟩ := Dp.reads I _ y u p2 ry
    have h1 := flat_depth f1
    exact SeqAt.notIn_tuple_reads r2 r1 (by simpa only [toPy, PyData.canLay0] using c2) c1 (by omega) ⟨.bl _, H, I, rfl, R.val _ _ (by rw [any_toPy]; exact h) (.bl _)⟩
  · obtain ⟨f1, f2, h⟩ := h
    obtain ⟨p1, c1⟩ := view_dp g v1 f1
    obtain ⟨p2, c2⟩ := view_dp (n := 50) g v2 f2
    obtain ⟨as, r1⟩ := Dp.reads I _ x v p1 rx
    obtain ⟨bs, r2⟩ := Dp.reads I _ y u p2 ry
    have h1 := flat_depth f1
    exact SeqAt.notIn_list_reads r2 r1 (by simpa only [toPy, PyData.canLay0] using c2) c1 (by omega) ⟨.bl _, H, I, rfl, R.val _ _ (by rw [any_toPy]; exact h) (.bl _)⟩
  · obtain ⟨rfl, o1⟩ := view_str v1
    obtain ⟨rfl, o2⟩ := view_str v2
    exact op_notIn_sign pins s σ H _ _ v u Q I rx ry ⟨_, _, rfl, rfl, R.val _ _ h (.bl _)⟩
  · exact h.elim
theorem isNon_v {K : PySem.W.Frag} {B : Addr} {G H : Hp} {v : V} {d : D} (h : View K B G H v d) : decide (v = .non) = isNon d := by
  rcases h with h | ⟨p, rfl, t⟩
  · cases h <;> rfl
  · cases t <;> rfl
theorem opD_is : OpD X bx (compareOp .Is) isD := by
  intro pins s σ H x y v u Q I rx ry ⟨G, d1, d2, P, g, v1, v2, h, R⟩
  unfold isD at h
  split at h
  · obtain rfl := view_non v2
    refine op_isN pins s σ H _ _ v u Q I rx ry ⟨rfl, R.val _ _ ?_ (.bl _)⟩
    rw [isNon_v v1]; exact h
  · obtain rfl := view_bl v1
    obtain rfl := view_bl v2
    exact op_is_bl pins s σ H _ _ v u Q I rx ry ⟨_, _, rfl, rfl, R.val _ _ h (.bl _)⟩
  · exact h.elim
theorem opD_isNot : OpD X bx (compareOp .IsNot) isNotD := by
  intro pins s σ H x y v u Q I rx ry ⟨G, d1, d2, P, g, v1, v2, h, R⟩
  unfold isNotD at h
  split at h
  · obtain rfl := view_non v2
    refine op_notN pins s σ H _ _ v u Q I rx ry ⟨rfl, R.val _ _ ?_ (.bl _)⟩
    rw [isNon_v v1]; exact h
  · obtain rfl := view_bl v1
    obtain rfl := view_bl v2
    exact op_isnot_bl pins s σ H _ _ v u Q I rx ry ⟨_, _, rfl, rfl, R.val _ _ h (.bl _)⟩
  · exact h.elim

/-! ### as values, as tests -/
variable {a b c : Expr} {fa fb fc : WE} {pos : Pos}
theorem e_cmp {op : CmpOp} {dop : DOp} (ho : OpD X bx (compareOp op) dop) (ha : E3 X bx a fa) (hb : E3 X bx b fb) (hm : behindInMarks op b = false := by first | exact nomark _ | rfl | with_unfolding_all rfl) :
    E3 X bx (.Compare a [op] [b] pos) (wBin dop fa fb) := ⟨PE.weaken (pe_cmpR ho ha.pe hb.pe hm) lE_bin⟩

abbrev WT := Env3 → (Bool → Env3 → Prop) → Prop
def lT (K : PySem.W.Frag) (bx : Bx) (f : WT) : TT := fun σ H Q => ∃ F ρ G P, Stt K bx F ρ σ G H ∧ f ρ P ∧ ∀ b ρ' G' H', P b ρ' → Same G G' → Stt K bx F ρ' σ G' H' → Q b H'
structure T3 (X : Cx) (bx : Bx) (e : Expr) (f : WT) : Prop where
  pt : PT X e (lT X.K bx f)
structure TW3 (X : Cx) (bx : Bx) (e : Expr) (f : WT) : Prop where
  pw : PW X e (lT X.K bx f)
theorem PT.weaken {X : Cx} {e : Expr} {t t' : TT} (h : PT X e t) (w : ∀ σ H Q, t' σ H Q → t σ H Q) : PT X e t' :=
  ⟨fun pins s σ H Q I q => h.run pins s σ H Q I (w _ _ _ q)⟩
theorem PW.weaken {X : Cx} {e : Expr} {t t' : TT} (h : PW X e t) (w : ∀ σ H Q, t' σ H Q → t σ H Q) : PW X e t' :=
  ⟨fun wh pins s σ H Q I q => h.run wh pins s σ H Q I (w _ _ _ q)⟩
theorem t_of (h : TW3 X bx a ft) : T3 X bx a ft := ⟨h.pw.pt⟩
def asB (r : R) (k : Bool → Prop) : Prop :=
  match r with
  | .val (.bl b) => k b
  | _ => False
def wTB (fa : WE) : WT := fun ρ Q => fa ρ fun r ρ1 => asB r fun b => Q b ρ1
theorem lT_B {K : PySem.W.Frag} (σ : L2.St) (H : Hp) (Q : Bool → Hp → Prop) (h : lT K bx (wTB fa) σ H Q) : tTest (lE K bx fa) σ H Q := by
  obtain ⟨F, ρ, G, P, st, hf, hQ⟩ := h
  refine ⟨F, ρ, G, _, st, hf, fun r ρ1 v G1 H1 h g st1 rr => ?_⟩
  cases r with
  | val d =>
    cases d <;> first
      | exact (show False from h).elim
      | (cases rr; exact ⟨_, rfl, hQ _ _ _ _ h g st1⟩)
  | new d => exact (show False from h).elim
  | slot i => exact (show False from h).elim
theorem t_cmp {op : CmpOp} {dop : DOp} (ho : OpD X bx (compareOp op) dop) (ha : E3 X bx a fa) (hb : E3 X bx b fb) (hm : behindInMarks op b = false := by first | exact nomark _ | rfl | with_unfolding_all rfl) :
    T3 X bx (.Compare a [op] [b] pos) (wTB (wBin dop fa fb)) := by
  refine ⟨PT.weaken (pt_cmpR ho ha.pe hb.pe hm) fun σ H Q h => ?_⟩
  obtain ⟨F, ρ, G, P, st, hf, hQ⟩ := h
  have h2 : tTest (lE X.K bx (wBin dop fa fb)) σ H Q := lT_B σ H Q ⟨F, ρ, G, P, st, hf, hQ⟩
  exact lE_bin σ H _ h2
def truD (d : D) (k : Bool → Prop) : Prop :=
  match d with
  | .non => k false
  | .bl b => k b
  | .int i => k (i != 0)
  | .str s => s.length ≤ sizeLine ∧ k (!s.isEmpty)
  | .tup l => k (!l.isEmpty)
  | .lst l => k (!l.isEmpty)
  | .dik l => k (!l.isEmpty)
  | _ => False
theorem RepL.isEmpty {K : PySem.W.Frag} {B : Addr} {G : Hp} {vs : List V} {ds : List D} (r : RepL K B G vs ds) : vs.isEmpty = ds.isEmpty := by cases r <;> rfl
theorem RepK.isEmpty {K : PySem.W.Frag} {B : Addr} {G : Hp} {vs : List (Key × V)} {ds : List (Key × D)} (r : RepK K B G vs ds) : vs.isEmpty = ds.isEmpty := by cases r <;> rfl
theorem truV_of {K : PySem.W.Frag} {B : Addr} {G H : Hp} {v : V} {d : D} {k : Bool → Prop} (g : Same G H) (h : View K B G H v d) (t : truD d k) : ∃ b, TruV K v H b ∧ k b := by
  unfold truD at t
  split at t
  · obtain rfl := view_non h; exact ⟨_, rfl, t⟩
  · obtain rfl := view_bl h; exact ⟨_, rfl, t⟩
  · obtain rfl := view_int h; exact ⟨_, rfl, t⟩
  · rename_i s
    obtain ⟨rfl, _⟩ := view_str h
    refine ⟨_, ⟨by rw [str_len]; exact t.1, rfl⟩, ?_⟩
    rw [str_len]
    have e : ((s.length : Int) != 0) = !s.isEmpty := by cases s <;> simp [bne]; omega
    rw [e]; exact t.2
  · obtain ⟨a, vs, rfl, s, r, _⟩ := view_tup g h
    exact ⟨_, .inr (.inl ⟨vs, s, rfl⟩), by rw [r.isEmpty]; exact t⟩
  · obtain ⟨a, vs, rfl, s, r⟩ := view_lst g h
    exact ⟨_, .inl ⟨vs, .inl (.inl s), rfl⟩, by rw [r.isEmpty]; exact t⟩
  · obtain ⟨a, vs, rfl, s, r⟩ := view_dik g h
    exact ⟨_, .inr (.inr ⟨vs, s, rfl⟩), by rw [r.isEmpty]; exact t⟩
  · exact t.elim
def wTru (fa : WE) : WT := fun ρ Q => fa ρ fun r ρ1 => pk r ρ1 fun d => truD d fun b => Q b ρ1
theorem t_val (ha : E3 X bx a fa) (he : ∀ whole, isTrue a X.env whole = (do let v ← whole; standAt a.pos; holding [v] (truthy v)) := by intro _; rfl) : T3 X bx a (wTru fa) := by
  refine ⟨PT.weaken (pt_truth ha.pe he) fun σ H Q ⟨F, ρ, G, P, st, hf, hQ⟩ => ⟨F, ρ, G, _, st, hf, fun r ρ1 v G1 H1 h g st1 rr => ?_⟩⟩
  obtain ⟨d, h2, vw⟩ := pk_ok st1 rr h
  obtain ⟨b, tv, q⟩ := truV_of st1.gs vw h2
  exact ⟨b, tv, hQ _ _ _ _ q g st1⟩
def wTAnd (ta tb : WT) : WT := fun ρ Q => ta ρ fun b ρ1 => if b = true then tb ρ1 Q else Q false ρ1
def wTOr (ta tb : WT) : WT := fun ρ Q => ta ρ fun b ρ1 => if b = true then Q true ρ1 else tb ρ1 Q
def wTNot (ta : WT) : WT := fun ρ Q => ta ρ fun b ρ1 => Q (!b) ρ1
variable {ft fu : WT} {rest : List Expr}
theorem tw_and1 (ha : T3 X bx a ft) : TW3 X bx (.BoolOp .And [a] pos) ft := ⟨pw_and1 ha.pt⟩
theorem tw_or1 (ha : T3 X bx a ft) : TW3 X bx (.BoolOp .Or [a] pos) ft := ⟨pw_or1 ha.pt⟩
theorem tw_and (ha : T3 X bx a ft) (hb : TW3 X bx (.BoolOp .And (b :: rest) pos) fu) : TW3 X bx (.BoolOp .And (a :: b :: rest) pos) (wTAnd ft fu) := by
  refine ⟨PW.weaken (pw_and ha.pt hb.pw) fun σ H Q ⟨F, ρ, G, P, st, hf, hQ⟩ => ⟨F, ρ, G, _, st, hf, fun b ρ1 G1 H1 h g st1 => ?_⟩⟩
  by_cases hb : b = true
  · rw [if_pos hb] at h ⊢
    exact ⟨F, ρ1, G1, _, st1, h, fun b ρ2 G2 H2 h2 g2 st2 => hQ _ _ _ _ h2 (g.trans g2) st2⟩
  · rw [if_neg hb] at h ⊢
    exact hQ _ _ _ _ h g st1
theorem tw_or (ha : T3 X bx a ft) (hb : TW3 X bx (.BoolOp .Or (b :: rest) pos) fu) : TW3 X bx (.BoolOp .Or (a :: b :: rest) pos) (wTOr ft fu) := by
  refine ⟨PW.weaken (pw_or ha.pt hb.pw) fun σ H Q ⟨F, ρ, G, P, st, hf, hQ⟩ => ⟨F, ρ, G, _, st, hf, fun b ρ1 G1 H1 h g st1 => ?_⟩⟩
  by_cases hb : b = true
  · rw [if_pos hb] at h ⊢
    exact hQ _ _ _ _ h g st1
  · rw [if_neg hb] at h ⊢
    exact ⟨F, ρ1, G1, _, st1, h, fun b ρ2 G2 H2 h2 g2 st2 => hQ _ _ _ _ h2 (g.trans g2) st2⟩
theorem t_not (ha : T3 X bx a ft) : T3 X bx (.UnaryOp .Not a pos) (wTNot ft) :=
  ⟨PT.weaken (pt_not ha.pt) fun σ H Q ⟨F, ρ, G, P, st, hf, hQ⟩ => ⟨F, ρ, G, _, st, hf, fun b ρ1 G1 H1 h g st1 => hQ _ _ _ _ h g st1⟩⟩
/-- and, or, not as values -/
def wAnd (fa fb : WE) : WE := fun ρ Q => fa ρ fun r ρ1 => pk r ρ1 fun d => truD d fun b => if b = true then fb ρ1 Q else Q r ρ1
def wOr (fa fb : WE) : WE := fun ρ Q => fa ρ fun r ρ1 => pk r ρ1 fun d => truD d fun b => if b = true then Q r ρ1 else fb ρ1 Q
def wNot (fa : WE) : WE := fun ρ Q => fa ρ fun r ρ1 => pk r ρ1 fun d => truD d fun b => Q (.val (.bl (!b))) ρ1
theorem e_one {op} (ha : E3 X bx a fa) : E3 X bx (.BoolOp op [a] pos) fa := ⟨pe_one ha.pe⟩
theorem e_and (ha : E3 X bx a fa) (hb : E3 X bx (.BoolOp .And (b :: rest) pos) fb) : E3 X bx (.BoolOp .And (a :: b :: rest) pos) (wAnd fa fb) := by
  refine ⟨PE.weaken (pe_andT ha.pe hb.pe) fun σ H Q ⟨F, ρ, G, P, st, hf, hQ⟩ => ⟨F, ρ, G, _, st, hf, fun r ρ1 v G1 H1 h g st1 rr => ?_⟩⟩
  obtain ⟨d, h2, vw⟩ := pk_ok st1 rr h
  obtain ⟨k, tv, q⟩ := truV_of st1.gs vw h2
  refine ⟨k, tv, ?_⟩
  by_cases hb : k = true
  · rw [if_pos hb] at q ⊢
    exact ⟨F, ρ1, G1, _, st1, q, fun r2 ρ2 v2 G2 H2 h2 g2 st2 rr2 => hQ _ _ _ _ _ h2 (g.trans g2) st2 rr2⟩
  · rw [if_neg hb] at q ⊢
    exact hQ _ _ _ _ _ q g st1 rr
theorem e_or (ha : E3 X bx a fa) (hb : E3 X bx (.BoolOp .Or (b :: rest) pos) fb) : E3 X bx (.BoolOp .Or (a :: b :: rest) pos) (wOr fa fb) := by
  refine ⟨PE.weaken (pe_orT ha.pe hb.pe) fun σ H Q ⟨F, ρ, G, P, st, hf, hQ⟩ => ⟨F, ρ, G, _, st, hf, fun r ρ1 v G1 H1 h g st1 rr => ?_⟩⟩
  obtain ⟨d, h2, vw⟩ := pk_ok st1 rr h
  obtain ⟨k, tv, q⟩ := truV_of st1.gs vw h2
  refine ⟨k, tv, ?_⟩
  by_cases hb : k = true
  · rw [if_pos hb] at q ⊢
    exact hQ _ _ _ _ _ q g st1 rr
  · rw [if_neg hb] at q ⊢
    exact ⟨F, ρ1, G1, _, st1, q, fun r2 ρ2 v2 G2 H2 h2 g2 st2 rr2 => hQ _ _ _ _ _ h2 (g.trans g2) st2 rr2⟩
theorem e_not (ha : E3 X bx a fa) : E3 X bx (.UnaryOp .Not a pos) (wNot fa) := by
  refine ⟨PE.weaken (pe_notT ha.pe) fun σ H Q ⟨F, ρ, G, P, st, hf, hQ⟩ => ⟨F, ρ, G, _, st, hf, fun r ρ1 v G1 H1 h g st1 rr => ?_⟩⟩
  obtain ⟨d, h2, vw⟩ := pk_ok st1 rr h
  obtain ⟨k, tv, q⟩ := truV_of st1.gs vw h2
  exact ⟨k, tv, hQ _ _ _ _ _ q g st1 (.bl _)⟩
def wIf (ft : WT) (fa fb : WE) : WE := fun ρ Q => ft ρ fun c ρ1 => if c = true then fa ρ1 Q else fb ρ1 Q
theorem e_if (hc : T3 X bx c ft) (ha : E3 X bx a fa) (hb : E3 X bx b fb) : E3 X bx (.IfExp c a b pos) (wIf ft fa fb) := by
  refine ⟨PE.weaken (pe_ifExp hc.pt ha.pe hb.pe) fun σ H Q ⟨F, ρ, G, P, st, hf, hQ⟩ => ⟨F, ρ, G, _, st, hf, fun k ρ1 G1 H1 h g st1 => ?_⟩⟩
  by_cases hb : k = true
  · rw [if_pos hb] at h ⊢
    exact ⟨F, ρ1, G1, _, st1, h, fun r2 ρ2 v2 G2 H2 h2 g2 st2 rr2 => hQ _ _ _ _ _ h2 (g.trans g2) st2 rr2⟩
  · rw [if_neg hb] at h ⊢
    exact ⟨F, ρ1, G1, _, st1, h, fun r2 ρ2 v2 G2 H2 h2 g2 st2 rr2 => hQ _ _ _ _ _ h2 (g.trans g2) st2 rr2⟩
/-- a < b < c -/
def wChain (o1 o2 : DOp) (fa fb fc : WE) : WE := fun ρ Q => fa ρ fun r1 ρ1 => fb ρ1 fun r2 ρ2 => pk r1 ρ2 fun x => pk r2 ρ2 fun y => o1 x y fun r => asB r fun k =>
  if k = true then fc ρ2 fun r3 ρ3 => pk r2 ρ3 fun y => pk r3 ρ3 fun z => o2 y z fun r => Q r ρ3 else Q (.val (.bl false)) ρ2
theorem lE_chain {K : PySem.W.Frag} {o1 o2 : DOp} (σ : L2.St) (H : Hp) (Q : VK) (h : lE K bx (wChain o1 o2 fa fb fc) σ H Q) : tChain (rD K bx o1) (rD K bx o2) (lE K bx fa) (lE K bx fb) (lE K bx fc) σ H Q := by
  obtain ⟨F, ρ, G, P, st, hf, hQ⟩ := h
  refine ⟨F, ρ, G, _, st, hf, fun r1 ρ1 w1 G1 H1 h1 g1 st1 rr1 => ?_⟩
  refine ⟨pend F H1 r1 w1, ρ1, G1, _, pend_st st1 rr1, h1, fun r2 ρ2 w2 G2 H2 h2 g2 st2 rr2 => ?_⟩
  obtain ⟨st2', rr1'⟩ := pend_back st1 rr1 g2 st2
  have rr2' := rr_unpend rr2 rr1
  obtain ⟨x, h3, vx⟩ := pk_ok st2' rr1' h2
  obtain ⟨y, h4, vy⟩ := pk_ok st2' rr2' h3
  refine ⟨G2, x, y, _, st2'.gs, vx, vy, h4, res_of (pend_st st2' rr2') fun r w G3 H3 h g st3 rr => ?_⟩
  cases r with
  | new d => exact (show False from h).elim
  | slot i => exact (show False from h).elim
  | val d =>
    cases d <;> first
      | exact (show False from h).elim
      | skip
    rename_i k
    cases rr
    obtain ⟨st3, rr3⟩ := pend_back st2' rr2' g st3
    have h : if k = true then fc ρ2 fun r3 ρ3 => pk r2 ρ3 fun y => pk r3 ρ3 fun z => o2 y z fun r => P r ρ3 else P (.val (.bl false)) ρ2 := h
    refine ⟨k, rfl, ?_⟩
    by_cases hk : k = true
    · rw [if_pos hk] at h ⊢
      refine ⟨pend F H3 r2 w2, ρ2, G3, _, pend_st st3 rr3, h, fun r3 ρ3 w3 G4 H4 h5 g4 st4 rr4 => ?_⟩
      obtain ⟨st4', rr2''⟩ := pend_back st3 rr3 g4 st4
      have rr4' := rr_unpend rr4 rr3
      obtain ⟨y', h6, vy'⟩ := pk_ok st4' rr2'' h5
      obtain ⟨z, h7, vz⟩ := pk_ok st4' rr4' h6
      exact ⟨G4, y', z, _, st4'.gs, vy', vz, h7, res_of st4' fun r w G5 H5 h g5 st5 rr => hQ r ρ3 w G5 H5 h (g1.trans (g2.trans (g.trans (g4.trans g5)))) st5 rr⟩
    · rw [if_neg hk] at h ⊢
      exact hQ _ _ _ _ _ h (g1.trans (g2.trans g)) st3 (.bl _)
theorem e_chain {op1 op2 : CmpOp} {o1 o2 : DOp} (h1 : OpD X bx (compareOp op1) o1) (h2 : OpD X bx (compareOp op2) o2) (ha : E3 X bx a fa) (hb : E3 X bx b fb) (hc : E3 X bx c fc) (hm : lastMarks [op1, op2] [b, c] = false := by with_unfolding_all rfl) : E3 X bx (.Compare a [op1, op2] [b, c] pos) (wChain o1 o2 fa fb fc) :=
  ⟨PE.weaken (pe_chain h1 h2 ha.pe hb.pe hc.pe hm) lE_chain⟩
theorem t_chain {op1 op2 : CmpOp} {o1 o2 : DOp} (h1 : OpD X bx (compareOp op1) o1) (h2 : OpD X bx (compareOp op2) o2) (ha : E3 X bx a fa) (hb : E3 X bx b fb) (hc : E3 X bx c fc) (hm : lastMarks [op1, op2] [b, c] = false := by with_unfolding_all rfl) : T3 X bx (.Compare a [op1, op2] [b, c] pos) (wTB (wChain o1 o2 fa fb fc)) := by
  refine ⟨PT.weaken (pt_chain h1 h2 ha.pe hb.pe hc.pe hm) fun σ H Q h => ?_⟩
  have h2 : tTest (lE X.K bx (wChain o1 o2 fa fb fc)) σ H Q := lT_B σ H Q h
  exact lE_chain σ H _ h2
end
end L2.W3

/-! W3, part d: arguments, displays, calls, subscripts, slices. -/
namespace L2.W3
open PySem PySem.Spec PyProof.Rows

abbrev WA := Env3 → (List D → Env3 → Prop) → Prop
def lA (K : PySem.W.Frag) (bx : Bx) (f : WA) : TA := fun σ H Q => ∃ F ρ G P, Stt K bx F ρ σ G H ∧ f ρ P ∧ ∀ ds ρ' vs G' H', P ds ρ' → Same G G' → Stt K bx F ρ' σ G' H' → RepL K bx.adr G' vs ds → Q vs H'
structure A3 (X : Cx) (bx : Bx) (es : List Expr) (f : WA) : Prop where
  pa : PA X es (lA X.K bx f)
theorem PA.weaken {X : Cx} {e : List Expr} {t t' : TA} (h : PA X e t) (w : ∀ σ H Q, t' σ H Q → t σ H Q) : PA X e t' :=
  ⟨fun pos pins s σ H Q I q => h.run pos pins s σ H Q I (w _ _ _ q)⟩
def wANil : WA := fun ρ Q => Q [] ρ
def wACons (fa : WE) (fr : WA) : WA := fun ρ Q => fa ρ fun r ρ1 => fz r ρ1 fun d ρ2 => fr ρ2 fun ds ρ3 => Q (d :: ds) ρ3

section
variable {X : Cx} {bx : Bx} {a b e : Expr} {es : List Expr} {fa fb : WE} {fr : WA} {pos : Pos} {x : Str} {p : Pos}
theorem a_nil : A3 X bx [] wANil := ⟨PA.weaken pa_nil fun σ H Q ⟨F, ρ, G, P, st, h, hQ⟩ => hQ _ ρ [] G H h (Same.refl G) st .nil⟩
theorem a_cons (ha : E3 X bx e fa) (hr : A3 X bx es fr) (hs : starEach (e :: es) X.env = (false, eval e X.env) :: starEach es X.env := by rfl) : A3 X bx (e :: es) (wACons fa fr) := by
  refine ⟨PA.weaken (pa_cons ha.pe hr.pa hs) fun σ H Q ⟨F, ρ, G, P, st, h, hQ⟩ => ⟨F, ρ, G, _, st, h, fun r ρ1 v G1 H1 h1 g1 st1 rr1 => ?_⟩⟩
  obtain ⟨d, ρ2, G2, h2, g2, st2, rd⟩ := fz_ok st1 rr1 h1
  exact ⟨F, ρ2, G2, _, st2, h2, fun ds ρ3 vs G3 H3 h3 g3 st3 rl => hQ _ _ _ _ _ h3 (g1.trans (g2.trans g3)) st3 (.cons (rd.mono g3) rl)⟩

/-! ### displays -/
def wTup (f : WA) : WE := fun ρ Q => f ρ fun ds ρ1 => ds.length ≤ sizeLine ∧ Q (.val (.tup ds)) ρ1
def wLst (f : WA) : WE := fun ρ Q => f ρ fun ds ρ1 => ds.length ≤ sizeLine ∧ Q (.new (.lst ds)) ρ1
theorem e_tup {k} (h : A3 X bx es fr) : E3 X bx (.Tuple es k pos) (wTup fr) := by
  refine ⟨PE.weaken (pe_tup h.pa) fun σ H Q ⟨F, ρ, G, P, st, h, hQ⟩ => ⟨F, ρ, G, _, st, h, fun ds ρ1 vs G1 H1 h1 g1 st1 rl => ?_⟩⟩
  have R := res_of st1 (P := fun r => P r ρ1) fun r v G' H' h g st rr => hQ r ρ1 v G' H' h (g1.trans g) st rr
  exact ⟨by rw [rl.length]; exact h1.1, fun q hq => R.tup _ _ q h1.2 hq rl⟩
theorem e_lst (h : A3 X bx es fr) : E3 X bx (.List es pos) (wLst fr) := by
  refine ⟨PE.weaken (pe_lst h.pa) fun σ H Q ⟨F, ρ, G, P, st, h, hQ⟩ => ⟨F, ρ, G, _, st, h, fun ds ρ1 vs G1 H1 h1 g1 st1 rl => ?_⟩⟩
  have R := res_of st1 (P := fun r => P r ρ1) fun r v G' H' h g st rr => hQ r ρ1 v G' H' h (g1.trans g) st rr
  exact ⟨by rw [rl.length]; exact h1.1, fun q hq => R.lst _ _ q h1.2 hq rl⟩

/-! ### built-ins of one thing, of two -/
abbrev Call1 (X : Cx) (bx : Bx) (f : Value) (dop : UOp) : Prop := CallR X f (fun xs H Q => ∃ x, xs = [x] ∧ rU1 X.K bx dop x H Q)
abbrev Call2 (X : Cx) (bx : Bx) (f : Value) (dop : DOp) : Prop := CallR X f (fun xs H Q => ∃ x y, xs = [x, y] ∧ rD X.K bx dop x y H Q)
theorem e_callB {id : String} {dop : UOp} (hc : Call1 X bx (.builtin id) dop) (ha : E3 X bx a fa) (hm : X.mg x = none) (hg : Gl X x := by rfl) (hv : bootBuiltins x = some (.builtin id) := by decide +kernel) (hn : x ≠ "__name__" := by decide) (hdb : (x == ("__debug__" : Str)) = false := by decide)
    (he : starEach [a] X.env = (false, eval a X.env) :: starEach [] X.env := by rfl) : E3 X bx (.Call (.Name x p) [a] [] pos) (wUn dop fa) :=
  ⟨PE.weaken (pe_callB hc hg hm hv (pa_cons ha.pe pa_nil he) hn hdb he rfl) fun σ H Q h => by
    obtain ⟨F, ρ, G, P, st, hf, hQ⟩ := lE_un σ H Q h
    exact ⟨F, ρ, G, P, st, hf, fun r ρ' v G' H' h1 h2 h3 h4 => ⟨v, rfl, hQ r ρ' v G' H' h1 h2 h3 h4⟩⟩⟩
theorem e_callTy {T : String} {dop : UOp} (hc : Call1 X bx (.type T) dop) (ha : E3 X bx a fa) (hm : X.mg x = none) (hg : Gl X x := by rfl) (hv : bootBuiltins x = some (.type T) := by decide +kernel) (hn : x ≠ "__name__" := by decide) (hdb : (x == ("__debug__" : Str)) = false := by decide)
    (he : starEach [a] X.env = (false, eval a X.env) :: starEach [] X.env := by rfl) : E3 X bx (.Call (.Name x p) [a] [] pos) (wUn dop fa) :=
  ⟨PE.weaken (pe_callTy hc hg hm hv (pa_cons ha.pe pa_nil he) hn hdb he rfl) fun σ H Q h => by
    obtain ⟨F, ρ, G, P, st, hf, hQ⟩ := lE_un σ H Q h
    exact ⟨F, ρ, G, P, st, hf, fun r ρ' v G' H' h1 h2 h3 h4 => ⟨v, rfl, hQ r ρ' v G' H' h1 h2 h3 h4⟩⟩⟩
theorem e_callB2 {id : String} {dop : DOp} (hc : Call2 X bx (.builtin id) dop) (ha : E3 X bx a fa) (hb : E3 X bx b fb) (hm : X.mg x = none) (hg : Gl X x := by rfl) (hv : bootBuiltins x = some (.builtin id) := by decide +kernel) (hn : x ≠ "__name__" := by decide) (hdb : (x == ("__debug__" : Str)) = false := by decide)
    (he : starEach [a, b] X.env = (false, eval a X.env) :: starEach [b] X.env := by rfl) (he2 : starEach [b] X.env = (false, eval b X.env) :: starEach [] X.env := by rfl) (hpl : (backTo pos (starEach [b] X.env)).any (·.1) = false := by rfl) : E3 X bx (.Call (.Name x p) [a, b] [] pos) (wBin dop fa fb) :=
  ⟨PE.weaken (pe_callB hc hg hm hv (pa_cons ha.pe (pa_cons hb.pe pa_nil he2) he) hn hdb he hpl) fun σ H Q h => by
    obtain ⟨F, ρ, G, P, st, hf, hQ⟩ := lE_bin σ H Q h
    refine ⟨F, ρ, G, P, st, hf, fun r ρ' v G' H' h1 h2 h3 h4 => ?_⟩
    obtain ⟨F2, ρ2, G2, P2, st2, hf2, hQ2⟩ := hQ r ρ' v G' H' h1 h2 h3 h4
    exact ⟨F2, ρ2, G2, P2, st2, hf2, fun r ρ' v2 G' H' h1 h2 h3 h4 => ⟨v, v2, rfl, hQ2 r ρ' v2 G' H' h1 h2 h3 h4⟩⟩⟩

def lenD : UOp
  | .str s, P => s.length ≤ sizeLine ∧ P (.val (.int s.length))
  | .tup l, P => P (.val (.int l.length))
  | .lst l, P => P (.val (.int l.length))
  | .dik l, P => P (.val (.int l.length))
  | _, _ => False
theorem RepK.length {K : PySem.W.Frag} {B : Addr} {G : Hp} : ∀ {vs : List (Key × V)} {ds : List (Key × D)}, RepK K B G vs ds → vs.length = ds.length
  | _, _, .nil => rfl
  | _, _, .cons _ _ r => by simp [RepK.length r]
theorem c_len : Call1 X bx (.builtin "len") lenD := by
  rintro pins s σ H xs us Q I r ⟨v, rfl, G, d, P, g, v1, h, R⟩
  unfold lenD at h
  split at h
  · obtain ⟨rfl, _⟩ := view_str v1
    refine call_len_str pins s σ H _ us Q I r ⟨_, rfl, by rw [str_len]; exact h.1, ?_⟩
    rw [str_len]
    exact R.val _ _ h.2 (.int _)
  · obtain ⟨a, vs, rfl, s1, r1, _⟩ := view_tup g v1
    refine call_len_seq pins s σ H _ us Q I r ⟨a, vs, rfl, .inr s1, ?_⟩
    rw [r1.length]
    exact R.val _ _ h (.int _)
  · obtain ⟨a, vs, rfl, s1, r1⟩ := view_lst g v1
    refine call_len_seq pins s σ H _ us Q I r ⟨a, vs, rfl, .inl (.inl (.inl s1)), ?_⟩
    rw [r1.length]
    exact R.val _ _ h (.int _)
  · obtain ⟨a, vs, rfl, s1, r1⟩ := view_dik g v1
    refine call_lenD pins s σ H _ us Q I r ⟨a, vs, rfl, s1, ?_⟩
    rw [r1.length]
    exact R.val _ _ h (.int _)
  · exact h.elim
def absD : UOp
  | .int i, P => P (.val (.int (if i < 0 then -i else i)))
  | _, _ => False
theorem c_abs : Call1 X bx (.builtin "abs") absD := by
  rintro pins s σ H xs us Q I r ⟨v, rfl, G, d, P, g, v1, h, R⟩
  unfold absD at h
  split at h
  · obtain rfl := view_int v1
    exact call_abs pins s σ H _ us Q I r ⟨_, rfl, R.val _ _ h (.int _)⟩
  · exact h.elim
def intD : UOp
  | .int i, P => P (.val (.int i))
  | .bl b, P => P (.val (.int (if b then 1 else 0)))
  | _, _ => False
theorem c_int : Call1 X bx (.type "int") intD := by
  rintro pins s σ H xs us Q I r ⟨v, rfl, G, d, P, g, v1, h, R⟩
  unfold intD at h
  split at h
  · obtain rfl := view_int v1
    exact call_int1 pins s σ H _ us Q I r (.inl ⟨_, rfl, R.val _ _ h (.int _)⟩)
  · obtain rfl := view_bl v1
    exact call_int1 pins s σ H _ us Q I r (.inr ⟨_, rfl, R.val _ _ h (.int _)⟩)
  · exact h.elim
def tupleD : UOp
  | .tup l, P => P (.val (.tup l))
  | .lst l, P => P (.val (.tup l))
  | _, _ => False
theorem c_tuple : Call1 X bx (.type "tuple") tupleD := by
  rintro pins s σ H xs us Q I r ⟨v, rfl, G, d, P, g, v1, h, R⟩
  unfold tupleD at h
  split at h
  · obtain ⟨a, vs, rfl, s1, r1, q1⟩ := view_tup g v1
    exact call_tuple_of pins s σ H _ us Q I r ⟨a, vs, rfl, .inr ⟨s1, R.val _ _ h q1⟩⟩
  · obtain ⟨a, vs, rfl, s1, r1⟩ := view_lst g v1
    exact call_tuple_of pins s σ H _ us Q I r ⟨a, vs, rfl, .inl ⟨.inl (.inl s1), fun l hl => R.tup _ _ l h hl r1⟩⟩
  · exact h.elim
def listD : UOp
  | .tup l, P => P (.new (.lst l))
  | .lst l, P => P (.new (.lst l))
  | _, _ => False
theorem c_list : Call1 X bx (.type "list") listD := by
  rintro pins s σ H xs us Q I r ⟨v, rfl, G, d, P, g, v1, h, R⟩
  unfold listD at h
  split at h
  · obtain ⟨a, vs, rfl, s1, r1, q1⟩ := view_tup g v1
    exact call_list_of pins s σ H _ us Q I r ⟨a, vs, rfl, .inr s1, fun l hl => R.lst _ _ l h hl r1⟩
  · obtain ⟨a, vs, rfl, s1, r1⟩ := view_lst g v1
    exact call_list_of pins s σ H _ us Q I r ⟨a, vs, rfl, .inl (.inl (.inl s1)), fun l hl => R.lst _ _ l h hl r1⟩
  · exact h.elim

/-! ### lists of bools, of ints -/
def isBl : D → Bool
  | .bl _ => true
  | _ => false
def blOf : D → Bool
  | .bl b => b
  | _ => false
def isInt : D → Bool
  | .int _ => true
  | _ => false
def intOf : D → Int
  | .int i => i
  | _ => 0
theorem RepL.bls {K : PySem.W.Frag} {B : Addr} {G : Hp} : ∀ {vs : List V} {ds : List D}, RepL K B G vs ds → ds.all isBl = true → vs = (ds.map blOf).map V.bl
  | _, _, .nil, _ => rfl
  | _, _, .cons (d := d) a r, h => by
    rw [List.all_cons, Bool.and_eq_true] at h
    cases d <;> first
      | exact absurd (show false = true from h.1) (by decide)
      | skip
    cases a
    rw [RepL.bls r h.2]; rfl
theorem RepL.ints {K : PySem.W.Frag} {B : Addr} {G : Hp} : ∀ {vs : List V} {ds : List D}, RepL K B G vs ds → ds.all isInt = true → vs = (ds.map intOf).map V.int
  | _, _, .nil, _ => rfl
  | _, _, .cons (d := d) a r, h => by
    rw [List.all_cons, Bool.and_eq_true] at h
    cases d <;> first
      | exact absurd (show false = true from h.1) (by decide)
      | skip
    cases a
    rw [RepL.ints r h.2]; rfl
def allD : UOp
  | .lst l, P => l.all isBl = true ∧ P (.val (.bl (l.all blOf)))
  | _, _ => False
def anyD : UOp
  | .lst l, P => l.all isBl = true ∧ P (.val (.bl (l.any blOf)))
  | _, _ => False
theorem all_map_id (l : List D) : (l.map blOf).all id = l.all blOf := by rw [List.all_map]; rfl
theorem any_map_id (l : List D) : (l.map blOf).any id = l.any blOf := by rw [List.any_map]; rfl
theorem c_all (hc : X.calm = true) : Call1 X bx (.builtin "all") allD := by
  rintro pins s σ H xs us Q I r ⟨v, rfl, G, d, P, g, v1, h, R⟩
  unfold allD at h
  split at h
  · obtain ⟨a, vs, rfl, s1, r1⟩ := view_lst g v1
    have e := r1.bls h.1
    subst e
    exact cr_all hc pins s σ H _ us Q I r ⟨a, _, rfl, .inl (.inl s1), by rw [all_map_id]; exact R.val _ _ h.2 (.bl _)⟩
  · exact h.elim
theorem c_any (hc : X.calm = true) : Call1 X bx (.builtin "any") anyD := by
  rintro pins s σ H xs us Q I r ⟨v, rfl, G, d, P, g, v1, h, R⟩
  unfold anyD at h
  split at h
  · obtain ⟨a, vs, rfl, s1, r1⟩ := view_lst g v1
    have e := r1.bls h.1
    subst e
    exact cr_any hc pins s σ H _ us Q I r ⟨a, _, rfl, .inl (.inl s1), by rw [any_map_id]; exact R.val _ _ h.2 (.bl _)⟩
  · exact h.elim
def sumD : UOp
  | .lst l, P => l.all isInt = true ∧ P (.val (.int (l.map intOf).sum))
  | _, _ => False
theorem c_sum (hc : X.calm = true) : Call1 X bx (.builtin "sum") sumD := by
  rintro pins s σ H xs us Q I r ⟨v, rfl, G, d, P, g, v1, h, R⟩
  unfold sumD at h
  split at h
  · obtain ⟨a, vs, rfl, s1, r1⟩ := view_lst g v1
    have e := r1.ints h.1
    subst e
    exact cr_sum hc pins s σ H _ us Q I r ⟨a, _, rfl, .inl (.inl s1), R.val _ _ h.2 (.int _)⟩
  · exact h.elim
/-- greatest, least of a list of ints that is not empty -/
def maxI : List Int → Int
  | [] => 0
  | [x] => x
  | x :: y :: r => max x (maxI (y :: r))
def minI : List Int → Int
  | [] => 0
  | [x] => x
  | x :: y :: r => min x (minI (y :: r))
theorem maxI_spec : ∀ {l : List Int}, l ≠ [] → maxI l ∈ l ∧ ∀ y ∈ l, y ≤ maxI l
  | [], h => absurd rfl h
  | [x], _ => by simp [maxI]
  | x :: y :: r, _ => by
    obtain ⟨h1, h2⟩ := maxI_spec (l := y :: r) (by simp)
    simp only [maxI]
    constructor
    · rcases Int.le_total x (maxI (y :: r)) with h | h
      · rw [Int.max_eq_right h]; exact List.mem_cons_of_mem _ h1
      · rw [Int.max_eq_left h]; exact List.mem_cons_self
    · intro z hz
      rcases List.mem_cons.mp hz with rfl | hz
      · omega
      · have := h2 z hz; omega
theorem minI_spec : ∀ {l : List Int}, l ≠ [] → minI l ∈ l ∧ ∀ y ∈ l, minI l ≤ y
  | [], h => absurd rfl h
  | [x], _ => by simp [minI]
  | x :: y :: r, _ => by
    obtain ⟨h1, h2⟩ := minI_spec (l := y :: r) (by simp)
    simp only [minI]
    constructor
    · rcases Int.le_total x (minI (y :: r)) with h | h
      · rw [Int.min_eq_left h]; exact List.mem_cons_self
      · rw [Int.min_eq_right h]; exact List.mem_cons_of_mem _ h1
    · intro z hz
      rcases List.mem_cons.mp hz with rfl | hz
      · omega
      · have := h2 z hz; omega
def maxD : UOp
  | .lst l, P => l.all isInt = true ∧ l ≠ [] ∧ P (.val (.int (maxI (l.map intOf))))
  | _, _ => False
def minD : UOp
  | .lst l, P => l.all isInt = true ∧ l ≠ [] ∧ P (.val (.int (minI (l.map intOf))))
  | _, _ => False
theorem c_max1 (hc : X.calm = true) : Call1 X bx (.builtin "max") maxD := by
  rintro pins s σ H xs us Q I r ⟨v, rfl, G, d, P, g, v1, h, R⟩
  unfold maxD at h
  split at h
  · rename_i l
    obtain ⟨a, vs, rfl, s1, r1⟩ := view_lst g v1
    have e := r1.ints h.1
    subst e
    have hne : l.map intOf ≠ [] := fun e => h.2.1 (List.map_eq_nil_iff.mp e)
    refine cr_max hc pins s σ H _ us Q I r ⟨a, _, rfl, .inl (.inl s1), List.length_pos_iff.mpr hne, fun m hm hy => ?_⟩
    obtain ⟨h1, h2⟩ := maxI_spec hne
    have e : m = maxI (l.map intOf) := Int.le_antisymm (h2 m hm) (hy _ h1)
    rw [e]
    exact R.val _ _ h.2.2 (.int _)
  · exact h.elim
theorem c_min1 (hc : X.calm = true) : Call1 X bx (.builtin "min") minD := by
  rintro pins s σ H xs us Q I r ⟨v, rfl, G, d, P, g, v1, h, R⟩
  unfold minD at h
  split at h
  · rename_i l
    obtain ⟨a, vs, rfl, s1, r1⟩ := view_lst g v1
    have e := r1.ints h.1
    subst e
    have hne : l.map intOf ≠ [] := fun e => h.2.1 (List.map_eq_nil_iff.mp e)
    refine cr_min hc pins s σ H _ us Q I r ⟨a, _, rfl, .inl (.inl s1), List.length_pos_iff.mpr hne, fun m hm hy => ?_⟩
    obtain ⟨h1, h2⟩ := minI_spec hne
    have e : m = minI (l.map intOf) := Int.le_antisymm (hy _ h1) (h2 m hm)
    rw [e]
    exact R.val _ _ h.2.2 (.int _)
  · exact h.elim
def max2D : DOp
  | .int i, .int j, P => P (.val (.int (max i j)))
  | _, _, _ => False
def min2D : DOp
  | .int i, .int j, P => P (.val (.int (min i j)))
  | _, _, _ => False
theorem c_max2 (hc : X.calm = true) : Call2 X bx (.builtin "max") max2D := by
  rintro pins s σ H xs us Q I r ⟨v, w, rfl, G, d, d2, P, g, v1, v2, h, R⟩
  unfold max2D at h
  split at h
  · rename_i i j
    obtain rfl := view_int v1
    obtain rfl := view_int v2
    refine call_max2 hc pins s σ H _ us Q I r ⟨_, _, rfl, ?_⟩
    have e : (if j > i then j else i) = max i j := by split <;> omega
    rw [e]
    exact R.val _ _ h (.int _)
  · exact h.elim
theorem c_min2 (hc : X.calm = true) : Call2 X bx (.builtin "min") min2D := by
  rintro pins s σ H xs us Q I r ⟨v, w, rfl, G, d, d2, P, g, v1, v2, h, R⟩
  unfold min2D at h
  split at h
  · rename_i i j
    obtain rfl := view_int v1
    obtain rfl := view_int v2
    refine call_min2 hc pins s σ H _ us Q I r ⟨_, _, rfl, ?_⟩
    have e : (if j < i then j else i) = min i j := by split <;> omega
    rw [e]
    exact R.val _ _ h (.int _)
  · exact h.elim

/-! ### isinstance -/
def isiN (T A : String) : Bool := T == A || (A == "bool" && T == "int")
def isiD (T : String) : D → Bool
  | .non => isiN T "NoneType"
  | .bl _ => isiN T "bool"
  | .int _ => isiN T "int"
  | .str _ => isiN T "str"
  | .tup _ => isiN T "tuple"
  | .lst _ => isiN T "list"
  | .dik _ => isiN T "dict"
  | .ty _ => false
  | .box => false
def isiU (T : String) : UOp := fun d P => match d with
  | .ty _ => False
  | .box => False
  | d => P (.val (.bl (isiD T d)))
theorem tyX_tup {K : PySem.W.Frag} {H : Hp} {a : Addr} {vs : List V} (h : SqT K H a vs) : TyX K H (.ref a) (.type "tuple") := by
  rcases h with (h | ⟨o, h⟩) | ⟨o, its, n, hk, hc, _⟩
  · exact .base (.tup h)
  · exact .fTuple h
  · exact .kTuple hk hc
theorem c_isi {T : String} (hT : T = "int" ∨ T = "str" ∨ T = "bool" ∨ T = "tuple" ∨ T = "list" ∨ T = "dict") : CallR X (.builtin "isinstance") (fun xs H Q => ∃ x, xs = [x, .ty T] ∧ rU1 X.K bx (isiU T) x H Q) := by
  rintro pins s σ H xs us Q I r ⟨v, rfl, G, d, P, g, v1, h, R⟩
  have key : ∀ (A : String) (b : Bool), TyX X.K H v (.type A) → kitB A T = some b → Q (.bl b) H → wpAny (model X.prog X.w) X.A (call (.builtin "isinstance") us) (EP X pins σ Q) X.xe s :=
    fun A b t k q => call_isi pins s σ H _ us Q I r ⟨v, .ty T, .type A, .type T, b, rfl, .ty T, t, kit_ty k, q⟩
  unfold isiU at h
  split at h
  · exact h.elim
  · exact h.elim
  · rename_i hn1 hn2
    cases d with
    | ty n => exact absurd rfl (hn1 n)
    | box => exact absurd rfl hn2
    | non =>
      obtain rfl := view_non v1
      refine key _ _ (.base .non) ?_ (R.val _ _ h (.bl _))
      show kitB "NoneType" T = some (isiN T "NoneType")
      rcases hT with rfl | rfl | rfl | rfl | rfl | rfl <;> decide +kernel
    | bl b =>
      obtain rfl := view_bl v1
      refine key _ _ (.base (.bl _)) ?_ (R.val _ _ h (.bl _))
      show kitB "bool" T = some (isiN T "bool")
      rcases hT with rfl | rfl | rfl | rfl | rfl | rfl <;> decide +kernel
    | int i =>
      obtain rfl := view_int v1
      refine key _ _ (.base (.int _)) ?_ (R.val _ _ h (.bl _))
      show kitB "int" T = some (isiN T "int")
      rcases hT with rfl | rfl | rfl | rfl | rfl | rfl <;> decide +kernel
    | str s =>
      obtain ⟨rfl, _⟩ := view_str v1
      refine key _ _ (.base (.str _)) ?_ (R.val _ _ h (.bl _))
      show kitB "str" T = some (isiN T "str")
      rcases hT with rfl | rfl | rfl | rfl | rfl | rfl <;> decide +kernel
    | tup l =>
      obtain ⟨a, vs, rfl, s1, r1, _⟩ := view_tup g v1
      refine key _ _ (tyX_tup s1) ?_ (R.val _ _ h (.bl _))
      show kitB "tuple" T = some (isiN T "tuple")
      rcases hT with rfl | rfl | rfl | rfl | rfl | rfl <;> decide +kernel
    | lst l =>
      obtain ⟨a, vs, rfl, s1, r1⟩ := view_lst g v1
      refine key _ _ (.base (.lst s1)) ?_ (R.val _ _ h (.bl _))
      show kitB "list" T = some (isiN T "list")
      rcases hT with rfl | rfl | rfl | rfl | rfl | rfl <;> decide +kernel
    | dik l =>
      obtain ⟨a, vs, rfl, s1, r1⟩ := view_dik g v1
      refine key _ _ (.base (.dK s1)) ?_ (R.val _ _ h (.bl _))
      show kitB "dict" T = some (isiN T "dict")
      rcases hT with rfl | rfl | rfl | rfl | rfl | rfl <;> decide +kernel
def wIsi (T : String) (fa : WE) : WE := wUn (isiU T) fa
theorem e_isi {y : Str} {T : String} {p2 : Pos} (hT : T = "int" ∨ T = "str" ∨ T = "bool" ∨ T = "tuple" ∨ T = "list" ∨ T = "dict") (ha : E3 X bx a fa) (hm : X.mg "isinstance" = none) (hmT : X.mg y = none)
    (hvT : bootBuiltins y = some (.type T) := by decide +kernel) (hg : Gl X "isinstance" := by rfl) (hgT : Gl X y := by rfl) (hn : y ≠ "__name__" := by decide) (hdT : (y == ("__debug__" : Str)) = false := by decide)
    (he : starEach [a, .Name y p2] X.env = (false, eval a X.env) :: starEach [.Name y p2] X.env := by rfl) : E3 X bx (.Call (.Name "isinstance" p) [a, .Name y p2] [] pos) (wIsi T fa) :=
  ⟨PE.weaken (pe_callB (c_isi (bx := bx) hT) hg hm (by decide +kernel) (pa_cons ha.pe (pa_cons (pe_bltn (v := .ty T) hgT hmT hvT rfl hn hdT) pa_nil rfl) he) (by decide) (by decide) he rfl) fun σ H Q h => by
    obtain ⟨F, ρ, G, P, st, hf, hQ⟩ := lE_un σ H Q h
    exact ⟨F, ρ, G, P, st, hf, fun r ρ' v G' H' h1 h2 h3 h4 => ⟨v, rfl, hQ r ρ' v G' H' h1 h2 h3 h4⟩⟩⟩

/-! ### subscripts, slices -/
def ixD : DOp
  | .tup l, .int i, P => ∃ d, atI l i = some d ∧ P (.val d)
  | .lst l, .int i, P => ∃ d, atI l i = some d ∧ P (.val d)
  | .str l, .int i, P => l.length ≤ sizeLine ∧ ∃ c, atI l i = some c ∧ P (.val (.str [c]))
  | _, _, _ => False
theorem RepL.atI {K : PySem.W.Frag} {B : Addr} {G : Hp} {vs : List V} {ds : List D} {i : Int} {d : D} (r : RepL K B G vs ds) (h : atI ds i = some d) : ∃ v, L2.atI vs i = some v ∧ Rep K B G v d := by
  unfold L2.atI at *
  rw [r.length]
  cases e : ixN ds.length i with
  | none => rw [e] at h; cases h
  | some j =>
    rw [e] at h
    exact r.get h
theorem atI_mem {α : Type} {l : List α} {i : Int} {c : α} (h : atI l i = some c) : c ∈ l := by
  unfold L2.atI at h
  cases e : ixN l.length i with
  | none => rw [e] at h; cases h
  | some j =>
    rw [e] at h
    exact List.mem_of_getElem? h
theorem xD : IxR X (rD X.K bx ixD) := by
  intro value slice pins s σ H x y v u Q I rx ry ⟨G, d1, d2, P, g, v1, v2, h, R⟩ hs
  unfold ixD at h
  split at h
  · obtain ⟨d, e, h⟩ := h
    obtain ⟨a, vs, rfl, s1, r1, _⟩ := view_tup g v1
    obtain rfl := view_int v2
    obtain ⟨w, e1, q⟩ := r1.atI e
    exact ix_tup value slice pins s σ H _ _ v u Q I rx ry ⟨a, vs, _, w, rfl, rfl, s1, e1, R.val _ _ h q⟩ hs
  · obtain ⟨d, e, h⟩ := h
    obtain ⟨a, vs, rfl, s1, r1⟩ := view_lst g v1
    obtain rfl := view_int v2
    obtain ⟨w, e1, q⟩ := r1.atI e
    exact ix_list value slice pins s σ H _ _ v u Q I rx ry ⟨a, vs, _, w, rfl, rfl, .inl (.inl s1), e1, R.val _ _ h q⟩ hs
  · obtain ⟨h1, c, e, h⟩ := h
    obtain ⟨rfl, o1⟩ := view_str v1
    obtain rfl := view_int v2
    refine ix_str value slice pins s σ H _ _ v u Q I rx ry ⟨_, _, c, rfl, rfl, by rw [str_len]; exact h1, e, R.val _ _ h (.str (s := [c]) ?_)⟩ hs
    refine okS_sub (fun c' hc => ?_) o1
    rw [List.mem_singleton] at hc
    rw [hc]; exact atI_mem e
  · exact h.elim
theorem e_ix (ha : E3 X bx a fa) (hb : E3 X bx b fb) (hs : PlainIx b := by exact fun _ _ => rfl) : E3 X bx (.Subscript a b pos) (wBin ixD fa fb) := ⟨PE.weaken (pe_ix xD ha.pe hb.pe hs) lE_bin⟩

abbrev WO := Env3 → (Option Int → Env3 → Prop) → Prop
def lO (K : PySem.W.Frag) (bx : Bx) (f : WO) : TO := fun σ H Q => ∃ F ρ G P, Stt K bx F ρ σ G H ∧ f ρ P ∧ ∀ o ρ' G' H', P o ρ' → Same G G' → Stt K bx F ρ' σ G' H' → Q o H'
structure O3 (X : Cx) (bx : Bx) (e : Option Expr) (f : WO) : Prop where
  po : PO X e (lO X.K bx f)
def wONone : WO := fun ρ Q => Q none ρ
def wOSome (fa : WE) : WO := fun ρ Q => fa ρ fun r ρ1 => pk r ρ1 fun d => match d with
  | .int i => Q (some i) ρ1
  | _ => False
theorem PO.weaken {X : Cx} {e : Option Expr} {t t' : TO} (h : PO X e t) (w : ∀ σ H Q, t' σ H Q → t σ H Q) : PO X e t' :=
  ⟨fun pins s σ H Q I q => h.run pins s σ H Q I (w _ _ _ q)⟩
theorem o_none : O3 X bx none wONone := ⟨PO.weaken po_none fun σ H Q ⟨F, ρ, G, P, st, h, hQ⟩ => hQ _ ρ G H h (Same.refl G) st⟩
theorem o_some (ha : E3 X bx a fa) : O3 X bx (some a) (wOSome fa) := by
  refine ⟨PO.weaken (po_some ha.pe) fun σ H Q ⟨F, ρ, G, P, st, h, hQ⟩ => ⟨F, ρ, G, _, st, h, fun r ρ1 v G1 H1 h1 g1 st1 rr1 => ?_⟩⟩
  obtain ⟨d, h2, vw⟩ := pk_ok st1 rr1 h1
  split at h2
  · obtain rfl := view_int vw
    exact ⟨_, rfl, hQ _ _ _ _ h2 g1 st1⟩
  · exact h2.elim
def cut {α : Type} (l : List α) (lo hi : Option Int) : List α := (l.drop (HT.sIx l.length 0 lo)).take (HT.sIx l.length l.length hi - HT.sIx l.length 0 lo)
abbrev SOp := D → Option Int → Option Int → (R → Prop) → Prop
def slD : SOp
  | .str s, lo, hi, P => s.length ≤ sizeLine ∧ P (.val (.str (cut s lo hi)))
  | .tup l, lo, hi, P => P (.val (.tup (cut l lo hi)))
  | .lst l, lo, hi, P => P (.new (.lst (cut l lo hi)))
  | _, _, _, _ => False
def rS (K : PySem.W.Frag) (bx : Bx) (dop : SOp) : V → Option Int → Option Int → Hp → VK → Prop := fun x lo hi H Q => ∃ G d P, Same G H ∧ View K bx.adr G H x d ∧ dop d lo hi P ∧ Res K bx G H P Q
theorem cut_mem {α : Type} {l : List α} {lo hi : Option Int} {c : α} (h : c ∈ cut l lo hi) : c ∈ l := List.mem_of_mem_drop (List.mem_of_mem_take h)
theorem sD : SlR X (rS X.K bx slD) := by
  intro pins s σ H x v vl vu lo hi sl Q I rx hs pl pu ⟨G, d, P, g, v1, h, R⟩
  unfold slD at h
  split at h
  · rename_i s0
    obtain ⟨rfl, o1⟩ := view_str v1
    refine sl_str pins s σ H _ v vl vu _ _ sl Q I rx hs pl pu ⟨_, rfl, by rw [str_len]; exact h.1, ?_⟩
    have e : cutS ⟨s0.toArray⟩ lo hi = ⟨(cut s0 lo hi).toArray⟩ := by
      unfold cutS cut
      rw [str_len]
    rw [e]
    exact R.val _ _ h.2 (.str (okS_sub (fun c hc => cut_mem hc) o1))
  · rename_i l
    obtain ⟨a, vs, rfl, s1, r1, q1⟩ := view_tup g v1
    refine sl_tupA pins s σ H _ v vl vu _ _ sl Q I rx hs pl pu ⟨a, vs, rfl, s1, fun hw => ?_, fun _ p hp => ?_⟩
    · rw [r1.length] at hw
      have e : cut l lo hi = l := by
        unfold cut
        rw [hw.1, hw.2]
        simp
      rw [e] at h
      exact R.val _ _ h q1
    · refine R.tup _ _ p h hp ?_
      unfold cutV cut
      rw [r1.length]
      exact (r1.drop _).take _
  · rename_i l
    obtain ⟨a, vs, rfl, s1, r1⟩ := view_lst g v1
    refine sl_list pins s σ H _ v vl vu _ _ sl Q I rx hs pl pu ⟨a, vs, rfl, .inl (.inl s1), fun p hp => R.lst _ _ p h hp ?_⟩
    unfold cutV cut
    rw [r1.length]
    exact (r1.drop _).take _
  · exact h.elim
def wSl (fa : WE) (fl fu : WO) : WE := fun ρ Q => fa ρ fun r ρ1 => fl ρ1 fun lo ρ2 => fu ρ2 fun hi ρ3 => pk r ρ3 fun d => slD d lo hi fun r => Q r ρ3
theorem e_sl {lo hi : Option Expr} {fl fu : WO} {p2 : Pos} (ha : E3 X bx a fa) (hl : O3 X bx lo fl) (hu : O3 X bx hi fu) : E3 X bx (.Subscript a (.Slice lo hi none p2) pos) (wSl fa fl fu) := by
  refine ⟨PE.weaken (pe_slice (sD (bx := bx)) ha.pe hl.po hu.po) fun σ H Q ⟨F, ρ, G, P, st, h, hQ⟩ => ⟨F, ρ, G, _, st, h, fun r1 ρ1 w1 G1 H1 h1 g1 st1 rr1 => ?_⟩⟩
  refine ⟨pend F H1 r1 w1, ρ1, G1, _, pend_st st1 rr1, h1, fun o2 ρ2 G2 H2 h2 g2 st2 => ?_⟩
  refine ⟨pend F H1 r1 w1, ρ2, G2, _, st2, h2, fun o3 ρ3 G3 H3 h3 g3 st3 => ?_⟩
  obtain ⟨st3', rr3⟩ := pend_back st1 rr1 (g2.trans g3) st3
  obtain ⟨d, h4, vw⟩ := pk_ok st3' rr3 h3
  exact ⟨G3, d, _, st3'.gs, vw, h4, res_of st3' fun r v G' H' h g st rr => hQ r ρ3 v G' H' h (g1.trans (g2.trans (g3.trans g))) st rr⟩
end
end L2.W3

/-! W3, part e: calls of defs, what is walked, comprehensions, targets, statements, a def's promise. -/
namespace L2.W3
open PySem PySem.Spec PyProof.Rows

/-! ### what a def promises -/
abbrev Con := List D → (R → Prop) → Prop
def RetR (K : PySem.W.Frag) (bx : Bx) (F G H : Hp) (r : R) (v : V) : Prop :=
  match r with
  | .val d => Rep K bx.adr G v d
  | .new d => ∃ p, v = .ref p ∧ Sole K bx F G H p d
  | .slot _ => False
def spOf (K : PySem.W.Frag) (bx : Bx) (C : Con) : Sp := fun vs H Q _ => ∃ F G ds P, Fr3 bx F G H ∧ RepL K bx.adr G vs ds ∧ C ds P ∧ ∀ r v G' H', P r → Same G G' → Fr3 bx F G' H' → RetR K bx F G' H' r v → Q v H'

open Classical in
noncomputable def ownF (F : Hp) (ρ : Env3) (σ : L2.St) (H : Hp) : Hp := fun a => if ∃ i, Own ρ σ i a then H a else F a
section
variable {K : PySem.W.Frag} {bx : Bx} {F G G' H H' : Hp} {ρ ρ' : Env3} {σ : L2.St} {r : R} {v : V} {p : Addr} {d : D}
theorem ownF_in (h : ∃ i, Own ρ σ i p) : ownF F ρ σ H p = H p := by unfold ownF; rw [if_pos h]
theorem ownF_out (h : ¬ ∃ i, Own ρ σ i p) : ownF F ρ σ H p = F p := by unfold ownF; rw [if_neg h]
theorem Stt.own_at (st : Stt K bx F ρ σ G H) (h : ∃ i, Own ρ σ i p) : (∃ o, H p = some o) ∧ G p = none ∧ F p = none ∧ p ∉ bx.fp := by
  obtain ⟨i, ⟨d, e⟩, e1⟩ := h
  obtain ⟨q, e1', t, e2⟩ := st.ow i d e
  rw [e1] at e1'; cases e1'
  exact ⟨t.some, e2⟩
theorem own_fr (st : Stt K bx F ρ σ G H) : Fr3 bx (ownF F ρ σ H) G H := by
  refine ⟨st.gs, fun a o e => ?_, fun a o e => ?_, st.bi, fun a ha => ⟨(st.bg a ha).1, ?_⟩⟩
  · by_cases h : ∃ i, Own ρ σ i a
    · rw [ownF_in h] at e; exact e
    · rw [ownF_out h] at e; exact st.fs a o e
  · by_cases h : ∃ i, Own ρ σ i a
    · exact (st.own_at h).2.1
    · rw [ownF_out h] at e; exact st.fg a o e
  · by_cases h : ∃ i, Own ρ σ i a
    · exact absurd ha (st.own_at h).2.2.2
    · rw [ownF_out h]; exact (st.bg a ha).2
theorem own_back (st : Stt K bx F ρ σ G H) (g : Same G G') (fr : Fr3 bx (ownF F ρ σ H) G' H') : Stt K bx F ρ σ G' H' := by
  have out : ∀ a o, F a = some o → ¬ ∃ i, Own ρ σ i a := fun a o e h => by rw [(st.own_at h).2.2.1] at e; cases e
  refine ⟨⟨fr.gs, fun a o e => fr.fs a o (by rw [ownF_out (out a o e)]; exact e), fun a o e => fr.fg a o (by rw [ownF_out (out a o e)]; exact e), fr.bi, fun a ha => ⟨(fr.bg a ha).1, (st.bg a ha).2⟩⟩, st.len, fun i d e => ?_, fun i d e => ?_, st.dj⟩
  · obtain ⟨w, e1, q⟩ := st.vl i d e
    exact ⟨w, e1, q.mono g⟩
  · obtain ⟨q, e1, t, e2, e3⟩ := st.ow i d e
    have ho : ∃ i, Own ρ σ i q := ⟨i, ⟨d, e⟩, e1⟩
    obtain ⟨u, hu⟩ := t.some
    have hq : ownF F ρ σ H q = some u := by rw [ownF_in ho]; exact hu
    exact ⟨q, e1, (t.mono g).heap ((fr.fs q u hq).trans hu.symm), fr.fg q u hq, e3⟩
theorem ret_rep (st : Stt K bx F ρ σ G H) (fr : Fr3 bx (ownF F ρ σ H) G' H') (rr : RetR K bx (ownF F ρ σ H) G' H' r v) : RepR K bx F ρ σ G' H' r v := by
  cases r with
  | val d => exact rr
  | slot i => exact rr.elim
  | new d =>
    obtain ⟨p, rfl, t, gp, fp, bp⟩ := rr
    have no : ¬ ∃ i, Own ρ σ i p := fun h => by
      obtain ⟨⟨o, ho⟩, _⟩ := st.own_at h
      rw [ownF_in h, ho] at fp; cases fp
    rw [ownF_out no] at fp
    exact ⟨p, rfl, ⟨t, gp, fp, bp⟩, fun i hi => no ⟨i, hi⟩⟩
end
def wCall (C : Con) (fa : WA) : WE := fun ρ Q => fa ρ fun ds ρ1 => C ds fun r => Q r ρ1
section
variable {X : Cx} {bx : Bx} {a b e : Expr} {es : List Expr} {fa fb : WE} {fr : WA} {pos : Pos} {x : Str} {p : Pos} {C : Con}
theorem lE_call {K : PySem.W.Frag} {E : XK} (σ : L2.St) (H : Hp) (Q : VK) (h : lE K bx (wCall C fr) σ H Q) : tCall (spOf K bx C) [] E (lA K bx fr) σ H Q := by
  obtain ⟨F, ρ, G, P, st, h, hQ⟩ := h
  refine ⟨F, ρ, G, _, st, h, fun ds ρ1 vs G1 H1 h1 g1 st1 rl => ?_⟩
  refine ⟨ownF F ρ1 σ H1, G1, ds, _, own_fr st1, by rw [List.append_nil]; exact rl, h1, fun r v G2 H2 h2 g2 fr2 rr => ?_⟩
  exact hQ r ρ1 v G2 H2 h2 (g1.trans g2) (own_back st1 g2 fr2) (ret_rep st1 fr2 rr)
theorem e_call {k : Nat} {f : Addr} {fd : FuncData} {ps : List Str} (F : FnOk X.prog X.w X.K X.mg X.base CX0 k f fd ps (spOf X.K bx C)) (hr : Room k X.A) (hm : X.mg x = some (.ref f)) (hk : PySem.W.keepIn X.K (.ref f) = true) (hb : Binds X.K fd ps [])
    (ha : A3 X bx (e :: es) fr) (hg : Gl X x := by rfl) (hdb : (x == ("__debug__" : Str)) = false := by decide) (he : starEach (e :: es) X.env = (false, eval e X.env) :: starEach es X.env := by rfl) (hpl : (backTo pos (starEach es X.env)).any (·.1) = false := by rfl) :
    E3 X bx (.Call (.Name x p) (e :: es) [] pos) (wCall C fr) :=
  ⟨PE.weaken (pe_call F hr hg hm hk hb .nil pass0 ha.pa hdb he hpl) lE_call⟩
theorem e_call0 {k : Nat} {f : Addr} {fd : FuncData} {ps : List Str} (F : FnOk X.prog X.w X.K X.mg X.base CX0 k f fd ps (spOf X.K bx C)) (hr : Room k X.A) (hm : X.mg x = some (.ref f)) (hk : PySem.W.keepIn X.K (.ref f) = true) (hb : Binds X.K fd ps [])
    (hg : Gl X x := by rfl) (hdb : (x == ("__debug__" : Str)) = false := by decide) : E3 X bx (.Call (.Name x p) [] [] pos) (wCall C wANil) := by
  refine ⟨PE.weaken (pe_call0 F hr hg hm hk hb .nil pass0 hdb) fun σ H Q h => ?_⟩
  obtain ⟨F, ρ, G, P, st, h, hQ⟩ := h
  refine ⟨ownF F ρ σ H, G, [], _, own_fr st, .nil, h, fun r v G2 H2 h2 g2 fr2 rr => ?_⟩
  exact hQ r ρ v G2 H2 h2 g2 (own_back st g2 fr2) (ret_rep st fr2 rr)
end

/-! ### what is walked -/
/-- the iterator J goes over such data, once G is frozen -/
structure ItOk (K : PySem.W.Frag) (B : Addr) (G : Hp) (J : It) (items : List D) : Prop where
  go : ∀ i H, Same G H → i < items.length → J.go i H
  stop : ∀ i H, Same G H → items.length ≤ i → J.stop i H
  yld : ∀ i H x H', Same G H → i < items.length → J.yld i H x H' → ∃ d, items[i]? = some d ∧ ((H' = H ∧ Rep K B G x d) ∨ ∃ p vs l, x = .ref p ∧ H p = none ∧ H' = upd H p (.tup vs) ∧ d = .tup l ∧ RepL K B G vs l)
abbrev WI := Env3 → (List D → Env3 → Prop) → Prop
def lI (K : PySem.W.Frag) (bx : Bx) (f : WI) : TI := fun σ H R => ∃ F ρ G P, Stt K bx F ρ σ G H ∧ f ρ P ∧ ∀ items ρ' G' H' J, P items ρ' → Same G G' → Stt K bx F ρ' σ G' H' → ItOk K bx.adr G' J items → R J H'
structure I3 (X : Cx) (bx : Bx) (tg iter : Expr) (f : WI) : Prop where
  pi : PI X tg iter (lI X.K bx f)
theorem PI.weaken {X : Cx} {tg e : Expr} {t t' : TI} (h : PI X tg e t) (w : ∀ σ H Q, t' σ H Q → t σ H Q) : PI X tg e t' :=
  ⟨fun pins s σ H Q I q => h.run pins s σ H Q I (w _ _ _ q)⟩
def itemsD (d : D) (k : List D → Prop) : Prop :=
  match d with
  | .lst l => k l
  | .tup l => k l
  | .str s => s.length ≤ sizeLine ∧ k (s.map fun c => .str [c])
  | _ => False
def wIter (fa : WE) : WI := fun ρ Q => fa ρ fun r ρ1 => fz r ρ1 fun d ρ2 => itemsD d fun l => Q l ρ2
section
variable {K : PySem.W.Frag} {B : Addr} {G H : Hp}
theorem itok_list {a : Addr} {vs : List V} {l : List D} (h : G a = some (.lst vs)) (r : RepL K B G vs l) : ItOk K B G (Itl K a) l := by
  refine ⟨fun i H g hi => ?_, fun i H g hi => ⟨vs, .inl (.inl (g _ _ h)), by rw [r.length]; exact hi⟩, fun i H x H' g hi hy => ?_⟩
  · obtain ⟨v, hv, _⟩ := r.get (List.getElem?_eq_getElem hi)
    exact ⟨vs, v, .inl (.inl (g _ _ h)), hv⟩
  · obtain ⟨e, hx⟩ := hy
    obtain ⟨d, hd, q⟩ := r.getV (hx vs (.inl (.inl (g _ _ h))))
    exact ⟨d, hd, .inl ⟨e, q⟩⟩
theorem itok_tup {a : Addr} {vs : List V} {l : List D} (h : SqT K G a vs) (r : RepL K B G vs l) : ItOk K B G (Itt K a) l := by
  refine ⟨fun i H g hi => ?_, fun i H g hi => ⟨vs, sqT_mono g h, by rw [r.length]; exact hi⟩, fun i H x H' g hi hy => ?_⟩
  · obtain ⟨v, hv, _⟩ := r.get (List.getElem?_eq_getElem hi)
    exact ⟨vs, v, sqT_mono g h, hv⟩
  · obtain ⟨e, hx⟩ := hy
    obtain ⟨d, hd, q⟩ := r.getV (hx vs (sqT_mono g h))
    exact ⟨d, hd, .inl ⟨e, q⟩⟩
theorem itok_str {s : List Nat} (o : okS s = true) : ItOk K B G (Its ⟨s.toArray⟩) (s.map fun c => .str [c]) := by
  refine ⟨fun i H g hi => ?_, fun i H g hi => ?_, fun i H x H' g hi hy => ?_⟩
  · show i < (s.toArray).size
    simpa using hi
  · show (s.toArray).size ≤ i
    simpa using hi
  · obtain ⟨e, c, hc, rfl⟩ := hy
    have hc : s[i]? = some c := by simpa using hc
    refine ⟨.str [c], by rw [List.getElem?_map, hc]; rfl, .inl ⟨e, .str (s := [c]) ?_⟩⟩
    exact okS_sub (fun c' h => by rw [List.mem_singleton] at h; rw [h]; exact List.mem_of_getElem? hc) o
end
section
variable {X : Cx} {bx : Bx} {a b c e tg : Expr} {es : List Expr} {fa fb fc : WE} {fr : WA} {pos : Pos} {x : Str} {p : Pos}
/-- a list, a tuple, a text -/
def iAny (K : PySem.W.Frag) (te : TE) : TI := fun σ H R => te σ H fun x H1 => (∃ a, x = .ref a ∧ (∃ xs, SqL K H1 a xs) ∧ R (Itl K a) H1) ∨ (∃ a, x = .ref a ∧ (∃ xs, SqT K H1 a xs) ∧ R (Itt K a) H1) ∨ ∃ z, x = .str z ∧ R (Its z) H1
theorem pi_any {te : TE} (he : PE X e te) : PI X tg e (iAny X.K te) := by
  refine ⟨fun pins s σ H R I h => thn (he.run pins s σ H _ I h) fun v s1 ⟨x, H1, I1, r1, q1⟩ => ?_⟩
  rcases q1 with ⟨a, rfl, ⟨xs, hq⟩, q⟩ | ⟨a, rfl, ⟨xs, hq⟩, q⟩ | ⟨z, rfl, q⟩
  · cases r1
    obtain ⟨its, rv, pl, hz⟩ := I1.list hq
    refine wpAny_pyIter_list pl.isList ⟨s1.heap.objs.size, [s1.heap.objs.size], _, _, H1, rfl, I1.kept (t' := s1.toks) fun b o e => Heap.get?_push_of_some _ e, turn_list a _, ⟨_, Heap.get?_push_size _ rfl, rfl, rfl⟩, fun b hb => ?_, q⟩
    obtain rfl : b = s1.heap.objs.size := by simpa using hb
    exact I1.fpOk (Nat.le_refl _) (I1.hok.fresh (Nat.le_refl _))
  · cases r1
    obtain ⟨its, rv, pl, hz⟩ := I1.tuple hq
    refine wpAny_pyIter_tuple (show s1.heap.IsTuple a its.toArray from pl) ⟨s1.heap.objs.size, [s1.heap.objs.size], _, _, H1, rfl, I1.kept (t' := s1.toks) fun b o e => Heap.get?_push_of_some _ e, turn_tuple a _, ⟨_, Heap.get?_push_size _ rfl, rfl, rfl⟩, fun b hb => ?_, q⟩
    obtain rfl : b = s1.heap.objs.size := by simpa using hb
    exact I1.fpOk (Nat.le_refl _) (I1.hok.fresh (Nat.le_refl _))
  · obtain ⟨t, rfl⟩ := r1
    cases ha : z.cps.all (· < 128)
    · exact wpAny_pyIter_wide ha (pi_one (tk := s1.toks) I1 _ (turn_str _ z t _ (.inr rfl)) ⟨_, Heap.get?_push_size _ rfl, rfl, rfl⟩ q)
    · exact wpAny_pyIter_ascii ha (pi_one (tk := s1.toks) I1 _ (turn_str _ z t _ (.inl rfl)) ⟨_, Heap.get?_push_size _ rfl, rfl, rfl⟩ q)
theorem i_any (ha : E3 X bx a fa) : I3 X bx tg a (wIter fa) := by
  refine ⟨PI.weaken (pi_any ha.pe) fun σ H R ⟨F, ρ, G, P, st, h, hQ⟩ => ⟨F, ρ, G, _, st, h, fun r ρ1 v G1 H1 h1 g1 st1 rr1 => ?_⟩⟩
  obtain ⟨d, ρ2, G2, h2, g2, st2, rd⟩ := fz_ok st1 rr1 h1
  cases d with
  | lst l =>
    cases rd with
    | lst hg r => exact .inl ⟨_, rfl, ⟨_, .inl (.inl (st2.gs _ _ hg))⟩, hQ l ρ2 G2 _ _ h2 (g1.trans g2) st2 (itok_list hg r)⟩
  | tup l =>
    cases rd with
    | tup hg r => exact .inr (.inl ⟨_, rfl, ⟨_, sqT_mono st2.gs hg⟩, hQ l ρ2 G2 _ _ h2 (g1.trans g2) st2 (itok_tup hg r)⟩)
  | str s =>
    cases rd with
    | str o => exact .inr (.inr ⟨_, rfl, hQ _ ρ2 G2 _ _ h2.2 (g1.trans g2) st2 (itok_str o)⟩)
  | non => exact (show False from h2).elim
  | bl _ => exact (show False from h2).elim
  | int _ => exact (show False from h2).elim
  | dik _ => exact (show False from h2).elim
  | ty _ => exact (show False from h2).elim
  | box => exact (show False from h2).elim
/-- lo, lo + c, .. (n of them) -/
def rng (lo c : Int) (n : Nat) : List D := (List.range n).map fun (k : Nat) => D.int (lo + (k : Int) * c)
def asI (d : D) (k : Int → Prop) : Prop :=
  match d with
  | .int i => k i
  | _ => False
def SmallI (i : Int) : Prop := -(2 ^ 62) ≤ i ∧ i < 2 ^ 62
def wRng1 (fa : WA) : WI := fun ρ Q => fa ρ fun ds ρ1 => match ds with
  | [.int j] => SmallI j ∧ Q (rng 0 1 j.toNat) ρ1
  | _ => False
def wRng2 (fa : WA) : WI := fun ρ Q => fa ρ fun ds ρ1 => match ds with
  | [.int i, .int j] => SmallI i ∧ SmallI j ∧ Q (rng i 1 (j - i).toNat) ρ1
  | _ => False
/-- a range downwards by ones -/
def wRngD (fa : WA) : WI := fun ρ Q => fa ρ fun ds ρ1 => match ds with
  | [.int i, .int j, .int c] => c = -1 ∧ SmallI i ∧ SmallI j ∧ Q (rng i (-1) (i - j).toNat) ρ1
  | _ => False
theorem itok_rng {K : PySem.W.Frag} {B : Addr} {G : Hp} {lo : Int} {n : Nat} : ItOk K B G (Itr lo n) (rng lo 1 n) := by
  refine ⟨fun i H g hi => ?_, fun i H g hi => ?_, fun i H x H' g hi hy => ?_⟩
  · show i < n
    simpa [rng] using hi
  · show n ≤ i
    simpa [rng] using hi
  · obtain ⟨e, rfl⟩ := hy
    have hi : i < n := by simpa [rng] using hi
    exact ⟨.int (lo + i), by simp [rng, hi], .inl ⟨e, .int _⟩⟩
theorem itok_rngC {K : PySem.W.Frag} {B : Addr} {G : Hp} {lo c : Int} {n : Nat} : ItOk K B G (Itc lo c n) (rng lo c n) := by
  refine ⟨fun i H g hi => ?_, fun i H g hi => ?_, fun i H x H' g hi hy => ?_⟩
  · show i < n
    simpa [rng] using hi
  · show n ≤ i
    simpa [rng] using hi
  · obtain ⟨e, rfl⟩ := hy
    have hi : i < n := by simpa [rng] using hi
    exact ⟨.int (lo + (i : Nat) * c), by simp [rng, hi], .inl ⟨e, .int _⟩⟩
theorem repL1 {K : PySem.W.Frag} {B : Addr} {G : Hp} {vs : List V} {d : D} (r : RepL K B G vs [d]) : ∃ v, vs = [v] ∧ Rep K B G v d := by
  cases r with
  | cons a r => cases r; exact ⟨_, rfl, a⟩
theorem repL2 {K : PySem.W.Frag} {B : Addr} {G : Hp} {vs : List V} {d d2 : D} (r : RepL K B G vs [d, d2]) : ∃ v w, vs = [v, w] ∧ Rep K B G v d ∧ Rep K B G w d2 := by
  cases r with
  | cons a r =>
    obtain ⟨w, rfl, q⟩ := repL1 r
    exact ⟨_, _, rfl, a, q⟩
theorem rep_int {K : PySem.W.Frag} {B : Addr} {G : Hp} {v : V} {i : Int} (r : Rep K B G v (.int i)) : v = .int i := by cases r; rfl
theorem i_rng1 (ha : A3 X bx [a] fr) (hm : X.mg "range" = none) (hg : Gl X "range" := by rfl) (hs : starEach [a] X.env = [(false, eval a X.env)] := by rfl) : I3 X bx tg (.Call (.Name "range" p) [a] [] pos) (wRng1 fr) := by
  refine ⟨PI.weaken (pi_range1 hg hm ha.pa hs) fun σ H R ⟨F, ρ, G, P, st, h, hQ⟩ => ⟨F, ρ, G, _, st, h, fun ds ρ1 vs G1 H1 h1 g1 st1 rl => ?_⟩⟩
  split at h1
  · obtain ⟨v, rfl, r⟩ := repL1 rl
    obtain rfl := rep_int r
    exact ⟨_, rfl, h1.1.1, h1.1.2, hQ _ _ _ _ _ h1.2 g1 st1 itok_rng⟩
  · exact h1.elim
theorem i_rng2 (ha : A3 X bx [a, b] fr) (hm : X.mg "range" = none) (hg : Gl X "range" := by rfl) (hs : starEach [a, b] X.env = [(false, eval a X.env), (false, eval b X.env)] := by rfl) (hs2 : starEach [b] X.env = [(false, eval b X.env)] := by rfl) :
    I3 X bx tg (.Call (.Name "range" p) [a, b] [] pos) (wRng2 fr) := by
  refine ⟨PI.weaken (pi_range2 hg hm ha.pa hs hs2) fun σ H R ⟨F, ρ, G, P, st, h, hQ⟩ => ⟨F, ρ, G, _, st, h, fun ds ρ1 vs G1 H1 h1 g1 st1 rl => ?_⟩⟩
  split at h1
  · obtain ⟨v, w, rfl, r, r'⟩ := repL2 rl
    obtain rfl := rep_int r
    obtain rfl := rep_int r'
    exact ⟨_, _, rfl, ⟨h1.1.1, h1.1.2, h1.2.1.1, h1.2.1.2⟩, hQ _ _ _ _ _ h1.2.2 g1 st1 itok_rng⟩
  · exact h1.elim
theorem i_rngD (ha : A3 X bx [a, b, c] fr) (hm : X.mg "range" = none) (hg : Gl X "range" := by rfl) (hs : starEach [a, b, c] X.env = (false, eval a X.env) :: starEach [b, c] X.env := by rfl) (hpl : (backTo pos (starEach [b, c] X.env)).any (·.1) = false := by rfl) :
    I3 X bx tg (.Call (.Name "range" p) [a, b, c] [] pos) (wRngD fr) := by
  refine ⟨PI.weaken (pi_range3 hg hm ha.pa hs hpl) fun σ H R ⟨F, ρ, G, P, st, h, hQ⟩ => ⟨F, ρ, G, _, st, h, fun ds ρ1 vs G1 H1 h1 g1 st1 rl => ?_⟩⟩
  split at h1
  · cases rl with
    | cons r rl =>
      obtain ⟨v, w, rfl, r', r2⟩ := repL2 rl
      obtain rfl := rep_int r
      obtain rfl := rep_int r'
      obtain rfl := rep_int r2
      obtain ⟨rfl, h2, h3, h4⟩ := h1
      exact ⟨_, _, _, _, rfl, RgC.neg h2.1 h2.2 h3.1 h3.2, hQ _ _ _ _ _ h4 g1 st1 itok_rngC⟩
  · exact h1.elim
end
end L2.W3

/-! W3, part f: targets, comprehensions, statements. -/
namespace L2.W3
open PySem PySem.Spec PyProof.Rows

/-! ### targets -/
abbrev WG := D → Env3 → (Env3 → Prop) → Prop
/-- but for the slots ts all stands as it was -/
def But (ts : List Nat) (σ σ' : L2.St) : Prop := σ'.length = σ.length ∧ ∀ j, j ∉ ts → σ'[j]? = σ[j]?
theorem But.refl (ts : List Nat) (σ : L2.St) : But ts σ σ := ⟨rfl, fun _ _ => rfl⟩
theorem But.trans {ts us : List Nat} {σ σ' σ'' : L2.St} (h : But ts σ σ') (h' : But us σ' σ'') : But (ts ++ us) σ σ'' :=
  ⟨h'.1.trans h.1, fun j hj => (h'.2 j fun z => hj (List.mem_append_right _ z)).trans (h.2 j fun z => hj (List.mem_append_left _ z))⟩
def lG (K : PySem.W.Frag) (bx : Bx) (ts : List Nat) (g : WG) : TG := fun v σ H Q => ∃ F ρ G d P, Stt K bx F ρ σ G H ∧ Rep K bx.adr G v d ∧ g d ρ P ∧ ∀ ρ' σ' G' H', P ρ' → Same G G' → Stt K bx F ρ' σ' G' H' → But ts σ σ' → Q σ' H'
def lGs (K : PySem.W.Frag) (bx : Bx) (ts : List Nat) (g : List D → Env3 → (Env3 → Prop) → Prop) : TGs := fun vs σ H Q => ∃ F ρ G ds P, Stt K bx F ρ σ G H ∧ RepL K bx.adr G vs ds ∧ g ds ρ P ∧ ∀ ρ' σ' G' H', P ρ' → Same G G' → Stt K bx F ρ' σ' G' H' → But ts σ σ' → Q σ' H'
structure G3 (X : Cx) (bx : Bx) (tg : Expr) (ts : List Nat) (g : WG) : Prop where
  pg : PG X tg (lG X.K bx ts g)
structure Gs3 (X : Cx) (bx : Bx) (tg : List Expr) (ts : List Nat) (g : List D → Env3 → (Env3 → Prop) → Prop) : Prop where
  pgs : PGs X tg (lGs X.K bx ts g)
theorem PG.weaken {X : Cx} {e : Expr} {t t' : TG} (h : PG X e t) (w : ∀ v σ H Q, t' v σ H Q → t v σ H Q) : PG X e t' :=
  ⟨fun pins s σ H v u Q I r q => h.run pins s σ H v u Q I r (w _ _ _ _ q)⟩
theorem PGs.weaken {X : Cx} {e : List Expr} {t t' : TGs} (h : PGs X e t) (w : ∀ v σ H Q, t' v σ H Q → t v σ H Q) : PGs X e t' :=
  ⟨fun pins s σ H v u Q I r q => h.run pins s σ H v u Q I r (w _ _ _ _ q)⟩
def wName (i : Nat) : WG := fun d ρ Q => i < ρ.length ∧ Q (ρ.set i (.val d))

section
variable {K : PySem.W.Frag} {bx : Bx} {F G G' H H' : Hp} {ρ ρ' : Env3} {σ : L2.St} {r : R} {v : V} {p : Addr} {d : D}
theorem get_set {i j : Nat} {s s' : Sl} (e : (ρ.set i s)[j]? = some s') : (j = i ∧ s' = s ∧ i < ρ.length) ∨ (j ≠ i ∧ ρ[j]? = some s') := by
  by_cases h : j = i
  · subst h
    rw [List.getElem?_set] at e
    simp only [if_pos] at e
    split at e
    · cases e; exact .inl ⟨rfl, rfl, by assumption⟩
    · cases e
  · rw [List.getElem?_set_ne (Ne.symm h)] at e
    exact .inr ⟨h, e⟩
/-- a slot stored -/
theorem Stt.put (st : Stt K bx F ρ σ G H) (i : Nat) (r : Rep K bx.adr G v d) : Stt K bx F (ρ.set i (.val d)) (σ.set i (some v)) G H := by
  refine ⟨st.toFr3, by simp [st.len], fun j d' e => ?_, fun j d' e => ?_, fun j k q ⟨⟨d1, h1⟩, e1⟩ ⟨⟨d2, h2⟩, e2⟩ => ?_⟩
  · rcases get_set e with ⟨rfl, e, hl⟩ | ⟨hj, e⟩
    · cases e
      rw [st.len] at hl
      exact ⟨v, by rw [List.getElem?_set_self hl], r⟩
    · obtain ⟨w, e1, q⟩ := st.vl j d' e
      exact ⟨w, by rw [List.getElem?_set_ne (Ne.symm hj)]; exact e1, q⟩
  · rcases get_set e with ⟨rfl, e, hl⟩ | ⟨hj, e⟩
    · cases e
    · obtain ⟨w, e1, q⟩ := st.ow j d' e
      exact ⟨w, by rw [List.getElem?_set_ne (Ne.symm hj)]; exact e1, q⟩
  · rcases get_set h1 with ⟨_, h, _⟩ | ⟨hj, h1⟩
    · cases h
    rcases get_set h2 with ⟨_, h, _⟩ | ⟨hk, h2⟩
    · cases h
    rw [List.getElem?_set_ne (Ne.symm hj)] at e1
    rw [List.getElem?_set_ne (Ne.symm hk)] at e2
    exact st.dj j k q ⟨⟨d1, h1⟩, e1⟩ ⟨⟨d2, h2⟩, e2⟩
theorem Stt.putOwn (st : Stt K bx F ρ σ G H) (i : Nat) (so : Sole K bx F G H p d) (no : ∀ i, ¬ Own ρ σ i p) : Stt K bx F (ρ.set i (.own d)) (σ.set i (some (.ref p))) G H := by
  have own : ∀ j q, Own (ρ.set i (.own d)) (σ.set i (some (.ref p))) j q → (j = i ∧ q = p) ∨ (j ≠ i ∧ Own ρ σ j q) := fun j q ⟨⟨d1, h1⟩, e1⟩ => by
    rcases get_set h1 with ⟨rfl, h, hl⟩ | ⟨hj, h1⟩
    · rw [st.len] at hl
      rw [List.getElem?_set_self hl] at e1
      cases e1
      exact .inl ⟨rfl, rfl⟩
    · rw [List.getElem?_set_ne (Ne.symm hj)] at e1
      exact .inr ⟨hj, ⟨d1, h1⟩, e1⟩
  refine ⟨st.toFr3, by simp [st.len], fun j d' e => ?_, fun j d' e => ?_, fun j k q h1 h2 => ?_⟩
  · rcases get_set e with ⟨rfl, e, hl⟩ | ⟨hj, e⟩
    · cases e
    · obtain ⟨w, e1, q⟩ := st.vl j d' e
      exact ⟨w, by rw [List.getElem?_set_ne (Ne.symm hj)]; exact e1, q⟩
  · rcases get_set e with ⟨rfl, e, hl⟩ | ⟨hj, e⟩
    · cases e
      rw [st.len] at hl
      exact ⟨p, by rw [List.getElem?_set_self hl], so⟩
    · obtain ⟨w, e1, q⟩ := st.ow j d' e
      exact ⟨w, by rw [List.getElem?_set_ne (Ne.symm hj)]; exact e1, q⟩
  · rcases own j q h1 with ⟨rfl, rfl⟩ | ⟨hj, o1⟩
    · rcases own k _ h2 with ⟨rfl, _⟩ | ⟨hk, o2⟩
      · rfl
      · exact absurd o2 (no k)
    · rcases own k q h2 with ⟨rfl, rfl⟩ | ⟨hk, o2⟩
      · exact absurd o1 (no j)
      · exact st.dj j k q o1 o2
end
section
variable {X : Cx} {bx : Bx} {a b c e tg : Expr} {es tgs : List Expr} {fa fb fc : WE} {fr : WA} {ft : WT} {pos : Pos} {x : Str} {p : Pos}
theorem g_name (i : Nat) (hN : X.N.Nodup) (hi : X.N[i]? = some x := by rfl) (hx : Loc X.env.scope x := by first | exact Or.inl rfl | exact Or.inr rfl) (hf : X.fn x = true ∨ X.env.scope.names.lookup x = some .local := by first | exact .inl rfl | exact .inr rfl) :
    G3 X bx (.Name x pos) [i] (wName i) :=
  ⟨PG.weaken (pg_name hN hi hx hf) fun v σ H Q ⟨F, ρ, G, d, P, st, r, h, hQ⟩ => hQ _ _ _ _ h.2 (Same.refl G) (st.put i r) ⟨by simp, fun j hj => List.getElem?_set_ne fun e => hj (by simp [e])⟩⟩
def wGNil : List D → Env3 → (Env3 → Prop) → Prop := fun ds ρ Q => ds = [] ∧ Q ρ
def wGCons (g : WG) (gs : List D → Env3 → (Env3 → Prop) → Prop) : List D → Env3 → (Env3 → Prop) → Prop := fun ds ρ Q => match ds with
  | d :: r => g d ρ fun ρ1 => gs r ρ1 Q
  | [] => False
theorem gs_nil : Gs3 X bx [] [] wGNil := ⟨PGs.weaken pgs_nil fun vs σ H Q ⟨F, ρ, G, ds, P, st, r, h, hQ⟩ => by
  obtain ⟨rfl, h⟩ := h
  cases r
  exact ⟨rfl, hQ _ _ _ _ h (Same.refl G) st (But.refl _ _)⟩⟩
theorem gs_cons {g : WG} {gs : List D → Env3 → (Env3 → Prop) → Prop} {ts us : List Nat} (h1 : G3 X bx tg ts g) (h2 : Gs3 X bx tgs us gs) (hs : (assignEach (tg :: tgs) X.env).map (·.2) = assign tg X.env :: (assignEach tgs X.env).map (·.2) := by rfl) : Gs3 X bx (tg :: tgs) (ts ++ us) (wGCons g gs) := by
  refine ⟨PGs.weaken (pgs_cons h1.pg h2.pgs hs) fun vs σ H Q ⟨F, ρ, G, ds, P, st, r, h, hQ⟩ => ?_⟩
  cases r with
  | nil => exact (show False from h).elim
  | cons a r => exact ⟨_, _, rfl, F, ρ, G, _, _, st, a, h, fun ρ' σ' G' H' h1 g1 st1 b1 => ⟨F, ρ', G', _, _, st1, r.mono g1, h1, fun ρ2 σ2 G2 H2 h2 g2 st2 b2 => hQ _ _ _ _ h2 (g1.trans g2) st2 (b1.trans b2)⟩⟩
def wGTup (n : Nat) (gs : List D → Env3 → (Env3 → Prop) → Prop) : WG := fun d ρ Q => match d with
  | .tup l => l.length = n ∧ gs l ρ Q
  | _ => False
theorem g_tup {k n : Nat} {gs : List D → Env3 → (Env3 → Prop) → Prop} {ts : List Nat} (hc : X.calm = true) (h : Gs3 X bx tgs ts gs) (hn : (assignEach tgs X.env).length = n := by rfl) (hst : (assignEach tgs X.env).findIdx? (·.1) = none := by rfl) : G3 X bx (.Tuple tgs k pos) ts (wGTup n gs) := by
  refine ⟨PG.weaken (pg_tup hc h.pgs hn hst) fun v σ H Q ⟨F, ρ, G, d, P, st, r, h, hQ⟩ => ?_⟩
  cases d with
  | tup l =>
    cases r with
    | tup hs rl => exact ⟨_, _, rfl, sqT_mono st.gs hs, rl.length.trans h.1, F, ρ, G, _, _, st, rl, h.2, hQ⟩
  | _ => exact (show False from h).elim

/-! ### comprehensions -/
def wipeE (ρ : Env3) : List Nat → Env3
  | [] => ρ
  | v :: vs => (wipeE ρ vs).set v .un
def keptE : Sl → Sl
  | .val d => .val d
  | _ => .un
/-- the slots vs as they were (what was owned is lost) -/
def backE (ρ ρ0 : Env3) : List Nat → Env3
  | [] => ρ
  | v :: vs => (backE ρ ρ0 vs).set v (keptE (ρ0.getD v .un))
abbrev WTs := Env3 → (Bool → Env3 → Prop) → Prop
def wYes : WTs := fun ρ Q => Q true ρ
/-- the turns of a comprehension, what is made so far -/
def lcGo (g : WG) (tt : WTs) (te : WE) (vs : List Nat) : List D → Env3 → List D → (List D → Env3 → Prop) → Prop
  | [], ρ, acc, Q => Q acc ρ
  | d :: r, ρ, acc, Q => g d (wipeE ρ vs) fun ρ1 => tt ρ1 fun b ρ2 => if b = true then te ρ2 fun rr ρ3 => fz rr ρ3 fun y ρ4 => acc.length < sizeLine ∧ lcGo g tt te vs r ρ4 (acc ++ [y]) Q else lcGo g tt te vs r ρ2 acc Q
def lcRun (g : WG) (tt : WTs) (te : WE) (vs : List Nat) (items : List D) (ρ : Env3) (T : List D → Env3 → Prop) : Prop := lcGo g tt te vs items ρ [] fun acc ρ2 => T acc (backE (wipeE ρ2 vs) ρ vs)
def wLc (fi : WI) (g : WG) (tt : WTs) (te : WE) (vs : List Nat) : WE := fun ρ Q => fi ρ fun items ρ1 => lcRun g tt te vs items ρ1 fun acc ρ2 => Q (.new (.lst acc)) ρ2
structure Ts3 (X : Cx) (bx : Bx) (ifs : List Expr) (f : WTs) : Prop where
  pts : PTs X ifs (lT X.K bx f)
theorem PTs.weaken {X : Cx} {e : List Expr} {t t' : TT} (h : PTs X e t) (w : ∀ σ H Q, t' σ H Q → t σ H Q) : PTs X e t' :=
  ⟨fun pins s σ H Q I q => h.run pins s σ H Q I (w _ _ _ q)⟩
theorem ts_nil : Ts3 X bx [] wYes := ⟨PTs.weaken pts_nil fun σ H Q ⟨F, ρ, G, P, st, h, hQ⟩ => hQ true ρ G H h (Same.refl G) st⟩
theorem ts_one (h : T3 X bx c ft) : Ts3 X bx [c] ft := ⟨pts_one h.pt⟩
end
section
variable {K : PySem.W.Frag} {bx : Bx} {F G G' H H' : Hp} {ρ ρ' : Env3} {σ : L2.St} {r : R} {v : V} {p : Addr} {d : D}
theorem Stt.forget (st : Stt K bx F ρ σ G H) (i : Nat) (w : Option V) : Stt K bx F (ρ.set i .un) (σ.set i w) G H := by
  refine ⟨st.toFr3, by simp [st.len], fun j d' e => ?_, fun j d' e => ?_, fun j k q ⟨⟨d1, h1⟩, e1⟩ ⟨⟨d2, h2⟩, e2⟩ => ?_⟩
  · rcases get_set e with ⟨rfl, e, hl⟩ | ⟨hj, e⟩
    · cases e
    · obtain ⟨w, e1, q⟩ := st.vl j d' e
      exact ⟨w, by rw [List.getElem?_set_ne (Ne.symm hj)]; exact e1, q⟩
  · rcases get_set e with ⟨rfl, e, hl⟩ | ⟨hj, e⟩
    · cases e
    · obtain ⟨w, e1, q⟩ := st.ow j d' e
      exact ⟨w, by rw [List.getElem?_set_ne (Ne.symm hj)]; exact e1, q⟩
  · rcases get_set h1 with ⟨_, h, _⟩ | ⟨hj, h1⟩
    · cases h
    rcases get_set h2 with ⟨_, h, _⟩ | ⟨hk, h2⟩
    · cases h
    rw [List.getElem?_set_ne (Ne.symm hj)] at e1
    rw [List.getElem?_set_ne (Ne.symm hk)] at e2
    exact st.dj j k q ⟨⟨d1, h1⟩, e1⟩ ⟨⟨d2, h2⟩, e2⟩
theorem Stt.wipe (st : Stt K bx F ρ σ G H) : ∀ vs : List Nat, Stt K bx F (wipeE ρ vs) (L2.wipe σ vs) G H
  | [] => st
  | v :: vs => (Stt.wipe st vs).forget v none
theorem wipeE_out {j : Nat} : ∀ {vs : List Nat}, j ∉ vs → (wipeE ρ vs)[j]? = ρ[j]?
  | [], _ => rfl
  | v :: vs, h => by
    rw [List.mem_cons, not_or] at h
    rw [wipeE, List.getElem?_set_ne (Ne.symm h.1)]
    exact wipeE_out h.2
theorem wipeE_len : ∀ {vs : List Nat}, (wipeE ρ vs).length = ρ.length
  | [] => rfl
  | v :: vs => by rw [wipeE, List.length_set]; exact wipeE_len
theorem backE_len : ∀ {vs : List Nat}, (backE ρ ρ' vs).length = ρ.length
  | [] => rfl
  | v :: vs => by rw [backE, List.length_set]; exact backE_len
theorem backE_out {j : Nat} : ∀ {vs : List Nat}, j ∉ vs → (backE ρ ρ' vs)[j]? = ρ[j]?
  | [], _ => rfl
  | v :: vs, h => by
    rw [List.mem_cons, not_or] at h
    rw [backE, List.getElem?_set_ne (Ne.symm h.1)]
    exact backE_out h.2
theorem backE_in {j : Nat} {s : Sl} : ∀ {vs : List Nat}, j ∈ vs → (backE ρ ρ' vs)[j]? = some s → s = keptE (ρ'.getD j .un)
  | v :: vs, h, e => by
    rw [backE] at e
    rcases get_set e with ⟨rfl, e, _⟩ | ⟨hj, e⟩
    · exact e
    · rcases List.mem_cons.mp h with h | h
      · exact absurd h hj
      · exact backE_in h e
theorem keptE_val {s : Sl} {d : D} (h : keptE s = .val d) : s = .val d := by
  cases s <;> simp [keptE] at h ⊢ <;> exact h
theorem keptE_own {s : Sl} {d : D} (h : keptE s = .own d) : False := by
  cases s <;> simp [keptE] at h
theorem Stt.unwipe {ρ1 ρ2 : Env3} {G1 G2 H1 H2 : Hp} {vs : List Nat} (st1 : Stt K bx F ρ1 σ G1 H1) (g : Same G1 G2) (st2 : Stt K bx F (wipeE ρ2 vs) (L2.wipe σ vs) G2 H2) : Stt K bx F (backE (wipeE ρ2 vs) ρ1 vs) σ G2 H2 := by
  have own : ∀ (j : Nat) (d' : D), (backE (wipeE ρ2 vs) ρ1 vs)[j]? = some (Sl.own d') → j ∉ vs ∧ (wipeE ρ2 vs)[j]? = some (Sl.own d') := fun j d' e => by
    by_cases h : j ∈ vs
    · exact (keptE_own (backE_in h e).symm).elim
    · rw [backE_out h] at e
      exact ⟨h, e⟩
  refine ⟨st2.toFr3, ?_, fun j d' e => ?_, fun j d' e => ?_, fun j k q ⟨⟨d1, h1⟩, e1⟩ ⟨⟨d2, h2⟩, e2⟩ => ?_⟩
  · rw [backE_len, st2.len, wipe_length]
  · by_cases h : j ∈ vs
    · have e1 := keptE_val (backE_in h e).symm
      rw [List.getD_eq_getElem?_getD] at e1
      cases e2 : ρ1[j]? with
      | none => rw [e2] at e1; cases e1
      | some s =>
        rw [e2] at e1
        have e3 : ρ1[j]? = some (Sl.val d') := by rw [e2]; exact congrArg some e1
        obtain ⟨w, e4, q⟩ := st1.vl j d' e3
        exact ⟨w, e4, q.mono g⟩
    · rw [backE_out h] at e
      obtain ⟨w, e1, q⟩ := st2.vl j d' e
      rw [wipe_out h] at e1
      exact ⟨w, e1, q⟩
  · obtain ⟨h, e⟩ := own j d' e
    obtain ⟨w, e1, q⟩ := st2.ow j d' e
    rw [wipe_out h] at e1
    exact ⟨w, e1, q⟩
  · obtain ⟨n1, h1⟩ := own j d1 h1
    obtain ⟨n2, h2⟩ := own k d2 h2
    exact st2.dj j k q ⟨⟨d1, h1⟩, by rw [wipe_out n1]; exact e1⟩ ⟨⟨d2, h2⟩, by rw [wipe_out n2]; exact e2⟩
theorem but_wipe {ts vs : List Nat} {σ' : L2.St} (hs : ∀ j ∈ ts, j ∈ vs) (b : But ts (L2.wipe σ vs) σ') : L2.wipe σ' vs = L2.wipe σ vs := by
  have inn : ∀ (τ : L2.St) (vs : List Nat) (j : Nat), j ∈ vs → j < τ.length → (L2.wipe τ vs)[j]? = some none := by
    intro τ vs
    induction vs with
    | nil => intro j h; cases h
    | cons v vs ih =>
      intro j h hl
      unfold L2.wipe
      by_cases hv : v = j
      · subst hv
        rw [List.getElem?_set_self (by rw [wipe_length]; exact hl)]
      · rw [List.getElem?_set_ne hv]
        exact ih j ((List.mem_cons.mp h).resolve_left (Ne.symm hv)) hl
  have hl : σ'.length = σ.length := by rw [b.1, wipe_length]
  refine List.ext_getElem? fun j => ?_
  by_cases h : j ∈ vs
  · by_cases hj : j < σ.length
    · rw [inn σ' vs j h (by omega), inn σ vs j h hj]
    · rw [List.getElem?_eq_none (by rw [wipe_length]; omega), List.getElem?_eq_none (by rw [wipe_length]; omega)]
  · rw [wipe_out h, b.2 j (fun z => h (hs j z))]
/-- a frame with one thing more -/
def addF (F : Hp) (p : Addr) (o : HO) : Hp := fun a => if a = p then some o else F a
theorem addF_same {o : HO} : addF F p o p = some o := by unfold addF; rw [if_pos rfl]
theorem addF_ne {o : HO} {a : Addr} (h : a ≠ p) : addF F p o a = F a := by unfold addF; rw [if_neg h]
theorem Stt.addF {o : HO} (st : Stt K bx F ρ σ G H) (hp : H p = none) : Stt K bx (addF F p o) ρ σ G (upd H p o) := by
  have st1 : Stt K bx F ρ σ G (upd H p o) := st.alloc hp
  refine ⟨⟨st1.gs, fun a u e => ?_, fun a u e => ?_, st1.bi, fun a ha => ⟨(st1.bg a ha).1, ?_⟩⟩, st1.len, st1.vl, fun i d' e => ?_, st1.dj⟩
  · by_cases h : a = p
    · subst h; rw [addF_same] at e; cases e; exact upd_same
    · rw [addF_ne h] at e; exact st1.fs a u e
  · by_cases h : a = p
    · subst h; exact st.nG hp
    · rw [addF_ne h] at e; exact st1.fg a u e
  · have hne : a ≠ p := fun h => st.nfp hp (h ▸ ha)
    rw [addF_ne hne]; exact (st1.bg a ha).2
  · obtain ⟨q, e1, t, e2, e3, e4⟩ := st1.ow i d' e
    refine ⟨q, e1, t, e2, ?_, e4⟩
    have hne : q ≠ p := fun h => st.notown hp i ⟨⟨d', e⟩, h ▸ e1⟩
    rw [addF_ne hne]; exact e3
theorem Stt.setF {o o' : HO} (st : Stt K bx (W3.addF F p o) ρ σ G H) : Stt K bx (W3.addF F p o') ρ σ G (upd H p o') := by
  have gp : G p = none := st.fg p o addF_same
  have np : p ∉ bx.fp := fun h => by have := (st.bg p h).2; rw [addF_same] at this; cases this
  refine ⟨⟨fun a u e => ?_, fun a u e => ?_, fun a u e => ?_, bx.loc H _ (fun a ha => upd_ne (fun h => np (h ▸ ha))) st.bi, fun a ha => ⟨(st.bg a ha).1, ?_⟩⟩, st.len, st.vl, fun i d' e => ?_, st.dj⟩
  · rw [upd_ne (ne_of_none e gp)]; exact st.gs a u e
  · by_cases h : a = p
    · subst h; rw [addF_same] at e; cases e; exact upd_same
    · rw [addF_ne h] at e
      rw [upd_ne h]; exact st.fs a u (by rw [addF_ne h]; exact e)
  · by_cases h : a = p
    · subst h; exact gp
    · rw [addF_ne h] at e; exact st.fg a u (by rw [addF_ne h]; exact e)
  · have h : a ≠ p := fun h => np (h ▸ ha)
    have := (st.bg a ha).2
    rw [addF_ne h] at this ⊢; exact this
  · obtain ⟨q, e1, t, e2, e3, e4⟩ := st.ow i d' e
    have h : q ≠ p := fun h => by subst h; rw [addF_same] at e3; cases e3
    rw [addF_ne h] at e3
    exact ⟨q, e1, t.heap (upd_ne h), e2, by rw [addF_ne h]; exact e3, e4⟩
theorem Stt.dropF {o : HO} (st : Stt K bx (W3.addF F p o) ρ σ G H) (fp : F p = none) : Stt K bx F ρ σ G H ∧ H p = some o ∧ G p = none ∧ p ∉ bx.fp ∧ ∀ i, ¬ Own ρ σ i p := by
  have ne : ∀ a u, F a = some u → a ≠ p := fun a u e h => by subst h; rw [fp] at e; cases e
  have np : p ∉ bx.fp := fun h => by have := (st.bg p h).2; rw [addF_same] at this; cases this
  refine ⟨⟨⟨st.gs, fun a u e => st.fs a u (by rw [addF_ne (ne a u e)]; exact e), fun a u e => st.fg a u (by rw [addF_ne (ne a u e)]; exact e), st.bi, fun a ha => ⟨(st.bg a ha).1, ?_⟩⟩, st.len, st.vl, fun i d' e => ?_, st.dj⟩, st.fs p o addF_same, st.fg p o addF_same, np, fun i ⟨⟨d', e⟩, e1⟩ => ?_⟩
  · have h : a ≠ p := fun h => np (h ▸ ha)
    have := (st.bg a ha).2
    rw [addF_ne h] at this; exact this
  · obtain ⟨q, e1, t, e2, e3, e4⟩ := st.ow i d' e
    have h : q ≠ p := fun h => by subst h; rw [addF_same] at e3; cases e3
    rw [addF_ne h] at e3
    exact ⟨q, e1, t, e2, e3, e4⟩
  · obtain ⟨q, e1', t, e2, e3, e4⟩ := st.ow i d' e
    rw [e1] at e1'; cases e1'
    rw [addF_same] at e3; cases e3
/-- a turn's item has come -/
theorem item_st {B : Addr} {items : List D} {J : It} {G1 H' : Hp} {i : Nat} {x : V} (hB : B = bx.adr) (it : ItOk K B G1 J items) (g : Same G1 G) (st : Stt K bx F ρ σ G H) (hi : i < items.length) (hy : J.yld i H x H') :
    ∃ d G', items[i]? = some d ∧ Same G G' ∧ Stt K bx F ρ σ G' H' ∧ Rep K bx.adr G' x d := by
  subst hB
  obtain ⟨d, hd, q⟩ := it.yld i H x H' (g.trans st.gs) hi hy
  rcases q with ⟨rfl, q⟩ | ⟨p, vs, l, rfl, hp, rfl, rfl, q⟩
  · exact ⟨d, G, hd, Same.refl G, st, q.mono g⟩
  · have st1 : Stt K bx F ρ σ G (upd H p (.tup vs)) := st.alloc hp
    obtain ⟨g2, st2⟩ := freeze_at st1 upd_same (st.nG hp) (st.nF hp) (st.nfp hp) (st.notown hp)
    exact ⟨_, _, hd, g2, st2, Rep.tup (.inl (.inl upd_same)) (q.mono (g.trans g2))⟩
end
section
variable {X : Cx} {bx : Bx} {a b c e tg : Expr} {es tgs : List Expr} {fa fb fc : WE} {fr : WA} {ft : WT} {pos : Pos} {x : Str} {p : Pos}
theorem lE_lc {K : PySem.W.Frag} {fi : WI} {g : WG} {tt : WTs} {te : WE} {ts vs : List Nat} (hs : ∀ j ∈ ts, j ∈ vs) (σ : L2.St) (H : Hp) (Q : VK) (h : lE K bx (wLc fi g tt te vs) σ H Q) : tLc (lI K bx fi) (lG K bx ts g) (lT K bx tt) (lE K bx te) vs σ H Q := by
  obtain ⟨F, ρ, G, P, st, h, hQ⟩ := h
  refine ⟨F, ρ, G, _, st, h, fun items ρ1 G1 H1 J h1 g1 st1 it => fun Da hD => ?_⟩
  have fD : F Da = none := st1.nF hD
  refine ⟨fun i m H => m = items.length - i ∧ i ≤ items.length ∧ ∃ ρ2 G2 acc accV, lcGo g tt te vs (items.drop i) ρ2 acc (fun acc ρ2 => P (.new (.lst acc)) (backE (wipeE ρ2 vs) ρ1 vs)) ∧ Same G1 G2 ∧
    Stt K bx (W3.addF F Da (.lst accV)) (wipeE ρ2 vs) (L2.wipe σ vs) G2 H ∧ RepL K bx.adr G2 accV acc, ⟨items.length, rfl, Nat.zero_le _, ρ1, G1, [], [], h1, Same.refl G1, (st1.addF hD).wipe vs, .nil⟩, ?_⟩
  rintro i m H2 ⟨rfl, hi, ρ2, G2, acc, accV, hgo, g2, st2, rl⟩
  by_cases hlt : i < items.length
  · refine .inr ⟨it.go i H2 (g2.trans st2.gs) hlt, fun H' => i + 1 ≤ items.length ∧ ∃ ρ2 G2 acc accV, lcGo g tt te vs (items.drop (i + 1)) ρ2 acc (fun acc ρ2 => P (.new (.lst acc)) (backE (wipeE ρ2 vs) ρ1 vs)) ∧ Same G1 G2 ∧
      Stt K bx (W3.addF F Da (.lst accV)) (wipeE ρ2 vs) (L2.wipe σ vs) G2 H' ∧ RepL K bx.adr G2 accV acc, fun H' hN => ⟨items.length - (i + 1), by omega, rfl, hN⟩, fun x H' hy => ?_⟩
    obtain ⟨d, G3, hd, g3, st3, rd⟩ := item_st rfl it g2 st2 hlt hy
    rw [List.drop_eq_getElem_cons hlt] at hgo
    have ed : items[i] = d := by rw [List.getElem?_eq_getElem hlt] at hd; exact Option.some.inj hd
    rw [ed] at hgo
    refine ⟨_, _, G3, d, _, st3, rd, hgo, fun ρ4 σ4 G4 H4 h4 g4 st4 b4 => ⟨but_wipe hs b4, ?_⟩⟩
    have ew := but_wipe hs b4
    refine ⟨_, ρ4, G4, _, st4, h4, fun b ρ5 G5 H5 h5 g5 st5 => ?_⟩
    by_cases hb : b = true
    · rw [if_pos hb] at h5 ⊢
      refine ⟨_, ρ5, G5, _, st5, h5, fun r ρ6 v G6 H6 h6 g6 st6 rr6 => ?_⟩
      obtain ⟨y, ρ7, G7, h7, g7, st7, ry⟩ := fz_ok st6 rr6 h6
      refine ⟨accV, st7.fs Da _ addF_same, by rw [rl.length]; exact h7.1, by omega, ρ7, G7, _, _, h7.2, g2.trans (g3.trans (g4.trans (g5.trans (g6.trans g7)))), ?_, (rl.mono (g3.trans (g4.trans (g5.trans (g6.trans g7))))).append (.cons ry .nil)⟩
      have := (st7.setF (o' := .lst (accV ++ [v]))).wipe vs
      rw [ew] at this
      exact this
    · rw [if_neg hb] at h5 ⊢
      refine ⟨by omega, ρ5, G5, acc, accV, h5, g2.trans (g3.trans (g4.trans g5)), ?_, rl.mono (g3.trans (g4.trans g5))⟩
      have := st5.wipe vs
      rw [ew] at this
      exact this
  · have ei : i = items.length := by omega
    subst ei
    refine .inl ⟨it.stop _ H2 (g2.trans st2.gs) (Nat.le_refl _), ?_⟩
    rw [List.drop_length] at hgo
    obtain ⟨st5, hD5, gD5, nD5, no5⟩ := st2.dropF fD
    have stU := st1.unwipe g2 st5
    refine hQ _ _ _ G2 H2 hgo (g1.trans g2) stU ⟨Da, rfl, ⟨.lst hD5 rl, gD5, fD, nD5⟩, fun j ⟨⟨d', e⟩, e1⟩ => ?_⟩
    by_cases h : j ∈ vs
    · exact keptE_own (backE_in h e).symm
    · rw [backE_out h] at e
      exact no5 j ⟨⟨d', e⟩, by rw [wipe_out h]; exact e1⟩
theorem e_lc {elt iter : Expr} {ifs : List Expr} {scope : Scope} {own : List (Str × Nat)} {fi : WI} {g : WG} {tt : WTs} {te : WE} {ts vs : List Nat} (hc : X.calm = true) (hN : X.N.Nodup) (hi : I3 X bx tg iter fi) (ok : BlkOk X.N X.env.scope scope own)
    (hg : ∀ (s : Shared) (H : Hp) (C : Addr) (cl : List (Str × Addr)) (fp : List Addr), G3 (X.blk s H scope (compEnvC scope cl C X.env) fp) bx tg ts g) (ht : ∀ (s : Shared) (H : Hp) (C : Addr) (cl : List (Str × Addr)) (fp : List Addr), Ts3 (X.blk s H scope (compEnvC scope cl C X.env) fp) bx ifs tt)
    (he : ∀ (s : Shared) (H : Hp) (C : Addr) (cl : List (Str × Addr)) (fp : List Addr), E3 (X.blk s H scope (compEnvC scope cl C X.env) fp) bx elt te) (hts : ∀ j ∈ ts, j ∈ own.map (·.2) := by decide) (hs : ∀ x, foldedSetIterable iter X.env x = pure x := by intro _; rfl) (hvs : own.map (·.2) = vs := by rfl) :
    E3 X bx (.ListComp elt [⟨tg, iter, ifs, 0⟩] scope pos) (wLc fi g tt te vs) :=
  hvs ▸   ⟨PE.weaken (pe_lc hc hN hi.pi ok (fun s H C cl fp => (hg s H C cl fp).pg) (fun s H C cl fp => (ht s H C cl fp).pts) (fun s H C cl fp => (he s H C cl fp).pe) hs) (lE_lc hts)⟩
end
end L2.W3

/-! W3, part g: statements, loops, the rule for a def. -/
namespace L2.W3
open PySem PySem.Spec PyProof.Rows

structure Ends3 where
  nx : Env3 → Prop
  rt : R → Prop
  bk : Env3 → Prop := fun _ => False
  ct : Env3 → Prop := fun _ => False
abbrev WS := Ends3 → Env3 → Prop
structure EndOk (K : PySem.W.Frag) (bx : Bx) (F G : Hp) (P : Ends3) (D : Ends) : Prop where
  nx : ∀ ρ σ G' H', P.nx ρ → Same G G' → Stt K bx F ρ σ G' H' → D.nx σ H'
  bk : ∀ ρ σ G' H', P.bk ρ → Same G G' → Stt K bx F ρ σ G' H' → D.bk σ H'
  ct : ∀ ρ σ G' H', P.ct ρ → Same G G' → Stt K bx F ρ σ G' H' → D.ct σ H'
  rt : ∀ r v G' H', P.rt r → Same G G' → Fr3 bx F G' H' → RetR K bx F G' H' r v → D.rt v H'
def lS (K : PySem.W.Frag) (bx : Bx) (f : WS) : TS := fun D σ H => ∃ F ρ G P, Stt K bx F ρ σ G H ∧ f P ρ ∧ EndOk K bx F G P D
structure S3 (X : Cx) (bx : Bx) (st : Stmt) (f : WS) : Prop where
  ps : PS X st (lS X.K bx f)
structure Ss3 (X : Cx) (bx : Bx) (st : List Stmt) (f : WS) : Prop where
  pss : PSs X st (lS X.K bx f)
theorem PS.weaken {X : Cx} {e : Stmt} {t t' : TS} (h : PS X e t) (w : ∀ D σ H, t' D σ H → t D σ H) : PS X e t' :=
  ⟨fun pins s σ H D I q => h.run pins s σ H D I (w _ _ _ q)⟩
theorem PSs.weaken {X : Cx} {e : List Stmt} {t t' : TS} (h : PSs X e t) (w : ∀ D σ H, t' D σ H → t D σ H) : PSs X e t' :=
  ⟨fun pins s σ H D I q => h.run pins s σ H D I (w _ _ _ q)⟩
section
variable {K : PySem.W.Frag} {bx : Bx} {F G G' H H' : Hp} {ρ ρ' : Env3} {σ : L2.St} {r : R} {v : V} {p : Addr} {d : D} {P : Ends3} {DD : Ends}
theorem EndOk.mono (e : EndOk K bx F G P DD) (g : Same G G') : EndOk K bx F G' P DD :=
  ⟨fun ρ σ G2 H2 h g2 st => e.nx ρ σ G2 H2 h (g.trans g2) st, fun ρ σ G2 H2 h g2 st => e.bk ρ σ G2 H2 h (g.trans g2) st, fun ρ σ G2 H2 h g2 st => e.ct ρ σ G2 H2 h (g.trans g2) st, fun r v G2 H2 h g2 st => e.rt r v G2 H2 h (g.trans g2) st⟩
end

def wNext : WS := fun P ρ => P.nx ρ
def wSeq (f g : WS) : WS := fun P ρ => f { P with nx := fun ρ1 => g P ρ1 } ρ
section
variable {X : Cx} {bx : Bx} {a b c e tg : Expr} {es tgs : List Expr} {fa fb fc : WE} {fr : WA} {ft : WT} {pos : Pos} {x : Str} {p : Pos} {st : Stmt} {sts body orelse : List Stmt} {f g : WS}
theorem ss_nil : Ss3 X bx [] wNext := ⟨PSs.weaken pss_nil fun D σ H ⟨F, ρ, G, P, st, h, e⟩ => e.nx ρ σ G H h (Same.refl G) st⟩
theorem ss_cons (h1 : S3 X bx st f) (h2 : Ss3 X bx sts g) : Ss3 X bx (st :: sts) (wSeq f g) := by
  refine ⟨PSs.weaken (pss_cons h1.ps h2.pss) fun D σ H ⟨F, ρ, G, P, st, h, e⟩ => ⟨F, ρ, G, _, st, h, fun ρ1 σ1 G1 H1 h1 g1 st1 => ⟨F, ρ1, G1, P, st1, h1, e.mono g1⟩, e.bk, e.ct, e.rt⟩⟩
theorem ss_one (h1 : S3 X bx st f) : Ss3 X bx [st] f := ⟨pss_one h1.ps⟩
theorem s_pass : S3 X bx (.Pass pos) wNext := ⟨PS.weaken ps_pass fun D σ H ⟨F, ρ, G, P, st, h, e⟩ => e.nx ρ σ G H h (Same.refl G) st⟩
def wBreak : WS := fun P ρ => P.bk ρ
def wCont : WS := fun P ρ => P.ct ρ
theorem s_break : S3 X bx (.Break pos) wBreak := ⟨PS.weaken ps_break fun D σ H ⟨F, ρ, G, P, st, h, e⟩ => e.bk ρ σ G H h (Same.refl G) st⟩
theorem s_cont : S3 X bx (.Continue pos) wCont := ⟨PS.weaken ps_continue fun D σ H ⟨F, ρ, G, P, st, h, e⟩ => e.ct ρ σ G H h (Same.refl G) st⟩
theorem s_doc {x : Str} {j pos'} : S3 X bx (.Expr (.Constant (.str x) j pos) pos') wNext := ⟨PS.weaken ps_doc fun D σ H ⟨F, ρ, G, P, st, h, e⟩ => e.nx ρ σ G H h (Same.refl G) st⟩
def wExpr (fa : WE) : WS := fun P ρ => fa ρ fun _ ρ1 => P.nx ρ1
theorem s_expr (ha : E3 X bx a fa) (hs : swapsWith a none pos.line X.env = pure false := by rfl) : S3 X bx (.Expr a pos) (wExpr fa) :=
  ⟨PS.weaken (ps_expr ha.pe hs) fun D σ H ⟨F, ρ, G, P, st, h, e⟩ => ⟨F, ρ, G, _, st, h, fun r ρ1 v G1 H1 h1 g1 st1 _ => e.nx ρ1 σ G1 H1 h1 g1 st1⟩⟩
/-- what a def hands back: owned things are given away -/
def giveR (r : R) (ρ : Env3) (k : R → Prop) : Prop :=
  match r with
  | .val d => k (.val d)
  | .new d => k (.new d)
  | .slot i => match ρ[i]? with
    | some (.val d) => k (.val d)
    | some (.own d) => k (.new d)
    | _ => False
def wRet (fa : WE) : WS := fun P ρ => fa ρ fun r ρ1 => giveR r ρ1 P.rt
theorem give_ok {K : PySem.W.Frag} {F G H : Hp} {ρ : Env3} {σ : L2.St} {r : R} {v : V} {k : R → Prop} (st : Stt K bx F ρ σ G H) (rr : RepR K bx F ρ σ G H r v) (h : giveR r ρ k) : ∃ r', k r' ∧ RetR K bx F G H r' v := by
  cases r with
  | val d => exact ⟨_, h, rr⟩
  | new d =>
    obtain ⟨p, rfl, so, _⟩ := rr
    exact ⟨_, h, p, rfl, so⟩
  | slot i =>
    have rr : σ[i]? = some (some v) := rr
    have h : match ρ[i]? with
      | some (.val d) => k (.val d)
      | some (.own d) => k (.new d)
      | _ => False := h
    split at h
    · rename_i d e
      obtain ⟨w, e1, q⟩ := st.vl i d e
      rw [rr] at e1; cases e1
      exact ⟨_, h, q⟩
    · rename_i d e
      obtain ⟨q, e1, t⟩ := st.ow i d e
      rw [rr] at e1; cases e1
      exact ⟨_, h, q, rfl, t⟩
    · exact h.elim
theorem s_ret (ha : E3 X bx a fa) : S3 X bx (.Return (some a) pos) (wRet fa) := by
  refine ⟨PS.weaken (ps_ret ha.pe) fun D σ H ⟨F, ρ, G, P, st, h, e⟩ => ⟨F, ρ, G, _, st, h, fun r ρ1 v G1 H1 h1 g1 st1 rr => ?_⟩⟩
  obtain ⟨r', h2, q⟩ := give_ok st1 rr h1
  exact e.rt r' v G1 H1 h2 g1 st1.toFr3 q
def wRetN : WS := fun P _ => P.rt (.val .non)
theorem s_retN : S3 X bx (.Return none pos) wRetN := ⟨PS.weaken ps_retN fun D σ H ⟨F, ρ, G, P, st, h, e⟩ => e.rt _ _ G H h (Same.refl G) st.toFr3 .non⟩
def wIfS (ft : WT) (f g : WS) : WS := fun P ρ => ft ρ fun c ρ1 => if c = true then f P ρ1 else g P ρ1
theorem s_if (hc : T3 X bx c ft) (h1 : Ss3 X bx body f) (h2 : Ss3 X bx orelse g) : S3 X bx (.If c body orelse pos) (wIfS ft f g) := by
  refine ⟨PS.weaken (ps_if hc.pt h1.pss h2.pss) fun D σ H ⟨F, ρ, G, P, st, h, e⟩ => ⟨F, ρ, G, _, st, h, fun k ρ1 G1 H1 h1 g1 st1 => ?_⟩⟩
  by_cases hb : k = true
  · rw [if_pos hb] at h1 ⊢
    exact ⟨F, ρ1, G1, P, st1, h1, e.mono g1⟩
  · rw [if_neg hb] at h1 ⊢
    exact ⟨F, ρ1, G1, P, st1, h1, e.mono g1⟩

/-! ### stores -/
def setSl (i : Nat) (r : R) (ρ : Env3) (k : Env3 → Prop) : Prop :=
  match r with
  | .val d => k (ρ.set i (.val d))
  | .new d => k (ρ.set i (.own d))
  | .slot j => match ρ[j]? with
    | some (.val d) => k (ρ.set i (.val d))
    | some (.own d) => k ((ρ.set j (.val d)).set i (.val d))
    | _ => False
def wSet (i : Nat) (fa : WE) : WS := fun P ρ => fa ρ fun r ρ1 => setSl i r ρ1 P.nx
theorem set_ok {K : PySem.W.Frag} {F G H : Hp} {ρ : Env3} {σ : L2.St} {r : R} {v : V} {k : Env3 → Prop} (i : Nat) (st : Stt K bx F ρ σ G H) (rr : RepR K bx F ρ σ G H r v) (h : setSl i r ρ k) : ∃ ρ' G', k ρ' ∧ Same G G' ∧ Stt K bx F ρ' (σ.set i (some v)) G' H := by
  cases r with
  | val d => exact ⟨_, G, h, Same.refl G, st.put i rr⟩
  | new d =>
    obtain ⟨p, rfl, so, no⟩ := rr
    exact ⟨_, G, h, Same.refl G, st.putOwn i so no⟩
  | slot j =>
    have rr' : σ[j]? = some (some v) := rr
    have h : match ρ[j]? with
      | some (.val d) => k (ρ.set i (.val d))
      | some (.own d) => k ((ρ.set j (.val d)).set i (.val d))
      | _ => False := h
    split at h
    · rename_i d e
      obtain ⟨w, e1, q⟩ := st.vl j d e
      rw [rr'] at e1; cases e1
      exact ⟨_, G, h, Same.refl G, st.put i q⟩
    · rename_i d e
      have h2 : fz (.slot j) ρ fun d' ρ' => d' = d ∧ ρ' = ρ.set j (.val d) := by
        show match ρ[j]? with
          | some (.val d') => d' = d ∧ ρ = ρ.set j (.val d)
          | some (.own d') => d' = d ∧ ρ.set j (.val d') = ρ.set j (.val d)
          | _ => False
        rw [e]
        exact ⟨rfl, rfl⟩
      obtain ⟨d', ρ', G', ⟨rfl, rfl⟩, g, st', q⟩ := fz_ok st rr h2
      exact ⟨_, G', h, g, st'.put i q⟩
    · exact h.elim
theorem s_set (i : Nat) (hN : X.N.Nodup) (ha : E3 X bx a fa) (hi : X.N[i]? = some x := by rfl) (hx : Loc X.env.scope x := by first | exact Or.inl rfl | exact Or.inr rfl) {pos' : Pos} (hs : swapsWith a (some (.Name x pos')) pos.line X.env = pure false := by rfl) (hf : X.fn x = true ∨ X.env.scope.names.lookup x = some .local := by first | exact .inl rfl | exact .inr rfl) :
    S3 X bx (.Assign [.Name x pos'] a pos) (wSet i fa) := by
  refine ⟨PS.weaken (ps_set hN hi hx ha.pe hs hf) fun D σ H ⟨F, ρ, G, P, st, h, e⟩ => ⟨F, ρ, G, _, st, h, fun r ρ1 v G1 H1 h1 g1 st1 rr => ?_⟩⟩
  obtain ⟨ρ', G', h2, g2, st2⟩ := set_ok i st1 rr h1
  exact e.nx ρ' _ G' H1 h2 (g1.trans g2) st2
/-- name = [..] on one line -/
theorem s_setLc (i : Nat) {py spos : Pos} {elt iter : Expr} {ifs : List Expr} {scope : Scope} {own : List (Str × Nat)} {fi : WI} {g : WG} {tt : WTs} {te : WE} {ts vs : List Nat} (hc : X.calm = true) (hN : X.N.Nodup) (hi : I3 X bx tg iter fi) (ok : BlkOk X.N X.env.scope scope own)
    (hg : ∀ (s : Shared) (H : Hp) (C : Addr) (cl : List (Str × Addr)) (fp : List Addr), G3 (X.blk s H scope (compEnvC scope cl C X.env) fp) bx tg ts g) (ht : ∀ (s : Shared) (H : Hp) (C : Addr) (cl : List (Str × Addr)) (fp : List Addr), Ts3 (X.blk s H scope (compEnvC scope cl C X.env) fp) bx ifs tt)
    (he : ∀ (s : Shared) (H : Hp) (C : Addr) (cl : List (Str × Addr)) (fp : List Addr), E3 (X.blk s H scope (compEnvC scope cl C X.env) fp) bx elt te) (hy : X.N[i]? = some x := by rfl) (hyl : X.env.scope.names.lookup x = some .local := by rfl) (hsw : swapsWith (.ListComp elt [⟨tg, iter, ifs, 0⟩] scope pos) (some (.Name x py)) spos.line X.env = pure true := by exact sw_true rfl rfl rfl (by decide +kernel))
    (hts : ∀ j ∈ ts, j ∈ own.map (·.2) := by decide) (hs : ∀ x, foldedSetIterable iter X.env x = pure x := by intro _; rfl) (hvs : own.map (·.2) = vs := by rfl) :
    S3 X bx (.Assign [.Name x py] (.ListComp elt [⟨tg, iter, ifs, 0⟩] scope pos) spos) (wSet i (wLc fi g tt te vs)) := by
  subst hvs
  refine ⟨PS.weaken (ps_setLc hc hN hy hyl hsw hi.pi ok (fun s H C cl fp => (hg s H C cl fp).pg) (fun s H C cl fp => (ht s H C cl fp).pts) (fun s H C cl fp => (he s H C cl fp).pe) hs) fun D σ H ⟨F, ρ, G, P, st, h, e⟩ => lE_lc hts σ H _ ⟨F, ρ, G, _, st, h, fun r ρ1 v G1 H1 h1 g1 st1 rr => ?_⟩⟩
  obtain ⟨ρ', G', h2, g2, st2⟩ := set_ok i st1 rr h1
  exact e.nx ρ' _ G' H1 h2 (g1.trans g2) st2
/-- target = e -/
def wAsg (fa : WE) (g : WG) : WS := fun P ρ => fa ρ fun r ρ1 => fz r ρ1 fun d ρ2 => g d ρ2 P.nx
theorem s_asg {ts : List Nat} {g : WG} (ha : E3 X bx a fa) (hg : G3 X bx tg ts g) (hs : swapsWithSole [tg] a pos.line X.env = pure false := by rfl) (hw : swappedStores [tg] a X.env = pure none := by rfl) (h1 : (assignEach [tg] X.env).map (·.2) = [assign tg X.env] := by rfl) : S3 X bx (.Assign [tg] a pos) (wAsg fa g) := by
  refine ⟨PS.weaken (ps_asg ha.pe hg.pg hs hw h1) fun D σ H ⟨F, ρ, G, P, st, h, e⟩ => ⟨F, ρ, G, _, st, h, fun r ρ1 v G1 H1 h1 g1 st1 rr => ?_⟩⟩
  obtain ⟨d, ρ2, G2, h2, g2, st2, rd⟩ := fz_ok st1 rr h1
  exact ⟨F, ρ2, G2, d, _, st2, rd, h2, fun ρ3 σ3 G3 H3 h3 g3 st3 _ => e.nx ρ3 σ3 G3 H3 h3 (g1.trans (g2.trans g3)) st3⟩
/-- a, b = x, y -/
def wPar (i j : Nat) (fa : WA) : WS := fun P ρ => fa ρ fun ds ρ1 => match ds with
  | [d1, d2] => P.nx ((ρ1.set i (.val d1)).set j (.val d2))
  | _ => False
theorem s_par (i j : Nat) {y : Str} {px py pt : Pos} {kt k2 : Nat} {pt2 : Pos} (hc : X.calm = true) (hN : X.N.Nodup) (ha : A3 X bx [a, b] fr) (hi : X.N[i]? = some x := by rfl) (hj : X.N[j]? = some y := by rfl) (hij : i ≠ j := by decide)
    (hx : X.env.scope.names.lookup x = some .local := by rfl) (hy : X.env.scope.names.lookup y = some .local := by rfl)
    (hw : swappedStores [.Tuple [.Name x px, .Name y py] kt pt] (.Tuple [a, b] k2 pt2) X.env = pure (some [x, y]) := by rfl)
    (hs : swapsWithSole [.Tuple [.Name x px, .Name y py] kt pt] (.Tuple [a, b] k2 pt2) pos.line X.env = pure false := by rfl) :
    S3 X bx (.Assign [.Tuple [.Name x px, .Name y py] kt pt] (.Tuple [a, b] k2 pt2) pos) (wPar i j fr) := by
  refine ⟨PS.weaken (ps_par (ta := lA X.K bx fr) hc hN hi hj hij hx hy ha.pa hw hs) fun D σ H ⟨F, ρ, G, P, st, h, e⟩ => ⟨F, ρ, G, _, st, h, fun ds ρ1 vs G1 H1 h1 g1 st1 rl => ?_⟩⟩
  split at h1
  · obtain ⟨v, w, rfl, r1, r2⟩ := repL2 rl
    exact ⟨v, w, rfl, e.nx _ _ G1 H1 h1 g1 ((st1.put i r1).put j r2)⟩
  · exact h1.elim
/-- x op= e at a name -/
abbrev IpD (X : Cx) (bx : Bx) (op : Operator) (dop : DOp) : Prop := OpR X (inplaceOp op) (rD X.K bx dop)
def wAug (i : Nat) (dop : DOp) (fa : WE) : WS := fun P ρ => match ρ[i]? with
  | some (.val _) => fa ρ fun r ρ1 => match ρ1[i]? with
    | some (.val d) => pk r ρ1 fun y => dop d y fun r2 => setSl i r2 ρ1 P.nx
    | _ => False
  | _ => False
theorem s_aug (i : Nat) {op : Operator} {dop : DOp} {pos' : Pos} (ho : IpD X bx op dop) (hN : X.N.Nodup) (ha : E3 X bx a fa) (hi : X.N[i]? = some x := by rfl) (hx : Loc X.env.scope x := by first | exact Or.inl rfl | exact Or.inr rfl) (hf : X.fn x = true ∨ X.env.scope.names.lookup x = some .local := by first | exact .inl rfl | exact .inr rfl) :
    S3 X bx (.AugAssign (.Name x pos') op a pos) (wAug i dop fa) := by
  refine ⟨PS.weaken (ps_aug (ti := rD X.K bx dop) hN hi hx ha.pe (fun pins s σ H x y v u Q I r1 r2 h => ho pins s σ H x y v u Q I r1 r2 h) hf) fun D σ H ⟨F, ρ, G, P, st, h, e⟩ => ?_⟩
  have h : match ρ[i]? with
    | some (.val _) => fa ρ fun r ρ1 => match ρ1[i]? with
      | some (.val d) => pk r ρ1 fun y => dop d y fun r2 => setSl i r2 ρ1 P.nx
      | _ => False
    | _ => False := h
  split at h
  · rename_i d0 ed0
    obtain ⟨v, hv, _⟩ := st.vl i d0 ed0
    refine ⟨v, hv, F, ρ, G, _, st, h, fun r ρ1 w G1 H1 h1 g1 st1 rr => ?_⟩
    split at h1
    · rename_i d ed
      obtain ⟨v', e1, q⟩ := st1.vl i d ed
      rw [hv] at e1; cases e1
      obtain ⟨y, h2, vy⟩ := pk_ok st1 rr h1
      exact ⟨G1, d, y, _, st1.gs, .inl q, vy, h2, res_of st1 fun r2 w2 G2 H2 h3 g2 st2 rr2 => by
        obtain ⟨ρ', G', h4, g4, st4⟩ := set_ok i st2 rr2 h3
        exact e.nx ρ' _ G' H2 h4 (g1.trans (g2.trans g4)) st4⟩
    · exact h1.elim
  · exact h.elim

/-! ### loops -/
def wFor (fi : WI) (g : WG) (fb : WS) : WS := fun P ρ => fi ρ fun items ρ1 => ∃ I : Nat → Env3 → Prop, I 0 ρ1 ∧ (∀ i d ρ, items[i]? = some d → I i ρ → g d ρ fun ρ1 => fb { P with nx := I (i + 1), ct := I (i + 1), bk := P.nx } ρ1) ∧ ∀ ρ, I items.length ρ → P.nx ρ
theorem s_for {iter : Expr} {fi : WI} {ts : List Nat} {g : WG} {fb : WS} (hp : PassesOwn (model X.prog X.w) X.A X.env X.xe) (hc : X.calm = true) (hi : I3 X bx tg iter fi) (hg : G3 X bx tg ts g) (hb : Ss3 X bx body fb) (hs : ∀ x, foldedSetIterable iter X.env x = pure x := by intro _; rfl) :
    S3 X bx (.For tg iter body [] pos) (wFor fi g fb) := by
  refine ⟨PS.weaken (ps_for hp hc hi.pi hg.pg hb.pss hs) fun D σ H ⟨F, ρ, G, P, st, h, e⟩ => ⟨F, ρ, G, _, st, h, fun items ρ1 G1 H1 J h1 g1 st1 it => ?_⟩⟩
  obtain ⟨I, h0, hs1, hd1⟩ := h1
  refine ⟨fun i m σ H => m = items.length - i ∧ i ≤ items.length ∧ ∃ ρ2 G2, I i ρ2 ∧ Same G1 G2 ∧ Stt X.K bx F ρ2 σ G2 H, ⟨items.length, rfl, Nat.zero_le _, ρ1, G1, h0, Same.refl G1, st1⟩, ?_⟩
  rintro i m σ2 H2 ⟨rfl, hi, ρ2, G2, hgo, g2, st2⟩
  by_cases hlt : i < items.length
  · refine .inr ⟨it.go i H2 (g2.trans st2.gs) hlt, fun σ' H' => i + 1 ≤ items.length ∧ ∃ ρ2 G2, I (i + 1) ρ2 ∧ Same G1 G2 ∧ Stt X.K bx F ρ2 σ' G2 H', fun σ' H' hN => ⟨items.length - (i + 1), by omega, rfl, hN⟩, fun x H' hy => ?_⟩
    obtain ⟨d, G3, hd, g3, st3, rd⟩ := item_st rfl it g2 st2 hlt hy
    have e3 := e.mono (g1.trans (g2.trans g3))
    refine ⟨F, ρ2, G3, d, _, st3, rd, hs1 i d ρ2 hd hgo, fun ρ4 σ4 G4 H4 h4 g4 st4 _ => ⟨F, ρ4, G4, _, st4, h4, fun ρ5 σ5 G5 H5 h5 g5 st5 => ?_, fun ρ5 σ5 G5 H5 h5 g5 st5 => e3.nx ρ5 σ5 G5 H5 h5 (g4.trans g5) st5, fun ρ5 σ5 G5 H5 h5 g5 st5 => ?_, fun r v G5 H5 h5 g5 fr5 => e3.rt r v G5 H5 h5 (g4.trans g5) fr5⟩⟩
    · exact ⟨by omega, ρ5, G5, h5, g2.trans (g3.trans (g4.trans g5)), st5⟩
    · exact ⟨by omega, ρ5, G5, h5, g2.trans (g3.trans (g4.trans g5)), st5⟩
  · have ei : i = items.length := by omega
    subst ei
    exact .inl ⟨it.stop _ H2 (g2.trans st2.gs) (Nat.le_refl _), e.nx ρ2 σ2 G2 H2 (hd1 ρ2 hgo) (g1.trans g2) st2⟩
/-- a while by its invariant and measure -/
def wWhile (ft : WT) (fb : WS) : WS := fun P ρ => ∃ W : Nat → Env3 → Prop, (∃ m, W m ρ) ∧ ∀ m ρ, W m ρ → ft ρ fun c ρ1 => if c = true then fb { P with nx := fun ρ2 => ∃ m', m' < m ∧ W m' ρ2, ct := fun ρ2 => ∃ m', m' < m ∧ W m' ρ2, bk := P.nx } ρ1 else P.nx ρ1
theorem s_while {fb : WS} (hp : PassesOwn (model X.prog X.w) X.A X.env X.xe) (hc : T3 X bx c ft) (hb : Ss3 X bx body fb) : S3 X bx (.While c body [] pos) (wWhile ft fb) := by
  refine ⟨PS.weaken (ps_while hp hc.pt hb.pss) fun D σ H ⟨F, ρ, G, P, st, ⟨W, ⟨m0, w0⟩, turn⟩, e⟩ => ?_⟩
  refine ⟨fun m σ H => ∃ ρ1 G1, W m ρ1 ∧ Same G G1 ∧ Stt X.K bx F ρ1 σ G1 H, ⟨m0, ρ, G, w0, Same.refl G, st⟩, ?_⟩
  rintro m σ1 H1 ⟨ρ1, G1, w1, g1, st1⟩
  refine ⟨F, ρ1, G1, _, st1, turn m ρ1 w1, fun k ρ2 G2 H2 h2 g2 st2 => ?_⟩
  have e2 := e.mono (g1.trans g2)
  by_cases hb : k = true
  · rw [if_pos hb] at h2
    show if k = true then _ else _
    rw [if_pos hb]
    refine ⟨fun σ' H' => ∃ m', m' < m ∧ ∃ ρ1 G1, W m' ρ1 ∧ Same G G1 ∧ Stt X.K bx F ρ1 σ' G1 H', fun σ' H' ⟨m', hm, q⟩ => ⟨m', hm, q⟩, F, ρ2, G2, _, st2, h2, ?_, ?_, ?_, ?_⟩
    · intro ρ3 σ3 G3 H3 ⟨m', hm, w3⟩ g3 st3
      exact ⟨m', hm, ρ3, G3, w3, g1.trans (g2.trans g3), st3⟩
    · exact fun ρ3 σ3 G3 H3 h3 g3 st3 => e2.nx ρ3 σ3 G3 H3 h3 g3 st3
    · intro ρ3 σ3 G3 H3 ⟨m', hm, w3⟩ g3 st3
      exact ⟨m', hm, ρ3, G3, w3, g1.trans (g2.trans g3), st3⟩
    · exact fun r v G3 H3 h3 g3 fr3 => e2.rt r v G3 H3 h3 g3 fr3
  · rw [if_neg hb] at h2
    show if k = true then _ else _
    rw [if_neg hb]
    exact e2.nx ρ2 σ1 G2 H2 h2 (Same.refl G2) st2

/-! ### owned lists: append, extend, pop, stores -/
def onLst (i : Nat) (ρ : Env3) (k : List D → Prop) : Prop :=
  match ρ[i]? with
  | some (.own (.lst l)) => k l
  | _ => False
/-- the list in slot i changed -/
theorem own_write {K : PySem.W.Frag} {F G H : Hp} {ρ : Env3} {σ : L2.St} {i : Nat} {l l' : List D} {p : Addr} {vs' : List V} (st : Stt K bx F ρ σ G H) (h : ρ[i]? = some (Sl.own (.lst l))) (hp : σ[i]? = some (some (V.ref p))) (r : RepL K bx.adr G vs' l') :
    Stt K bx F (ρ.set i (.own (.lst l'))) σ G (upd H p (.lst vs')) := by
  obtain ⟨q, e1, t, gp, fp, bp⟩ := st.ow i _ h
  rw [hp] at e1; cases e1
  have hi : i < ρ.length := (List.getElem?_eq_some_iff.mp h).1
  have own : ∀ j q d', (ρ.set i (.own (.lst l')))[j]? = some (Sl.own d') → σ[j]? = some (some (V.ref q)) → (j = i ∧ q = p ∧ d' = .lst l') ∨ (j ≠ i ∧ q ≠ p ∧ ρ[j]? = some (Sl.own d')) := fun j q d' e e1 => by
    rcases get_set e with ⟨rfl, e, _⟩ | ⟨hj, e⟩
    · cases e
      rw [hp] at e1; cases e1
      exact .inl ⟨rfl, rfl, rfl⟩
    · refine .inr ⟨hj, fun hq => hj ?_, e⟩
      subst hq
      exact st.dj j i q ⟨⟨_, e⟩, e1⟩ ⟨⟨_, h⟩, hp⟩
  refine ⟨⟨fun a u e => ?_, fun a u e => ?_, st.fg, bx.loc H _ (fun a ha => upd_ne (fun e => bp (e ▸ ha))) st.bi, st.bg⟩, by simp [st.len], fun j d' e => ?_, fun j d' e => ?_, fun j k q ⟨⟨d1, h1⟩, e1⟩ ⟨⟨d2, h2⟩, e2⟩ => ?_⟩
  · rw [upd_ne (ne_of_none e gp)]; exact st.gs a u e
  · rw [upd_ne (ne_of_none e fp)]; exact st.fs a u e
  · rcases get_set e with ⟨rfl, e, _⟩ | ⟨hj, e⟩
    · cases e
    · exact st.vl j d' e
  · rcases get_set e with ⟨rfl, e, _⟩ | ⟨hj, e⟩
    · cases e
      exact ⟨p, hp, .lst upd_same r, gp, fp, bp⟩
    · obtain ⟨q, e1, t1, e2⟩ := st.ow j d' e
      have hq : q ≠ p := fun hq => by
        subst hq
        exact hj (st.dj j i q ⟨⟨_, e⟩, e1⟩ ⟨⟨_, h⟩, hp⟩)
      exact ⟨q, e1, t1.heap (upd_ne hq), e2⟩
  · rcases own j q d1 h1 e1 with ⟨rfl, rfl, rfl⟩ | ⟨hj, hq, o1⟩
    · rcases own k _ d2 h2 e2 with ⟨rfl, _⟩ | ⟨_, hq2, _⟩
      · rfl
      · exact absurd rfl hq2
    · rcases own k q d2 h2 e2 with ⟨_, hq2, _⟩ | ⟨_, _, o2⟩
      · exact absurd hq2 hq
      · exact st.dj j k q ⟨⟨_, o1⟩, e1⟩ ⟨⟨_, o2⟩, e2⟩
theorem own_lst {K : PySem.W.Frag} {F G H : Hp} {ρ : Env3} {σ : L2.St} {i : Nat} {k : List D → Prop} (st : Stt K bx F ρ σ G H) (h : onLst i ρ k) : ∃ l p vs, k l ∧ ρ[i]? = some (Sl.own (.lst l)) ∧ σ[i]? = some (some (V.ref p)) ∧ H p = some (.lst vs) ∧ RepL K bx.adr G vs l := by
  unfold onLst at h
  split at h
  · rename_i l e
    obtain ⟨p, e1, t, _⟩ := st.ow i _ e
    cases t with
    | lst hp r => exact ⟨l, p, _, h, e, e1, hp, r⟩
  · exact h.elim
def wApp (i : Nat) (fa : WE) : WE := fun ρ Q => onLst i ρ fun _ => fa ρ fun r ρ1 => fz r ρ1 fun d ρ2 => onLst i ρ2 fun l => l.length < sizeLine ∧ Q (.val .non) (ρ2.set i (.own (.lst (l ++ [d]))))
theorem e_app (i : Nat) {apos cpos npos : Pos} (ha : E3 X bx a fa) (hi : X.N[i]? = some x := by rfl) (hv : Vis X.env.scope x := by first | exact Or.inl rfl | exact Or.inr (Or.inl rfl) | exact Or.inr (Or.inr rfl)) (hd : (x == ("__debug__" : Str)) = false := by decide) (hcd : (x == ("__classdict__" : Str)) = false := by decide)
    (hbase : attributeBase (.Name x npos) "append" X.env (eval (.Name x npos) X.env) = eval (.Name x npos) X.env := by rfl) (hfew : ((backTo cpos (starEach [a] X.env)).all (fun x => !x.1) && (backToKw cpos (keywordEach [] X.env)).all (fun x => x.1.isSome) && decide ([a].length + ([] : List Keyword).length + (if ([] : List Keyword).isEmpty then 0 else 1) < 30)) = true := by rfl)
    (hline : (apos.endLine == cpos.line) = true := by rfl) (hs : starEach [a] X.env = (false, eval a X.env) :: starEach [] X.env := by rfl) : E3 X bx (.Call (.Attribute (.Name x npos) "append" apos) [a] [] cpos) (wApp i fa) := by
  refine ⟨PE.weaken (pe_bm PySem.F.plainAttrs_list PySem.F.slot_list_append PySem.F.type_list_append mt_append (pv i hi hv hd hcd) (pa_cons ha.pe pa_nil hs) hbase hfew hline hs rfl) fun σ H Q ⟨F, ρ, G, P, st, h, hQ⟩ => ?_⟩
  obtain ⟨l, p, vs, h, e, e1, hp, r⟩ := own_lst st h
  refine ⟨_, e1, .inl ⟨rfl, _, .inl (.inl hp)⟩, F, ρ, G, _, st, h, fun r1 ρ1 v G1 H1 h1 g1 st1 rr => ?_⟩
  obtain ⟨d, ρ2, G2, h2, g2, st2, rd⟩ := fz_ok st1 rr h1
  obtain ⟨l2, q, vs2, ⟨h3, h4⟩, e2, e3, hq, r2⟩ := own_lst st2 h2
  rw [e1] at e3; cases e3
  refine ⟨p, vs2, v, rfl, rfl, hq, by rw [r2.length]; exact h3, ?_⟩
  exact hQ _ _ _ _ _ h4 (g1.trans g2) (own_write st2 e2 e1 (r2.append (.cons rd .nil))) .non
/-- xs.extend(list) -/
def wExt (i : Nat) (fa : WE) : WE := fun ρ Q => onLst i ρ fun _ => fa ρ fun r ρ1 => pk r ρ1 fun d => match d with
  | .lst m => onLst i ρ1 fun l => l.length + m.length ≤ sizeLine ∧ Q (.val .non) (ρ1.set i (.own (.lst (l ++ m))))
  | _ => False
theorem e_ext (i : Nat) {apos cpos npos : Pos} (ha : E3 X bx a fa) (hi : X.N[i]? = some x := by rfl) (hv : Vis X.env.scope x := by first | exact Or.inl rfl | exact Or.inr (Or.inl rfl) | exact Or.inr (Or.inr rfl)) (hd : (x == ("__debug__" : Str)) = false := by decide) (hcd : (x == ("__classdict__" : Str)) = false := by decide)
    (hbase : attributeBase (.Name x npos) "extend" X.env (eval (.Name x npos) X.env) = eval (.Name x npos) X.env := by rfl) (hfew : ((backTo cpos (starEach [a] X.env)).all (fun x => !x.1) && (backToKw cpos (keywordEach [] X.env)).all (fun x => x.1.isSome) && decide ([a].length + ([] : List Keyword).length + (if ([] : List Keyword).isEmpty then 0 else 1) < 30)) = true := by rfl)
    (hline : (apos.endLine == cpos.line) = true := by rfl) (hs : starEach [a] X.env = (false, eval a X.env) :: starEach [] X.env := by rfl) : E3 X bx (.Call (.Attribute (.Name x npos) "extend" apos) [a] [] cpos) (wExt i fa) := by
  refine ⟨PE.weaken (pe_bm PySem.F.plainAttrs_list PySem.F.slot_list_extend PySem.F.type_list_extend mt_extend (pv i hi hv hd hcd) (pa_cons ha.pe pa_nil hs) hbase hfew hline hs rfl) fun σ H Q ⟨F, ρ, G, P, st, h, hQ⟩ => ?_⟩
  obtain ⟨l, p, vs, h, e, e1, hp, r⟩ := own_lst st h
  refine ⟨_, e1, .inl ⟨rfl, _, .inl (.inl hp)⟩, F, ρ, G, _, st, h, fun r1 ρ1 v G1 H1 h1 g1 st1 rr => ?_⟩
  obtain ⟨d, h2, vd⟩ := pk_ok st1 rr h1
  split at h2
  · obtain ⟨q, ws, rfl, hq, rq⟩ := view_lst st1.gs vd
    obtain ⟨l2, q2, vs2, ⟨h3, h4⟩, e2, e3, hq2, r2⟩ := own_lst st1 h2
    rw [e1] at e3; cases e3
    refine ⟨p, q, vs2, ws, rfl, rfl, hq2, hq, by rw [r2.length, rq.length]; exact h3, ?_⟩
    exact hQ _ _ _ _ _ h4 g1 (own_write st1 e2 e1 (r2.append rq)) .non
  · exact h2.elim
/-- xs.pop() -/
def wPop (i : Nat) : WE := fun ρ Q => onLst i ρ fun l => ∃ d, l[l.length - 1]? = some d ∧ Q (.val d) (ρ.set i (.own (.lst l.dropLast)))
theorem e_pop (i : Nat) {apos cpos npos : Pos} (hi : X.N[i]? = some x := by rfl) (hv : Vis X.env.scope x := by first | exact Or.inl rfl | exact Or.inr (Or.inl rfl) | exact Or.inr (Or.inr rfl)) (hd : (x == ("__debug__" : Str)) = false := by decide) (hcd : (x == ("__classdict__" : Str)) = false := by decide)
    (hbase : attributeBase (.Name x npos) "pop" X.env (eval (.Name x npos) X.env) = eval (.Name x npos) X.env := by rfl) (hline : (apos.endLine == cpos.line) = true := by rfl) : E3 X bx (.Call (.Attribute (.Name x npos) "pop" apos) [] [] cpos) (wPop i) := by
  refine ⟨PE.weaken (pe_bm0 PySem.F.plainAttrs_list PySem.F.slot_list_pop PySem.F.type_list_pop mt_pop (pv i hi hv hd hcd) hbase hline) fun σ H Q ⟨F, ρ, G, P, st, h, hQ⟩ => ?_⟩
  obtain ⟨l, p, vs, h, e, e1, hp, r⟩ := own_lst st h
  obtain ⟨d, ed, h⟩ := h
  obtain ⟨v, hv2, q⟩ := r.get ed
  rw [← r.length] at hv2
  refine ⟨_, e1, .inl ⟨rfl, _, .inl (.inl hp)⟩, p, vs, v, rfl, rfl, hp, hv2, ?_⟩
  exact hQ _ _ _ _ _ h (Same.refl G) (own_write st e e1 r.dropLast) q
/-- xs[k] = e -/
def wPutIx (i : Nat) (fk fa : WE) : WS := fun P ρ => fa ρ fun r ρ1 => fz r ρ1 fun d ρ2 => onLst i ρ2 fun _ => fk ρ2 fun rk ρ3 => pk rk ρ3 fun k => asI k fun k => onLst i ρ3 fun l => ∃ j, ixN l.length k = some j ∧ P.nx (ρ3.set i (.own (.lst (l.set j d))))
theorem s_putIx (i : Nat) {npos tpos : Pos} (hk : E3 X bx b fb) (ha : E3 X bx a fa) (hi : X.N[i]? = some x := by rfl) (hv : Vis X.env.scope x := by first | exact Or.inl rfl | exact Or.inr (Or.inl rfl) | exact Or.inr (Or.inr rfl)) (hd : (x == ("__debug__" : Str)) = false := by decide) (hcd : (x == ("__classdict__" : Str)) = false := by decide)
    (has : ∀ v, assign (.Subscript (.Name x npos) b tpos) X.env v = (do
      let ov ← holding [v] (eval (.Name x npos) X.env)
      let iv ← holding [v, ov] (eval b X.env)
      standAt tpos
      holding [v, ov, iv] (setItem ov iv v)
      release [v, ov, iv] []) := by intro _; rfl)
    (hs : swapsWithSole [.Subscript (.Name x npos) b tpos] a pos.line X.env = pure false := by rfl) (hw : swappedStores [.Subscript (.Name x npos) b tpos] a X.env = pure none := by rfl) (h1 : (assignEach [.Subscript (.Name x npos) b tpos] X.env).map (·.2) = [assign (.Subscript (.Name x npos) b tpos) X.env] := by rfl) :
    S3 X bx (.Assign [.Subscript (.Name x npos) b tpos] a pos) (wPutIx i fb fa) := by
  refine ⟨PS.weaken (ps_asg ha.pe (pg_sub (pv i hi hv hd hcd) hk.pe set_list has) hs hw h1) fun D σ H ⟨F, ρ, G, P, st, h, e⟩ => ⟨F, ρ, G, _, st, h, fun r ρ1 v G1 H1 h1 g1 st1 rr => ?_⟩⟩
  obtain ⟨d, ρ2, G2, h2, g2, st2, rd⟩ := fz_ok st1 rr h1
  obtain ⟨l, p, vs, h2, eo, e1, hp, rl⟩ := own_lst st2 h2
  refine ⟨_, e1, F, ρ2, G2, _, st2, h2, fun rk ρ3 w G3 H3 h3 g3 st3 rr3 => ?_⟩
  obtain ⟨k, h4, vk⟩ := pk_ok st3 rr3 h3
  cases k <;> first
    | exact (show False from h4).elim
    | skip
  rename_i k
  obtain rfl := view_int vk
  have h4 : onLst i ρ3 fun l => ∃ j, ixN l.length k = some j ∧ P.nx (ρ3.set i (.own (.lst (l.set j d)))) := h4
  obtain ⟨l2, q, vs2, h5, eo2, e3, hq, r2⟩ := own_lst st3 h4
  rw [e1] at e3; cases e3
  obtain ⟨j, ej, h5⟩ := h5
  refine ⟨p, vs2, k, j, rfl, rfl, hq, by rw [r2.length]; exact ej, ?_⟩
  exact e.nx _ _ _ _ h5 (g1.trans (g2.trans g3)) (own_write st3 eo2 e1 (r2.set j (rd.mono g3)))
end

/-! ### a def keeps its promise -/
section
variable {P : Program} {w : World} {K : PySem.W.Frag} {mg : Str → Option Value} {base : Heap} {bx : Bx}
def start3 (N : List Str) (ds : List D) : Env3 := ds.map Sl.val ++ List.replicate (N.length - ds.length) Sl.un
theorem start_st {F G H : Hp} {N : List Str} {vs : List V} {ds : List D} (fr : Fr3 bx F G H) (r : RepL K bx.adr G vs ds) : Stt K bx F (start3 N ds) (start N vs) G H := by
  have hl := r.length
  have noown : ∀ (i : Nat) (d : D), (start3 N ds)[i]? ≠ some (Sl.own d) := fun i d e => by
    unfold start3 at e
    have hm := List.mem_of_getElem? e
    rcases List.mem_append.mp hm with h | h
    · obtain ⟨x, _, hx⟩ := List.mem_map.mp h
      cases hx
    · have := (List.mem_replicate.mp h).2
      cases this
  refine ⟨fr, ?_, fun i d e => ?_, fun i d e => absurd e (noown i d), fun i j p ⟨⟨d, e⟩, _⟩ _ => absurd e (noown i d)⟩
  · simp [start3, start, hl]
  · unfold start3 at e
    by_cases hi : i < ds.length
    · rw [List.getElem?_append_left (by simpa using hi), List.getElem?_map] at e
      cases ed : ds[i]? with
      | none => rw [ed] at e; cases e
      | some d' =>
        rw [ed] at e
        have : d' = d := by simpa using e
        subst this
        obtain ⟨v, hv, q⟩ := r.get ed
        refine ⟨v, ?_, q⟩
        unfold start
        rw [List.getElem?_append_left (by rw [List.length_map, hl]; exact hi), List.getElem?_map, hv]
        rfl
    · rw [List.getElem?_append_right (by simpa using hi), List.getElem?_replicate] at e
      split at e <;> cases e
theorem def3 {x qual : Str} {st : Stmt} {f : Addr} {fd : FuncData} {N ps : List Str} {k : Nat} {C : Con} (F : Fun K x qual st f fd) (S : FnScope N ps (defScope st)) (len : ∀ ds Q, C ds Q → ds.length = ps.length) {fb : WS}
    (hbody : ∀ (cdv : Value) (A : Around) (outer : List Env) (s : Shared) (H : Hp) (E : XK), Room k (A.deeper (envOfC qual (defScope st) s.heap.objs.size f cdv)) → Ss3 (cxOf CX0 P w K mg base N qual (defScope st) f cdv A outer s H E).nox bx (defBody st) fb)
    (hvc : ∀ ds Q, C ds Q → fb { nx := fun _ => Q (.val .non), rt := Q } (start3 N ds)) : FnOk P w K mg base CX0 (k + 1) f fd ps (spOf K bx C) := by
  refine F.ok S (fun vs H Q E ⟨F, G, ds, P, fr, r, h, hQ⟩ => by rw [r.length]; exact len ds P h) fun cdv A outer s H vs Q E hr ⟨Fr, G, ds, P, fr, r, h, hQ⟩ => ⟨_, (hbody cdv A outer s H E hr).pss, ?_⟩
  refine ⟨Fr, start3 N ds, G, _, start_st fr r, hvc ds P h, ⟨fun ρ σ G' H' h g st => hQ _ _ G' H' h g st.toFr3 .non, fun ρ σ G' H' h g st => h.elim, fun ρ σ G' H' h g st => h.elim, fun r v G' H' h g fr rr => hQ r v G' H' h g fr rr⟩⟩
end
end L2.W3

/-! W3, part h: texts, more stores. -/
namespace L2.W3
open PySem PySem.Spec PyProof.Rows

/-! ### joined texts -/
def isStr : D → Bool
  | .str _ => true
  | _ => false
def strOf : D → List Nat
  | .str s => s
  | _ => []
def joinS (S : List Nat) : List (List Nat) → List Nat
  | [] => []
  | [p] => p
  | p :: q :: r => p ++ (S ++ joinS S (q :: r))
theorem joinS_nil : ∀ l : List (List Nat), joinS [] l = l.flatten
  | [] => rfl
  | [p] => by simp [joinS]
  | p :: q :: r => by rw [joinS, joinS_nil (q :: r)]; simp
theorem RepL.strs {K : PySem.W.Frag} {B : Addr} {G : Hp} : ∀ {vs : List V} {ds : List D}, RepL K B G vs ds → ds.all isStr = true → vs = (ds.map fun d => (⟨(strOf d).toArray⟩ : Str)).map V.str ∧ ∀ d ∈ ds, okS (strOf d) = true
  | _, _, .nil, _ => ⟨rfl, fun _ h => nomatch h⟩
  | _, _, .cons (d := d) a r, h => by
    rw [List.all_cons, Bool.and_eq_true] at h
    cases d <;> first
      | exact absurd (show false = true from h.1) (by decide)
      | skip
    cases a with
    | str o =>
      obtain ⟨e, f⟩ := RepL.strs r h.2
      refine ⟨by rw [e]; rfl, fun d hd => ?_⟩
      rcases List.mem_cons.mp hd with rfl | hd
      · exact o
      · exact f d hd
theorem okS_join {S : List Nat} (hS : okS S = true) : ∀ {l : List (List Nat)}, (∀ p ∈ l, okS p = true) → okS (joinS S l) = true
  | [], _ => rfl
  | [p], h => h p List.mem_cons_self
  | p :: q :: r, h => by
    rw [joinS]
    exact okS_append (h p List.mem_cons_self) (okS_append hS (okS_join hS fun x hx => h x (List.mem_cons_of_mem _ hx)))
theorem str_join (S : List Nat) : ∀ l : List (List Nat), Str.join ⟨S.toArray⟩ (l.map fun p => (⟨p.toArray⟩ : Str)) = ⟨(joinS S l).toArray⟩
  | [] => rfl
  | [p] => rfl
  | p :: q :: r => by
    have ih := str_join S (q :: r)
    show (⟨p.toArray⟩ : Str) ++ ⟨S.toArray⟩ ++ Str.join ⟨S.toArray⟩ ((q :: r).map fun p => (⟨p.toArray⟩ : Str)) = _
    rw [ih, str_app, str_app, joinS, List.append_assoc]
theorem txt_join (S : List Nat) (l : List (List Nat)) : Txt.join ⟨S.toArray⟩ (l.map fun p => (⟨p.toArray⟩ : Str)) = ⟨(joinS S l).toArray⟩ := by
  rw [TL.join_eq, str_join]
def joinD : DOp
  | .str S, .lst l, P => l.all isStr = true ∧ (l.map fun d => (strOf d).length).sum + l.length * S.length ≤ 16777216 ∧ P (.val (.str (joinS S (l.map strOf))))
  | .str S, .tup l, P => l.all isStr = true ∧ (l.map fun d => (strOf d).length).sum + l.length * S.length ≤ 16777216 ∧ P (.val (.str (joinS S (l.map strOf))))
  | _, _, _ => False
section
variable {X : Cx} {bx : Bx} {a b c e tg : Expr} {es tgs : List Expr} {fa fb fc : WE} {fr : WA} {ft : WT} {pos : Pos} {x : Str} {p : Pos}
theorem opD_join {pins : List (Addr × Obj)} {s : Shared} {σ : L2.St} {H : Hp} {x y : V} {v u : Value} {Q : VK} (I : Inv X pins σ H s) (rx : RelV x v) (ry : RelV y u) (h : rD X.K bx joinD x y H Q) : wpAny (model X.prog X.w) X.A (call (.builtin "str.join") [v, u]) (EP X pins σ Q) X.xe s := by
  obtain ⟨G, d1, d2, P, g, v1, v2, h, R⟩ := h
  have key : ∀ (S : List Nat) (l : List D) (a : Addr) (vs : List V), okS S = true → RepL X.K bx.adr G vs l → l.all isStr = true → (l.map fun d => (strOf d).length).sum + l.length * S.length ≤ 16777216 → P (.val (.str (joinS S (l.map strOf)))) → x = .str ⟨S.toArray⟩ → y = .ref a → (SqL X.K H a vs ∨ SqT X.K H a vs) →
      wpAny (model X.prog X.w) X.A (call (.builtin "str.join") [v, u]) (EP X pins σ Q) X.xe s := by
    intro S l a vs o r hs hl hp ex ey hq
    subst ex ey
    obtain ⟨ev, ok⟩ := r.strs hs
    subst ev
    refine mt_join pins s σ H _ [.ref a] v [u] Q I rx (.cons ry .nil) ⟨_, a, _, rfl, rfl, hq, ?_, ?_⟩
    · rw [List.map_map, List.length_map, str_len]
      have e : (l.map ((fun x : Str => x.length) ∘ fun d => (⟨(strOf d).toArray⟩ : Str))) = l.map fun d => (strOf d).length := List.map_congr_left fun d _ => str_len _
      rw [e]
      exact hl
    · have e : (l.map fun d => (⟨(strOf d).toArray⟩ : Str)) = (l.map strOf).map fun p => (⟨p.toArray⟩ : Str) := by rw [List.map_map]; rfl
      rw [e, txt_join]
      refine R.val _ _ hp (.str (okS_join o fun p hp => ?_))
      obtain ⟨d, hd, rfl⟩ := List.mem_map.mp hp
      exact ok d hd
  unfold joinD at h
  split at h
  · obtain ⟨ex, o⟩ := view_str v1
    obtain ⟨a, vs, ey, s1, r1⟩ := view_lst g v2
    exact key _ _ a vs o r1 h.1 h.2.1 h.2.2 ex ey (.inl (.inl (.inl s1)))
  · obtain ⟨ex, o⟩ := view_str v1
    obtain ⟨a, vs, ey, s1, r1, _⟩ := view_tup g v2
    exact key _ _ a vs o r1 h.1 h.2.1 h.2.2 ex ey (.inr s1)
  · exact h.elim
/-- a method of a text with one argument -/
def wStrM (dop : DOp) (fa fb : WE) : WE := fun ρ Q => fa ρ fun r1 ρ1 => match r1 with
  | .val (.str s) => fb ρ1 fun r2 ρ2 => pk r2 ρ2 fun y => dop (.str s) y fun r => Q r ρ2
  | _ => False
theorem e_strM1 {name : Str} {id : String} {dop : DOp} {apos cpos : Pos} (slot : Slot "str" name id) (hty : typeOf (.builtin id) = pure (.type "method_descriptor"))
    (hop : ∀ (pins : List (Addr × Obj)) (s : Shared) (σ : L2.St) (H : Hp) (x y : V) (v u : Value) (Q : VK), Inv X pins σ H s → RelV x v → RelV y u → rD X.K bx dop x y H Q → wpAny (model X.prog X.w) X.A (call (.builtin id) [v, u]) (EP X pins σ Q) X.xe s)
    (ha : E3 X bx a fa) (hb : E3 X bx b fb)
    (hbase : attributeBase a name X.env (eval a X.env) = eval a X.env := by rfl) (hfew : ((backTo cpos (starEach [b] X.env)).all (fun x => !x.1) && (backToKw cpos (keywordEach [] X.env)).all (fun x => x.1.isSome) && decide ([b].length + ([] : List Keyword).length + (if ([] : List Keyword).isEmpty then 0 else 1) < 30)) = true := by rfl)
    (hline : (apos.endLine == cpos.line) = true := by rfl) (hs : starEach [b] X.env = (false, eval b X.env) :: starEach [] X.env := by rfl) : E3 X bx (.Call (.Attribute a name apos) [b] [] cpos) (wStrM dop fa fb) := by
  refine ⟨PE.weaken (pe_bm (r := fun x xs H Q => ∃ y, xs = [y] ∧ rD X.K bx dop x y H Q) PySem.F.plainAttrs_str slot hty (fun pins s σ H x xs v us Q I rx rxs ⟨y, ey, h⟩ => ?_) ha.pe (pa_cons hb.pe pa_nil hs) hbase hfew hline hs rfl) fun σ H Q ⟨F, ρ, G, P, st, hf, hQ⟩ => ⟨F, ρ, G, _, st, hf, fun r1 ρ1 w1 G1 H1 h1 g1 st1 rr1 => ?_⟩⟩
  · subst ey
    cases rxs with
    | cons r rr =>
      cases rr
      exact hop pins s σ H x y v _ Q I rx r h
  · split at h1
    · rename_i z
      cases rr1 with
      | str o =>
        refine ⟨rfl, F, ρ1, G1, _, st1, h1, fun r2 ρ2 w2 G2 H2 h2 g2 st2 rr2 => ⟨w2, rfl, ?_⟩⟩
        obtain ⟨y, h3, vy⟩ := pk_ok st2 rr2 h2
        exact ⟨G2, .str z, y, _, st2.gs, .inl (.str o), vy, h3, res_of st2 fun r w G3 H3 h g st3 rr => hQ r ρ2 w G3 H3 h (g1.trans (g2.trans g)) st3 rr⟩
    · exact h1.elim
theorem e_join {apos cpos : Pos} (ha : E3 X bx a fa) (hb : E3 X bx b fb)
    (hbase : attributeBase a "join" X.env (eval a X.env) = eval a X.env := by rfl) (hfew : ((backTo cpos (starEach [b] X.env)).all (fun x => !x.1) && (backToKw cpos (keywordEach [] X.env)).all (fun x => x.1.isSome) && decide ([b].length + ([] : List Keyword).length + (if ([] : List Keyword).isEmpty then 0 else 1) < 30)) = true := by rfl)
    (hline : (apos.endLine == cpos.line) = true := by rfl) (hs : starEach [b] X.env = (false, eval b X.env) :: starEach [] X.env := by rfl) : E3 X bx (.Call (.Attribute a "join" apos) [b] [] cpos) (wStrM joinD fa fb) :=
  e_strM1 PySem.F.slot_str_join PySem.F.type_str_join (fun pins s σ H x y v u Q I rx ry h => opD_join I rx ry h) ha hb hbase hfew hline hs

/-! ### s.find(t, i) -/
/-- the first place from i on at which t stands in s, or -1 -/
def stands (t s : List Nat) (k : Nat) : Bool := (s.drop k).take t.length == t
def findFrom (s t : List Nat) (i : Nat) : Int := match ((List.range (s.length + 1)).filter fun k => decide (i ≤ k) && stands t s k).head? with
  | some k => (k : Int)
  | none => -1
theorem filter_head {p : Nat → Bool} {n i : Nat} (hi : i < n) (hp : p i = true) (hno : ∀ k, k < i → p k = false) : ((List.range n).filter p).head? = some i := by
  have e : List.range n = List.range i ++ (List.range' i (n - i)) := by
    have h0 : n = i + (n - i) := by omega
    rw [h0, List.range_add, List.range'_eq_map_range]
    congr 1
    rw [Nat.add_sub_cancel_left]
  have e2 : List.range' i (n - i) = i :: List.range' (i + 1) (n - i - 1) := by
    obtain ⟨m, hm⟩ : ∃ m, n - i = m + 1 := ⟨n - i - 1, by omega⟩
    rw [hm, List.range'_succ]; rfl
  rw [e, List.filter_append, e2, List.filter_cons_of_pos hp]
  have e3 : (List.range i).filter p = [] := by
    rw [List.filter_eq_nil_iff]
    intro k hk
    rw [hno k (List.mem_range.mp hk)]
    decide
  rw [e3]; rfl
theorem find3_eq (s t : List Nat) (i : Nat) (ht : t ≠ []) : Txt.find3 ⟨s.toArray⟩ ⟨t.toArray⟩ (i : Int) = findFrom s t i := by
  unfold Txt.find3
  have hf : fromIndex (⟨s.toArray⟩ : Str).length (i : Int) = i := by
    unfold fromIndex
    rw [if_neg (by omega)]
    omega
  have hat : ∀ k, StrLaws.At ⟨s.toArray⟩ ⟨t.toArray⟩ (⟨s.toArray⟩ : Str).length k ↔ stands t s k = true := fun k => by
    have := TL.at_iff (x := ⟨s.toArray⟩) (y := ⟨t.toArray⟩) (by simpa [TL.tl] using ht) k
    simpa [TL.tl, TL.pre, stands] using this
  rw [hf]
  rcases StrLaws.occ_head_from ⟨s.toArray⟩ ⟨t.toArray⟩ i 1 (Nat.le_refl _) with ⟨e, hn⟩ | ⟨k, r, e, hik, ha, hno⟩
  · rw [e]
    unfold findFrom
    have e3 : ((List.range (s.length + 1)).filter fun k => decide (i ≤ k) && stands t s k) = [] := by
      rw [List.filter_eq_nil_iff]
      intro k _ hk
      rw [Bool.and_eq_true, decide_eq_true_eq] at hk
      exact hn k hk.1 ((hat k).mpr hk.2)
    rw [e3]; rfl
  · rw [e]
    unfold findFrom
    have hk : k < s.length + 1 := by
      have := ha.1
      rw [str_len, str_len] at this
      omega
    rw [filter_head hk (by rw [Bool.and_eq_true, decide_eq_true_eq]; exact ⟨hik, (hat k).mp ha⟩) (fun j hj => by
      cases hd : decide (i ≤ j) with
      | false => rfl
      | true =>
        have h1 := hno j (of_decide_eq_true hd) hj
        cases hs : stands t s j with
        | false => rfl
        | true => exact absurd ((hat j).mpr hs) h1)]
def wFind3 (fa fb fc : WE) : WE := fun ρ Q => fa ρ fun r1 ρ1 => match r1 with
  | .val (.str s) => fb ρ1 fun r2 ρ2 => match r2 with
    | .val (.str t) => fc ρ2 fun r3 ρ3 => match r3 with
      | .val (.int i) => 0 ≤ i ∧ t ≠ [] ∧ Q (.val (.int (findFrom s t i.toNat))) ρ3
      | _ => False
    | _ => False
  | _ => False
theorem e_find3 {apos cpos : Pos} (ha : E3 X bx a fa) (hb : E3 X bx b fb) (hc : E3 X bx c fc)
    (hbase : attributeBase a "find" X.env (eval a X.env) = eval a X.env := by rfl) (hfew : ((backTo cpos (starEach [b, c] X.env)).all (fun x => !x.1) && (backToKw cpos (keywordEach [] X.env)).all (fun x => x.1.isSome) && decide ([b, c].length + ([] : List Keyword).length + (if ([] : List Keyword).isEmpty then 0 else 1) < 30)) = true := by rfl)
    (hline : (apos.endLine == cpos.line) = true := by rfl) (hs : starEach [b, c] X.env = (false, eval b X.env) :: starEach [c] X.env := by rfl) (hs2 : starEach [c] X.env = (false, eval c X.env) :: starEach [] X.env := by rfl) (hpl : (backTo cpos (starEach [c] X.env)).any (·.1) = false := by rfl) :
    E3 X bx (.Call (.Attribute a "find" apos) [b, c] [] cpos) (wFind3 fa fb fc) := by
  refine ⟨PE.weaken (pe_bm PySem.F.plainAttrs_str PySem.F.slot_str_find PySem.F.type_str_find mt_find3 ha.pe (pa_cons hb.pe (pa_cons hc.pe pa_nil hs2) hs) hbase hfew hline hs hpl) fun σ H Q ⟨F, ρ, G, P, st, hf, hQ⟩ => ⟨F, ρ, G, _, st, hf, fun r1 ρ1 w1 G1 H1 h1 g1 st1 rr1 => ?_⟩⟩
  split at h1
  · cases rr1 with
    | str o1 =>
      refine ⟨rfl, F, ρ1, G1, _, st1, h1, fun r2 ρ2 w2 G2 H2 h2 g2 st2 rr2 => ?_⟩
      split at h2
      · cases rr2 with
        | str o2 =>
          refine ⟨F, ρ2, G2, _, st2, h2, fun r3 ρ3 w3 G3 H3 h3 g3 st3 rr3 => ?_⟩
          split at h3
          · rename_i i
            cases rr3
            obtain ⟨h0, ht, h3⟩ := h3
            refine ⟨_, _, i, rfl, rfl, ?_⟩
            have e : i = ((i.toNat : Nat) : Int) := (Int.toNat_of_nonneg h0).symm
            rw [e, find3_eq _ _ _ ht]
            exact hQ _ _ _ _ _ h3 (g1.trans (g2.trans g3)) st3 (.int _)
          · exact h3.elim
      · exact h2.elim
  · exact h1.elim

/-! ### a, b = x, y: new things stay owned -/
def nz (r : R) (ρ : Env3) (k : R → Env3 → Prop) : Prop :=
  match r with
  | .val d => k (.val d) ρ
  | .new d => k (.new d) ρ
  | .slot i => match ρ[i]? with
    | some (.val d) => k (.val d) ρ
    | some (.own d) => k (.val d) (ρ.set i (.val d))
    | _ => False
def isSlot : R → Bool
  | .slot _ => true
  | _ => false
theorem nz_ok {K : PySem.W.Frag} {F G H : Hp} {ρ : Env3} {σ : L2.St} {r : R} {v : V} {k : R → Env3 → Prop} (st : Stt K bx F ρ σ G H) (rr : RepR K bx F ρ σ G H r v) (h : nz r ρ k) : ∃ r' ρ' G', k r' ρ' ∧ isSlot r' = false ∧ Same G G' ∧ Stt K bx F ρ' σ G' H ∧ RepR K bx F ρ' σ G' H r' v := by
  cases r with
  | val d => exact ⟨_, ρ, G, h, rfl, Same.refl G, st, rr⟩
  | new d => exact ⟨_, ρ, G, h, rfl, Same.refl G, st, rr⟩
  | slot i =>
    have h2 : fz (.slot i) ρ fun d ρ' => k (.val d) ρ' := h
    obtain ⟨d, ρ', G', h3, g, st', rd⟩ := fz_ok st rr h2
    exact ⟨_, ρ', G', h3, rfl, g, st', rd⟩
/-- as pend_back, the slots may have changed -/
theorem pend_back' {K : PySem.W.Frag} {F0 G0 H0 G1 H1 : Hp} {ρ0 ρ1 : Env3} {σ σ' : L2.St} {r : R} {v : V} (hr : isSlot r = false) (st0 : Stt K bx F0 ρ0 σ G0 H0) (rr : RepR K bx F0 ρ0 σ G0 H0 r v) (g : Same G0 G1) (st1 : Stt K bx (pend F0 H0 r v) ρ1 σ' G1 H1) :
    Stt K bx F0 ρ1 σ' G1 H1 ∧ RepR K bx F0 ρ1 σ' G1 H1 r v := by
  cases r with
  | val d => exact ⟨st1, Rep.mono g rr⟩
  | slot i => cases hr
  | new d =>
    obtain ⟨p, rfl, ⟨tp, gp, fp, bp⟩, no⟩ := rr
    obtain ⟨o, ho⟩ := tp.some
    have pp : pend F0 H0 (.new d) (.ref p) p = some o := by simp only [pend, if_pos]; exact ho
    have pn : ∀ a, a ≠ p → pend F0 H0 (.new d) (.ref p) a = F0 a := fun a h => by simp only [pend, if_neg h]
    have ne : ∀ a o', F0 a = some o' → a ≠ p := fun a o' e h => by subst h; rw [fp] at e; cases e
    have hp1 : H1 p = H0 p := (st1.fs p o pp).trans ho.symm
    refine ⟨⟨⟨st1.gs, fun a u e => st1.fs a u (by rw [pn a (ne a u e)]; exact e), fun a u e => st1.fg a u (by rw [pn a (ne a u e)]; exact e), st1.bi, fun a ha => ⟨(st1.bg a ha).1, (st0.bg a ha).2⟩⟩, st1.len, st1.vl, fun i d' e => ?_, st1.dj⟩,
      p, rfl, ⟨(tp.mono g).heap hp1, st1.fg p o pp, fp, bp⟩, fun i hi => ?_⟩
    · obtain ⟨q, e1, t, e2, e3, e4⟩ := st1.ow i d' e
      have h : q ≠ p := fun h => by subst h; rw [pp] at e3; cases e3
      exact ⟨q, e1, t, e2, by rw [pn q h] at e3; exact e3, e4⟩
    · obtain ⟨⟨d', e⟩, e1⟩ := hi
      obtain ⟨q, e1', t, e2, e3, e4⟩ := st1.ow i d' e
      rw [e1] at e1'; cases e1'
      rw [pp] at e3; cases e3
def wPar2 (i j : Nat) (fa fb : WE) : WS := fun P ρ => fa ρ fun r1 ρ1 => nz r1 ρ1 fun r1 ρ2 => fb ρ2 fun r2 ρ3 => nz r2 ρ3 fun r2 ρ4 => setSl j r2 ρ4 fun ρ5 => setSl i r1 ρ5 P.nx
theorem s_par2 (i j : Nat) {y : Str} {px py pt : Pos} {kt k2 : Nat} {pt2 : Pos} (hc : X.calm = true) (hN : X.N.Nodup) (ha : E3 X bx a fa) (hb : E3 X bx b fb) (hi : X.N[i]? = some x := by rfl) (hj : X.N[j]? = some y := by rfl) (hij : i ≠ j := by decide)
    (hx : X.env.scope.names.lookup x = some .local := by rfl) (hy : X.env.scope.names.lookup y = some .local := by rfl)
    (hs1 : starEach [a, b] X.env = (false, eval a X.env) :: starEach [b] X.env := by rfl) (hs2 : starEach [b] X.env = (false, eval b X.env) :: starEach [] X.env := by rfl)
    (hw : swappedStores [.Tuple [.Name x px, .Name y py] kt pt] (.Tuple [a, b] k2 pt2) X.env = pure (some [x, y]) := by rfl)
    (hs : swapsWithSole [.Tuple [.Name x px, .Name y py] kt pt] (.Tuple [a, b] k2 pt2) pos.line X.env = pure false := by rfl) :
    S3 X bx (.Assign [.Tuple [.Name x px, .Name y py] kt pt] (.Tuple [a, b] k2 pt2) pos) (wPar2 i j fa fb) := by
  refine ⟨PS.weaken (ps_par hc hN hi hj hij hx hy (pa_cons ha.pe (pa_cons hb.pe pa_nil hs2) hs1) hw hs) fun D σ H ⟨F, ρ, G, P, st, h, e⟩ => ⟨F, ρ, G, _, st, h, fun r1 ρ1 v1 G1 H1 h1 g1 st1 rr1 => ?_⟩⟩
  obtain ⟨r1', ρ2, G2, h2, n1, g2, st2, rr2⟩ := nz_ok st1 rr1 h1
  refine ⟨pend F H1 r1' v1, ρ2, G2, _, pend_st st2 rr2, h2, fun r3 ρ3 v3 G3 H3 h3 g3 st3 rr3 => ?_⟩
  obtain ⟨r3', ρ4, G4, h4, n3, g4, st4, rr4⟩ := nz_ok st3 rr3 h3
  refine ⟨v1, v3, rfl, ?_⟩
  rw [List.set_comm _ _ hij]
  obtain ⟨ρ5, G5, h5, g5, st5⟩ := set_ok j st4 rr4 h4
  obtain ⟨st5', rr5⟩ := pend_back' n1 st2 rr2 (g3.trans (g4.trans g5)) st5
  obtain ⟨ρ6, G6, h6, g6, st6⟩ := set_ok i st5' rr5 h5
  exact e.nx ρ6 _ G6 H3 h6 (g1.trans (g2.trans (g3.trans (g4.trans (g5.trans g6))))) st6
def wPar3 (i j l : Nat) (fa fb fc : WE) : WS := fun P ρ => fa ρ fun r1 ρ1 => nz r1 ρ1 fun r1 ρ2 => fb ρ2 fun r2 ρ3 => nz r2 ρ3 fun r2 ρ4 => fc ρ4 fun r3 ρ5 => nz r3 ρ5 fun r3 ρ6 => setSl l r3 ρ6 fun ρ7 => setSl j r2 ρ7 fun ρ8 => setSl i r1 ρ8 P.nx
theorem s_par3 (i j l : Nat) {y z : Str} {px py pz pt : Pos} {kt k2 : Nat} {pt2 : Pos} (hc : X.calm = true) (hN : X.N.Nodup) (ha : E3 X bx a fa) (hb : E3 X bx b fb) (hcc : E3 X bx c fc) (hi : X.N[i]? = some x := by rfl) (hj : X.N[j]? = some y := by rfl) (hl : X.N[l]? = some z := by rfl) (hij : i ≠ j := by decide) (hil : i ≠ l := by decide) (hjl : j ≠ l := by decide)
    (hx : X.env.scope.names.lookup x = some .local := by rfl) (hy : X.env.scope.names.lookup y = some .local := by rfl) (hz : X.env.scope.names.lookup z = some .local := by rfl)
    (hs1 : starEach [a, b, c] X.env = (false, eval a X.env) :: starEach [b, c] X.env := by rfl) (hs2 : starEach [b, c] X.env = (false, eval b X.env) :: starEach [c] X.env := by rfl) (hs3 : starEach [c] X.env = (false, eval c X.env) :: starEach [] X.env := by rfl)
    (hw : swappedStores [.Tuple [.Name x px, .Name y py, .Name z pz] kt pt] (.Tuple [a, b, c] k2 pt2) X.env = pure (some [x, y, z]) := by rfl)
    (hs : swapsWithSole [.Tuple [.Name x px, .Name y py, .Name z pz] kt pt] (.Tuple [a, b, c] k2 pt2) pos.line X.env = pure false := by rfl) :
    S3 X bx (.Assign [.Tuple [.Name x px, .Name y py, .Name z pz] kt pt] (.Tuple [a, b, c] k2 pt2) pos) (wPar3 i j l fa fb fc) := by
  refine ⟨PS.weaken (ps_par3 hc hN hi hj hl hij hil hjl hx hy hz (pa_cons ha.pe (pa_cons hb.pe (pa_cons hcc.pe pa_nil hs3) hs2) hs1) hw hs) fun D σ H ⟨F, ρ, G, P, st, h, e⟩ => ⟨F, ρ, G, _, st, h, fun r1 ρ1 v1 G1 H1 h1 g1 st1 rr1 => ?_⟩⟩
  obtain ⟨r1', ρ2, G2, h2, n1, g2, st2, rr2⟩ := nz_ok st1 rr1 h1
  refine ⟨pend F H1 r1' v1, ρ2, G2, _, pend_st st2 rr2, h2, fun r3 ρ3 v3 G3 H3 h3 g3 st3 rr3 => ?_⟩
  obtain ⟨r3', ρ4, G4, h4, n3, g4, st4, rr4⟩ := nz_ok st3 rr3 h3
  refine ⟨pend (pend F H1 r1' v1) H3 r3' v3, ρ4, G4, _, pend_st st4 rr4, h4, fun r5 ρ5 v5 G5 H5 h5 g5 st5 rr5 => ?_⟩
  obtain ⟨r5', ρ6, G6, h6, n5, g6, st6, rr6⟩ := nz_ok st5 rr5 h5
  refine ⟨v1, v3, v5, rfl, ?_⟩
  obtain ⟨ρ7, G7, h7, g7, st7⟩ := set_ok l st6 rr6 h6
  obtain ⟨st7', rr7⟩ := pend_back' n3 st4 rr4 (g5.trans (g6.trans g7)) st7
  obtain ⟨ρ8, G8, h8, g8, st8⟩ := set_ok j st7' rr7 h7
  obtain ⟨st8', rr8⟩ := pend_back' n1 st2 rr2 (g3.trans (g4.trans (g5.trans (g6.trans (g7.trans g8))))) st8
  obtain ⟨ρ9, G9, h9, g9, st9⟩ := set_ok i st8' rr8 h8
  have e1 : (((σ.set i (some v1)).set j (some v3)).set l (some v5)) = (((σ.set l (some v5)).set j (some v3)).set i (some v1)) := by
    rw [List.set_comm _ _ hjl, List.set_comm _ _ hil, List.set_comm _ _ hij]
  rw [e1]
  exact e.nx ρ9 _ G9 H5 h9 (g1.trans (g2.trans (g3.trans (g4.trans (g5.trans (g6.trans (g7.trans (g8.trans g9)))))))) st9
end
end L2.W3

/-! W3, part i: the laws' own drawers, the law itself, the module's facts. -/
namespace L2.W3
open PySem PySem.Spec PyProof.Rows

/-- the drawer with a list of cells, a place, two numbers -/
def TapeInv (b q : Addr) (H : Hp) : Prop := ∃ (cs : List Int) (k : Nat) (x y : Int), H q = some (.lst (cs.map V.int)) ∧ H b = some (.lst [.ref q, .int (k : Int), .int x, .int y]) ∧ k ≤ cs.length
def tapeBx (b q : Addr) : Bx where
  adr := b
  fp := [b, q]
  inv := TapeInv b q
  loc := fun H H' h ⟨cs, k, x, y, h1, h2, h3⟩ => ⟨cs, k, x, y, (h q (by simp)).trans h1, (h b (by simp)).trans h2, h3⟩
  has := fun H ⟨cs, k, x, y, h1, h2, _⟩ a ha => by
    have : a = b ∨ a = q := by simpa using ha
    rcases this with rfl | rfl
    · exact ⟨_, h2⟩
    · exact ⟨_, h1⟩
theorem tape_ne {b q : Addr} {H : Hp} (h : TapeInv b q H) : b ≠ q := by
  obtain ⟨cs, k, x, y, h1, h2, _⟩ := h
  intro e
  subst e
  rw [h1] at h2
  cases cs with
  | nil => cases h2
  | cons c r => cases h2
theorem tape_set {b q : Addr} {F G H : Hp} (fr : Fr3 (tapeBx b q) F G H) {cs : List Int} (hq : H q = some (.lst (cs.map V.int))) (k : Nat) (x y : Int) (hk : k ≤ cs.length) : Fr3 (tapeBx b q) F G (upd H b (.lst [.ref q, .int (k : Int), .int x, .int y])) := by
  have ne := tape_ne fr.bi
  have gb := fr.bg b (by simp [tapeBx])
  refine ⟨fun a u e => ?_, fun a u e => ?_, fr.fg, ⟨cs, k, x, y, by rw [upd_ne (Ne.symm ne)]; exact hq, upd_same, hk⟩, fr.bg⟩
  · rw [upd_ne (ne_of_none e gb.1)]; exact fr.gs a u e
  · rw [upd_ne (ne_of_none e gb.2)]; exact fr.fs a u e
/-- .. with two numbers alone -/
def BoxInv (b q : Addr) (H : Hp) : Prop := ∃ (cs : List Int) (x y : Int), H q = some (.lst (cs.map V.int)) ∧ H b = some (.lst [.ref q, .int x, .int y])
def boxBx (b q : Addr) : Bx where
  adr := b
  fp := [b, q]
  inv := BoxInv b q
  loc := fun H H' h ⟨cs, x, y, h1, h2⟩ => ⟨cs, x, y, (h q (by simp)).trans h1, (h b (by simp)).trans h2⟩
  has := fun H ⟨cs, x, y, h1, h2⟩ a ha => by
    have : a = b ∨ a = q := by simpa using ha
    rcases this with rfl | rfl
    · exact ⟨_, h2⟩
    · exact ⟨_, h1⟩
theorem box_ne {b q : Addr} {H : Hp} (h : BoxInv b q H) : b ≠ q := by
  obtain ⟨cs, x, y, h1, h2⟩ := h
  intro e
  subst e
  rw [h1] at h2
  cases cs with
  | nil => cases h2
  | cons c r => cases h2
theorem box_set {b q : Addr} {F G H : Hp} (fr : Fr3 (boxBx b q) F G H) {cs : List Int} (hq : H q = some (.lst (cs.map V.int))) (x y : Int) : Fr3 (boxBx b q) F G (upd H b (.lst [.ref q, .int x, .int y])) := by
  have ne := box_ne fr.bi
  have gb := fr.bg b (by simp [boxBx])
  refine ⟨fun a u e => ?_, fun a u e => ?_, fr.fg, ⟨cs, x, y, by rw [upd_ne (Ne.symm ne)]; exact hq, upd_same⟩, fr.bg⟩
  · rw [upd_ne (ne_of_none e gb.1)]; exact fr.gs a u e
  · rw [upd_ne (ne_of_none e gb.2)]; exact fr.fs a u e
theorem box_setQ {b q : Addr} {F G H : Hp} (fr : Fr3 (boxBx b q) F G H) (cs : List Int) : Fr3 (boxBx b q) F G (upd H q (.lst (cs.map V.int))) := by
  have ne := box_ne fr.bi
  have gq := fr.bg q (by simp [boxBx])
  obtain ⟨_, x, y, _, h2⟩ := fr.bi
  refine ⟨fun a u e => ?_, fun a u e => ?_, fr.fg, ⟨cs, x, y, upd_same, by rw [upd_ne ne]; exact h2⟩, fr.bg⟩
  · rw [upd_ne (ne_of_none e gq.1)]; exact fr.gs a u e
  · rw [upd_ne (ne_of_none e gq.2)]; exact fr.fs a u e

/-- a drawn number below n -/
def C_draw : Con := fun ds P => ∃ n : Int, ds = [.box, .int n] ∧ 0 < n ∧ n < 2 ^ 64 ∧ ∀ r : Int, 0 ≤ r → r < n → P (.val (.int r))
def C_any1 : Con := fun ds P => ∃ i : Int, ds = [.int i] ∧ ∀ r : Int, P (.val (.int r))
def C_load : Con := fun ds P => ds = [.box] ∧ ∀ r : Int, P (.val (.int r))

theorem pss_any {X : Cx} {sts : List Stmt} {α : Type} {f : WS} (bx : α → Bx) (h : ∀ i, Ss3 X (bx i) sts f) : PSs X sts (fun D σ H => ∃ i, lS X.K (bx i) f D σ H) :=
  ⟨fun pins s σ H D I ⟨i, q⟩ => (h i).pss.run pins s σ H D I q⟩

/-! ### the law -/
def spLaw (K : PySem.W.Frag) : Sp := fun vs H Q _ => ∃ (a : Addr) (ns : List Int), vs = [.ref a] ∧ SqL K H a (ns.map V.int) ∧ ns.length ≤ 63 ∧ ∀ H', Q (.bl true) H'
/-- the drawer made out of the script -/
def spTape (K : PySem.W.Frag) : Sp := fun vs H Q _ => ∃ (a : Addr) (ns : List Int), vs = [.ref a] ∧ SqL K H a (ns.map V.int) ∧ ns.length ≤ 63 ∧
  ∀ b q H', Same H H' → H b = none → H q = none → TapeInv b q H' → Q (.ref b) H'
def spBox (K : PySem.W.Frag) : Sp := fun vs H Q _ => ∃ (a : Addr) (ns : List Int), vs = [.ref a] ∧ SqL K H a (ns.map V.int) ∧ ns.length ≤ 63 ∧
  ∀ b q H', Same H H' → H b = none → H q = none → BoxInv b q H' → Q (.ref b) H'
theorem law_st {K : PySem.W.Frag} {bx : Bx} {H H' : Hp} {N : List Str} {a : Addr} (sm : Same H H') (hf : ∀ x ∈ bx.fp, H x = none) (inv : bx.inv H') (h2 : 2 ≤ N.length) :
    Stt K bx H ((start3 N [.non]).set 0 .un |>.set 1 (.val .box)) ((start N [.ref a]).set 1 (some (.ref bx.adr))) (fun _ => none) H' := by
  have fr : Fr3 bx H (fun _ => none) H' := ⟨fun a u e => (nomatch e), sm, fun _ _ _ => rfl, inv, fun x hx => ⟨rfl, hf x hx⟩⟩
  have st0 : Stt K bx H (start3 N [.non]) (start N [.non]) (fun _ => none) H' := start_st fr (.cons .non .nil)
  have st1 := (st0.forget 0 (some (.ref a))).put (d := .box) 1 .box
  have e : (start N [.non]).set 0 (some (V.ref a)) = start N [.ref a] := by
    unfold start
    rfl
  rw [e] at st1
  exact st1

/-! ### the module's facts -/
theorem fact_mk {K : PySem.W.Frag} {h : Heap} {mg : Str → Option Value} {name : Str} {st : Stmt} {f : Addr} {od an : Option Addr} {sl : Array (Option Value)} {oc kV dc pm cd ct : Value} (X : K.In h) (G : h.Ns mainGlobals mg)
    (a : PySem.W.nsIn K mainGlobals name = some (some (.ref f))) (l : K.lookup f = some ⟨oc, od, .func (PySem.W.fnOf name name (defArgs st) (defBody st) (defScope st) .none kV dc pm an cd ct), sl⟩) (c : PySem.W.codeIn K cd name = true) (k : PySem.W.keepIn K (.ref f) = true) :
    ∃ f fd, Fun K name name st f fd ∧ mg name = some (.ref f) := ⟨f, _, fun_mk l c k, PySem.W.mg_of X G a⟩
end L2.W3

/-! W3, part j: words for proofs over data. -/
namespace L2.W3
open PySem PySem.Spec PyProof.Rows

theorem FnOk.none {P : Program} {w : World} {K : PySem.W.Frag} {mg : Str → Option Value} {base : Heap} {CX : CXT} {f : Addr} {fd : FuncData} {ps : List Str} {bx : Bx} {k : Nat} : FnOk P w K mg base CX k f fd ps (spOf K bx fun _ _ => False) :=
  ⟨fun vs H Q E ⟨_, _, _, _, _, _, h, _⟩ => h.elim, fun A outer s H args us vs Q E _ _ _ _ ⟨_, _, _, _, _, _, h, _⟩ => h.elim⟩

/-! ### cuts -/
theorem sIx_of (n d k : Nat) : HT.sIx n d (some (k : Int)) = min k n := HT.sIx_nat n d k
theorem cut_to {α : Type} (l : List α) (k : Nat) : cut l none (some (k : Int)) = l.take k := by
  unfold cut
  rw [sIx_of, HT.sIx_none, List.drop_zero, Nat.sub_zero]
  rcases Nat.le_total k l.length with h | h
  · rw [Nat.min_eq_left h]
  · rw [Nat.min_eq_right h, List.take_of_length_le (Nat.le_refl _), List.take_of_length_le h]
theorem cut_from {α : Type} (l : List α) (k : Nat) : cut l (some (k : Int)) none = l.drop k := by
  unfold cut
  rw [sIx_of, HT.sIx_none]
  rcases Nat.le_total k l.length with h | h
  · rw [Nat.min_eq_left h]
    exact List.take_of_length_le (by rw [List.length_drop]; omega)
  · rw [Nat.min_eq_right h, Nat.sub_self, List.take_zero, List.drop_of_length_le h]
theorem cut_nat {α : Type} (l : List α) (i j : Nat) : cut l (some (i : Int)) (some (j : Int)) = (l.take j).drop i := by
  unfold cut
  rw [sIx_of, sIx_of, List.drop_take]
  rcases Nat.le_total i l.length with h | h
  · rw [Nat.min_eq_left h]
    rcases Nat.le_total j l.length with h2 | h2
    · rw [Nat.min_eq_left h2]
    · rw [Nat.min_eq_right h2, List.take_of_length_le (by rw [List.length_drop]; omega), List.take_of_length_le (by rw [List.length_drop]; omega)]
  · rw [Nat.min_eq_right h, List.drop_of_length_le (Nat.le_refl _), List.drop_of_length_le h, List.take_nil, List.take_nil]
theorem cut_all {α : Type} (l : List α) : cut l none none = l := by
  unfold cut
  rw [HT.sIx_none, HT.sIx_none, List.drop_zero, Nat.sub_zero, List.take_length]

/-! ### equal data -/
theorem eqv_str (a b : List Nat) : eqv (.str a) (.str b) = decide (a = b) := by
  show ((⟨a.toArray⟩ : Str) == ⟨b.toArray⟩) = _
  rw [Bool.eq_iff_iff, beq_iff_eq, decide_eq_true_eq]
  constructor
  · intro h
    have := congrArg (fun x : Str => x.cps.toList) h
    simpa using this
  · rintro rfl; rfl
theorem eqv_int (a b : Int) : eqv (.int a) (.int b) = decide (a = b) := by
  show (a == b) = _
  rw [Bool.beq_eq_decide_eq]
theorem eqv_bl (a b : Bool) : eqv (.bl a) (.bl b) = decide (a = b) := by
  show (a == b) = _
  rw [Bool.beq_eq_decide_eq]
theorem eqv_non : eqv .non .non = true := rfl
theorem eqv_tup (a b : List D) : eqv (.tup a) (.tup b) = PyData.eqvAll (toPyL a) (toPyL b) := rfl
theorem eqv_lst (a b : List D) : eqv (.lst a) (.lst b) = PyData.eqvAll (toPyL a) (toPyL b) := rfl
theorem eqvAll_cons (a b : D) (l m : List D) : PyData.eqvAll (toPyL (a :: l)) (toPyL (b :: m)) = (eqv a b && PyData.eqvAll (toPyL l) (toPyL m)) := rfl
theorem eqvAll_nil : PyData.eqvAll (toPyL []) (toPyL []) = true := rfl
theorem eqvAll_nc (a : D) (l : List D) : PyData.eqvAll (toPyL []) (toPyL (a :: l)) = false := rfl
theorem eqvAll_cn (a : D) (l : List D) : PyData.eqvAll (toPyL (a :: l)) (toPyL []) = false := rfl
theorem eqvAll_map {α : Type} [DecidableEq α] {f : α → D} (hf : ∀ a b, eqv (f a) (f b) = decide (a = b)) : ∀ l m : List α, PyData.eqvAll (toPyL (l.map f)) (toPyL (m.map f)) = decide (l = m)
  | [], [] => rfl
  | [], _ :: _ => rfl
  | _ :: _, [] => rfl
  | a :: l, b :: m => by
    rw [List.map_cons, List.map_cons, eqvAll_cons, hf, eqvAll_map hf l m]
    by_cases h1 : a = b <;> by_cases h2 : l = m <;> simp [h1, h2]

/-! ### the laws' own equality: of the same kinds -/
mutual
def sameD : D → D → Bool
  | .tup a, .tup b => sameL a b
  | .lst a, .lst b => sameL a b
  | .bl a, .bl b => a == b
  | .int a, .int b => a == b
  | .str a, .str b => a == b
  | .non, .non => true
  | _, _ => false
def sameL : List D → List D → Bool
  | [], [] => true
  | a :: l, b :: m => sameD a b && sameL l m
  | _, _ => false
end
mutual
theorem sameD_refl : ∀ {n : Nat} {d : D}, Flat n d → sameD d d = true
  | _, .non, _ => rfl
  | _, .bl b, _ => by simp [sameD]
  | _, .int b, _ => by simp [sameD]
  | _, .str b, _ => by simp [sameD]
  | _, .tup l, h => by
    obtain ⟨m, rfl, h⟩ := flat_succ h
    rw [sameD]; exact sameL_refl h
  | _, .lst l, h => by
    obtain ⟨m, rfl, h⟩ := flat_succL h
    rw [sameD]; exact sameL_refl h
  | _, .dik _, h => (not_flat_dik h).elim
  | _, .ty _, h => (not_flat_ty h).elim
  | _, .box, h => (not_flat_box h).elim
theorem sameL_refl : ∀ {n : Nat} {l : List D}, (∀ x ∈ l, Flat n x) → sameL l l = true
  | _, [], _ => rfl
  | _, d :: r, h => by
    rw [sameL, sameD_refl (h d List.mem_cons_self), sameL_refl fun x hx => h x (List.mem_cons_of_mem _ hx)]
    rfl
end
/-- such data, whose rows have no more than so many places -/
def FlatS : Nat → D → Prop
  | _, .non => True
  | _, .bl _ => True
  | _, .int _ => True
  | _, .str _ => True
  | n + 1, .tup l => l.length ≤ sizeLine ∧ ∀ x ∈ l, FlatS n x
  | n + 1, .lst l => l.length ≤ sizeLine ∧ ∀ x ∈ l, FlatS n x
  | _, _ => False
theorem FlatS.flat : ∀ {n : Nat} {d : D}, FlatS n d → Flat n d
  | 0, d, h => by cases d <;> first | exact h | trivial
  | n + 1, .tup l, h => fun x hx => (h.2 x hx).flat
  | n + 1, .lst l, h => fun x hx => (h.2 x hx).flat
  | n + 1, .non, h => trivial
  | n + 1, .bl _, h => trivial
  | n + 1, .int _, h => trivial
  | n + 1, .str _, h => trivial
  | n + 1, .dik _, h => h.elim
  | n + 1, .ty _, h => h.elim
  | n + 1, .box, h => h.elim
def C_same : Nat → Con
  | 0 => fun _ _ => False
  | n + 1 => fun ds P => ∃ a b, ds = [a, b] ∧ FlatS n a ∧ Flat n b ∧ P (.val (.bl (sameD a b)))

/-! ### comprehensions of one kind -/
/-- each turn gives one thing, or nothing, and leaves the slots -/
theorem lcGo_map {α : Type} {enc : α → D} {p : α → Bool} {f : α → D} {e : α → Env3} {g : WG} {tt : WTs} {te : WE} {vs : List Nat} {ρw : Env3} (hw : ∀ x, wipeE (e x) vs = ρw)
    (hg : ∀ x k, k (e x) → g (enc x) ρw k) : ∀ (xs : List α) (ρ : Env3) (acc : List D) (Q : List D → Env3 → Prop), wipeE ρ vs = ρw → acc.length + xs.length ≤ sizeLine →
    (∀ x ∈ xs, ∀ k, k (p x) (e x) → tt (e x) k) → (∀ x ∈ xs, p x = true → ∀ k, k (.val (f x)) (e x) → te (e x) k) → (∀ ρ', wipeE ρ' vs = ρw → Q (acc ++ (xs.filter p).map f) ρ') → lcGo g tt te vs (xs.map enc) ρ acc Q
  | [], ρ, acc, Q, h, hl, ht, he, hQ => by
    have := hQ ρ h
    rw [List.filter_nil, List.map_nil, List.append_nil] at this
    exact this
  | x :: xs, ρ, acc, Q, h, hl, ht, he, hQ => by
    rw [List.map_cons, lcGo, h]
    refine hg x _ (ht x List.mem_cons_self _ ?_)
    rw [List.length_cons] at hl
    by_cases hp : p x = true
    · rw [if_pos hp]
      refine he x List.mem_cons_self hp _ ⟨by omega, ?_⟩
      refine lcGo_map hw hg xs (e x) _ Q (hw x) (by rw [List.length_append]; simp only [List.length_cons, List.length_nil]; omega) (fun y hy => ht y (List.mem_cons_of_mem _ hy)) (fun y hy => he y (List.mem_cons_of_mem _ hy)) fun ρ' hρ => ?_
      have := hQ ρ' hρ
      rw [List.filter_cons_of_pos hp, List.map_cons] at this
      rw [List.append_assoc]
      exact this
    · rw [if_neg hp]
      refine lcGo_map hw hg xs (e x) acc Q (hw x) (by omega) (fun y hy => ht y (List.mem_cons_of_mem _ hy)) (fun y hy => he y (List.mem_cons_of_mem _ hy)) fun ρ' hρ => ?_
      have := hQ ρ' hρ
      rw [List.filter_cons_of_neg hp] at this
      exact this
/-- each turn gives some thing of a kind -/
theorem lcGo_all {A : D → Prop} {e : D → Env3} {g : WG} {tt : WTs} {te : WE} {vs : List Nat} {ρw : Env3} (hw : ∀ x, wipeE (e x) vs = ρw) (hg : ∀ x k, k (e x) → g x ρw k) : ∀ (xs : List D) (ρ : Env3) (acc : List D) (Q : List D → Env3 → Prop), wipeE ρ vs = ρw → acc.length + xs.length ≤ sizeLine →
    (∀ x ∈ xs, ∀ k, k true (e x) → tt (e x) k) → (∀ x ∈ xs, ∀ k, (∀ d, A d → k (.val d) (e x)) → te (e x) k) → (∀ x ∈ acc, A x) → (∀ ρ' l, wipeE ρ' vs = ρw → l.length = acc.length + xs.length → (∀ x ∈ l, A x) → Q l ρ') → lcGo g tt te vs xs ρ acc Q
  | [], ρ, acc, Q, h, hl, ht, he, ha, hQ => hQ ρ acc h rfl ha
  | x :: xs, ρ, acc, Q, h, hl, ht, he, ha, hQ => by
    rw [lcGo, h]
    refine hg x _ (ht x List.mem_cons_self _ ?_)
    rw [List.length_cons] at hl
    rw [if_pos rfl]
    refine he x List.mem_cons_self _ fun d hd => ⟨by omega, ?_⟩
    refine lcGo_all hw hg xs (e x) _ Q (hw x) (by rw [List.length_append]; simp only [List.length_cons, List.length_nil]; omega) (fun y hy => ht y (List.mem_cons_of_mem _ hy)) (fun y hy => he y (List.mem_cons_of_mem _ hy)) (fun y hy => ?_) fun ρ' l hρ hll hal => hQ ρ' l hρ (by rw [hll, List.length_append]; simp only [List.length_cons, List.length_nil]; omega) hal
    rcases List.mem_append.mp hy with hy | hy
    · exact ha y hy
    · rw [List.mem_singleton] at hy
      rw [hy]; exact hd
end L2.W3

/-! W3, part k: words for conditions; sameness. -/
namespace L2.W3
open PySem PySem.Spec PyProof.Rows

theorem start3_1 (x : Str) (N : List Str) (a : D) : start3 (x :: N) [a] = .val a :: List.replicate N.length .un := rfl
theorem start3_2 (x y : Str) (N : List Str) (a b : D) : start3 (x :: y :: N) [a, b] = .val a :: .val b :: List.replicate N.length .un := by
  show Sl.val a :: Sl.val b :: List.replicate ((N.length + 1 + 1) - 2) .un = _
  rfl
theorem ite_w {b : Bool} {x y : Prop} (h1 : b = true → x) (h2 : b = false → y) : if b = true then x else y := by
  cases b
  · exact h2 rfl
  · exact h1 rfl
theorem atI_lt {α : Type} {l : List α} {k : Nat} (h : k < l.length) : atI l (k : Int) = some l[k] := atI_nat (by rw [List.getElem?_eq_getElem h])
theorem rng_01 (n : Nat) : rng 0 1 n = (List.range n).map fun k : Nat => D.int (k : Int) := by
  unfold rng
  refine List.map_congr_left fun k _ => ?_
  rw [Int.mul_one, Int.zero_add]
theorem rng_l1 (lo : Int) (n : Nat) : rng lo 1 n = (List.range n).map fun k : Nat => D.int (lo + (k : Int)) := by
  unfold rng
  refine List.map_congr_left fun k _ => ?_
  rw [Int.mul_one]
theorem wipe1 (ρ : Env3) (i : Nat) (a : Sl) : (ρ.set i a).set i .un = ρ.set i .un := List.set_set ..
/-- a comprehension with one name -/
theorem lcN {α : Type} {xs : List α} {i : Nat} {tt : WTs} {te : WE} {ρ : Env3} {T : List D → Env3 → Prop} (enc : α → D) (p : α → Bool) (f : α → D) (hi : i < ρ.length) (hl : xs.length ≤ sizeLine)
    (ht : ∀ x ∈ xs, ∀ k, k (p x) (ρ.set i (.val (enc x))) → tt (ρ.set i (.val (enc x))) k) (he : ∀ x ∈ xs, p x = true → ∀ k, k (.val (f x)) (ρ.set i (.val (enc x))) → te (ρ.set i (.val (enc x))) k)
    (hQ : T ((xs.filter p).map f) (ρ.set i (keptE (ρ.getD i .un)))) : lcRun (wName i) tt te [i] (xs.map enc) ρ T := by
  refine lcGo_map (e := fun x => ρ.set i (.val (enc x))) (p := p) (f := f) (ρw := ρ.set i .un) (vs := [i]) (fun x => wipe1 ρ i _) (fun x k h => ⟨by rw [List.length_set]; exact hi, by rw [List.set_set]; exact h⟩) xs ρ [] _ rfl (by simpa using hl) ht he fun ρ' h' => ?_
  rw [h', List.nil_append]
  show T _ ((ρ.set i Sl.un).set i _)
  rw [List.set_set]
  exact hQ
/-- the same, without a test -/
theorem lcNY {α : Type} {xs : List α} {i : Nat} {te : WE} {ρ : Env3} {T : List D → Env3 → Prop} (enc : α → D) (f : α → D) (hi : i < ρ.length) (hl : xs.length ≤ sizeLine)
    (he : ∀ x ∈ xs, ∀ k, k (.val (f x)) (ρ.set i (.val (enc x))) → te (ρ.set i (.val (enc x))) k)
    (hQ : T (xs.map f) (ρ.set i (keptE (ρ.getD i .un)))) : lcRun (wName i) wYes te [i] (xs.map enc) ρ T := by
  refine lcN enc (fun _ => true) f hi hl (fun x _ k hk => hk) (fun x hx _ => he x hx) ?_
  rw [show xs.filter (fun _ => true) = xs from List.filter_eq_self.mpr fun _ _ => rfl]
  exact hQ
/-- each turn gives some thing of a kind -/
theorem lcNA {α : Type} {xs : List α} {i : Nat} {te : WE} {ρ : Env3} {T : List D → Env3 → Prop} (enc : α → D) (A : D → Prop) (hi : i < ρ.length) (hl : xs.length ≤ sizeLine)
    (he : ∀ x ∈ xs, ∀ k, (∀ d, A d → k (.val d) (ρ.set i (.val (enc x)))) → te (ρ.set i (.val (enc x))) k)
    (hQ : ∀ l, l.length = xs.length → (∀ d ∈ l, A d) → T l (ρ.set i (keptE (ρ.getD i .un)))) : lcRun (wName i) wYes te [i] (xs.map enc) ρ T := by
  unfold lcRun
  suffices H : ∀ (ys : List α) (ρ2 : Env3) (acc : List D), (∀ x ∈ ys, x ∈ xs) → wipeE ρ2 [i] = ρ.set i .un → acc.length + ys.length = xs.length → (∀ x ∈ acc, A x) →
      lcGo (wName i) wYes te [i] (ys.map enc) ρ2 acc fun acc ρ2 => T acc (backE (wipeE ρ2 [i]) ρ [i]) from H xs ρ [] (fun _ h => h) rfl (by simp) (by simp)
  intro ys
  induction ys with
  | nil =>
    intro ρ2 acc _ h hn ha
    show T acc _
    rw [h]
    show T _ ((ρ.set i Sl.un).set i _)
    rw [List.set_set]
    exact hQ acc hn ha
  | cons y ys ih =>
    intro ρ2 acc hm h hn ha
    rw [List.map_cons, lcGo, h]
    refine ⟨by rw [List.length_set]; exact hi, ?_⟩
    rw [List.set_set]
    refine he y (hm y List.mem_cons_self) _ fun d hd => ?_
    rw [List.length_cons] at hn
    refine ⟨by omega, ih _ _ (fun z hz => hm z (List.mem_cons_of_mem _ hz)) (wipe1 ..) (by rw [List.length_append]; simp only [List.length_cons, List.length_nil]; omega) fun z hz => ?_⟩
    rcases List.mem_append.mp hz with hz | hz
    · exact ha z hz
    · rw [List.mem_singleton] at hz
      rw [hz]; exact hd
section
variable {lo : Int} {n i : Nat} {tt : WTs} {te : WE} {ρ : Env3} {T : List D → Env3 → Prop}
/-- over a range from nought -/
theorem lc0 (p : Nat → Bool) (f : Nat → D) (hl : n ≤ sizeLine) (ht : ∀ x : Nat, x < n → ∀ k, k (p x) (ρ.set i (.val (.int (x : Int)))) → tt (ρ.set i (.val (.int (x : Int)))) k)
    (he : ∀ x : Nat, x < n → p x = true → ∀ k, k (.val (f x)) (ρ.set i (.val (.int (x : Int)))) → te (ρ.set i (.val (.int (x : Int)))) k)
    (hQ : T (((List.range n).filter p).map f) (ρ.set i (keptE (ρ.getD i .un)))) (hi : i < ρ.length := by exact Nat.le_of_ble_eq_true rfl) : lcRun (wName i) tt te [i] (rng 0 1 n) ρ T := by
  rw [rng_01]
  exact lcN _ p f hi (by rw [List.length_range]; exact hl) (fun x hx => ht x (List.mem_range.mp hx)) (fun x hx => he x (List.mem_range.mp hx)) hQ
theorem lc0Y (f : Nat → D) (hl : n ≤ sizeLine) (he : ∀ x : Nat, x < n → ∀ k, k (.val (f x)) (ρ.set i (.val (.int (x : Int)))) → te (ρ.set i (.val (.int (x : Int)))) k)
    (hQ : T ((List.range n).map f) (ρ.set i (keptE (ρ.getD i .un)))) (hi : i < ρ.length := by exact Nat.le_of_ble_eq_true rfl) : lcRun (wName i) wYes te [i] (rng 0 1 n) ρ T := by
  rw [rng_01]
  exact lcNY _ f hi (by rw [List.length_range]; exact hl) (fun x hx => he x (List.mem_range.mp hx)) hQ
theorem lc0A (A : D → Prop) (hl : n ≤ sizeLine) (he : ∀ x : Nat, x < n → ∀ k, (∀ d, A d → k (.val d) (ρ.set i (.val (.int (x : Int))))) → te (ρ.set i (.val (.int (x : Int)))) k)
    (hQ : ∀ l, l.length = n → (∀ d ∈ l, A d) → T l (ρ.set i (keptE (ρ.getD i .un)))) (hi : i < ρ.length := by exact Nat.le_of_ble_eq_true rfl) : lcRun (wName i) wYes te [i] (rng 0 1 n) ρ T := by
  rw [rng_01]
  exact lcNA _ A hi (by rw [List.length_range]; exact hl) (fun x hx => he x (List.mem_range.mp hx)) fun l h => hQ l (by rw [h, List.length_range])
/-- over a range from a -/
theorem lc1 {a : Nat} (p : Nat → Bool) (f : Nat → D) (hl : n ≤ sizeLine) (ht : ∀ x : Nat, a ≤ x → x < a + n → ∀ k, k (p x) (ρ.set i (.val (.int (x : Int)))) → tt (ρ.set i (.val (.int (x : Int)))) k)
    (he : ∀ x : Nat, a ≤ x → x < a + n → p x = true → ∀ k, k (.val (f x)) (ρ.set i (.val (.int (x : Int)))) → te (ρ.set i (.val (.int (x : Int)))) k)
    (hQ : T (((List.range' a n).filter p).map f) (ρ.set i (keptE (ρ.getD i .un)))) (hi : i < ρ.length := by exact Nat.le_of_ble_eq_true rfl) : lcRun (wName i) tt te [i] (rng (a : Int) 1 n) ρ T := by
  have e : rng (a : Int) 1 n = (List.range' a n).map fun k : Nat => D.int (k : Int) := by
    rw [rng_l1, List.range'_eq_map_range, List.map_map]
    refine List.map_congr_left fun k _ => ?_
    simp
  rw [e]
  exact lcN _ p f hi (by rw [List.length_range']; exact hl) (fun x hx => ht x (List.mem_range'_1.mp hx).1 (List.mem_range'_1.mp hx).2) (fun x hx => he x (List.mem_range'_1.mp hx).1 (List.mem_range'_1.mp hx).2) hQ
end
theorem small_nat {n : Nat} (h : n ≤ sizeLine) : SmallI (n : Int) := by
  have : sizeLine < 2 ^ 62 := by decide
  unfold SmallI
  omega

/-! ### sameness -/
def b_same (C : Con) : WS :=
  (wSeq (wIfS (wTOr (wTAnd (wTru (wIsi "tuple" (wVar 0))) (wTru (wIsi "tuple" (wVar 1)))) (wTAnd (wTru (wIsi "list" (wVar 0))) (wTru (wIsi "list" (wVar 1))))) (wRet (wAnd (wBin eqD (wUn lenD (wVar 0)) (wUn lenD (wVar 1))) (wUn allD (wLc (wRng1 (wACons (wUn lenD (wVar 0)) wANil)) (wName 2) wYes (wCall C (wACons (wBin ixD (wVar 0) (wVar 2)) (wACons (wBin ixD (wVar 1) (wVar 2)) wANil))) [2])))) wNext)
    (wSeq (wIfS (wTOr (wTru (wIsi "bool" (wVar 0))) (wTru (wIsi "bool" (wVar 1)))) (wRet (wAnd (wIsi "bool" (wVar 0)) (wAnd (wIsi "bool" (wVar 1)) (wBin eqD (wVar 0) (wVar 1))))) wNext)
    (wSeq (wIfS (wTOr (wTAnd (wTru (wIsi "int" (wVar 0))) (wTru (wIsi "int" (wVar 1)))) (wTAnd (wTru (wIsi "str" (wVar 0))) (wTru (wIsi "str" (wVar 1))))) (wRet (wBin eqD (wVar 0) (wVar 1))) wNext)
    (wRet (wAnd (wBin isD (wVar 0) (wC .non)) (wBin isD (wVar 1) (wC .non)))))))
theorem sameL_len : ∀ (a b : List D), a.length ≠ b.length → sameL a b = false
  | [], [], h => (h rfl).elim
  | [], _ :: _, _ => by simp [sameL]
  | _ :: _, [], _ => by simp [sameL]
  | a :: l, b :: m, h => by
    rw [sameL, sameL_len l m fun e => h (by rw [List.length_cons, List.length_cons, e]), Bool.and_false]
theorem sameL_all : ∀ (a b : List D), a.length = b.length → (((List.range a.length).map fun k => D.bl (sameD (a.getD k .non) (b.getD k .non))).all blOf) = sameL a b
  | [], [], _ => by simp [sameL]
  | a :: l, b :: m, h => by
    rw [List.length_cons, List.range_succ_eq_map, List.map_cons, List.map_map, List.all_cons, sameL]
    have := sameL_all l m (by simpa using h)
    rw [← this]
    rfl
theorem bls_map {α : Type} (f : α → Bool) (l : List α) : ((l.map fun k => D.bl (f k)).all isBl) = true := by
  rw [List.all_map]
  exact List.all_eq_true.mpr fun _ _ => rfl
theorem same_seq {m : Nat} {a b : List D} {mk : List D → D} {Q : R → Prop} (hmk : mk = .tup ∨ mk = .lst) (fa : ∀ x ∈ a, FlatS m x) (fb : ∀ x ∈ b, Flat m x) (ha : a.length ≤ sizeLine) (q : Q (.val (.bl (sameL a b)))) :
    wRet (wAnd (wBin eqD (wUn lenD (wVar 0)) (wUn lenD (wVar 1))) (wUn allD (wLc (wRng1 (wACons (wUn lenD (wVar 0)) wANil)) (wName 2) wYes (wCall (C_same (m + 1)) (wACons (wBin ixD (wVar 0) (wVar 2)) (wACons (wBin ixD (wVar 1) (wVar 2)) wANil))) [2])))
      { nx := fun _ => Q (.val .non), rt := Q } [.val (mk a), .val (mk b), .un] := by
  rcases hmk with rfl | rfl
  all_goals
    refine And.intro trivial (And.intro trivial ?_)
    refine ite_w (fun h => ?_) (fun h => ?_)
    · rw [eqv_int, decide_eq_true_eq] at h
      have hl : a.length = b.length := by omega
      refine And.intro (small_nat ha) ?_
      refine lc0Y (fun k => D.bl (sameD (a.getD k .non) (b.getD k .non))) (by exact ha) (fun k hk C hC => ?_) ?_
      · have hk : k < a.length := hk
        have hk2 : k < b.length := by omega
        refine Exists.intro _ (And.intro (atI_lt hk) ?_)
        refine Exists.intro _ (And.intro (atI_lt hk2) ?_)
        refine Exists.intro _ (Exists.intro _ (And.intro rfl (And.intro (fa _ (List.getElem_mem hk)) (And.intro (fb _ (List.getElem_mem hk2)) ?_))))
        have e1 : a.getD k .non = a[k] := by rw [List.getD_eq_getElem?_getD, List.getElem?_eq_getElem hk]; rfl
        have e2 : b.getD k .non = b[k] := by rw [List.getD_eq_getElem?_getD, List.getElem?_eq_getElem hk2]; rfl
        rw [e1, e2] at hC
        exact hC
      · refine And.intro (bls_map _ _) ?_
        show Q (.val (.bl _))
        rw [show ((a.length : Int)).toNat = a.length from Int.toNat_natCast _, sameL_all a b hl]
        exact q
    · rw [eqv_int, decide_eq_false_iff_not] at h
      have hl : a.length ≠ b.length := fun e => h (by rw [e])
      rw [sameL_len a b hl] at q
      exact (show eqv (.int (a.length : Int)) (.int (b.length : Int)) = false by rw [eqv_int, decide_eq_false_iff_not]; exact h) ▸ q
theorem sameD_str (a b : List Nat) : sameD (.str a) (.str b) = decide (a = b) := by
  rw [sameD]
  by_cases h : a = b <;> simp [h]
theorem vc_same : ∀ (m : Nat) (ds : List D) (Q : R → Prop), C_same (m + 1) ds Q → b_same (C_same m) { nx := fun _ => Q (.val .non), rt := Q } (start3 ["a", "b", "k"] ds) := by
  rintro m ds Q ⟨a, b, rfl, fa, fb, q⟩
  rw [start3_2]
  cases a <;> cases b
  case str.str a b => exact And.intro trivial (And.intro trivial (show Q (.val (.bl (eqv (.str a) (.str b)))) by rw [eqv_str, ← sameD_str]; exact q))
  case bl.bl a b => exact And.intro trivial (And.intro trivial (show Q (.val (.bl (eqv (.bl a) (.bl b)))) from eqv_bl a b ▸ (by simpa [sameD, Bool.beq_eq_decide_eq] using q)))
  case tup.tup a b =>
    cases m with
    | zero => exact fa.elim
    | succ m => exact same_seq (.inl rfl) fa.2 fb fa.1 (by simpa [sameD] using q)
  case lst.lst a b =>
    cases m with
    | zero => exact fa.elim
    | succ m => exact same_seq (.inr rfl) fa.2 fb fa.1 (by simpa [sameD] using q)
  all_goals first
    | exact (not_flat_dik fa.flat).elim
    | exact (not_flat_dik fb).elim
    | exact (not_flat_ty fa.flat).elim
    | exact (not_flat_ty fb).elim
    | exact (not_flat_box fa.flat).elim
    | exact (not_flat_box fb).elim
    | exact q
    | exact And.intro trivial (And.intro trivial (eqv_int _ _ ▸ q))
end L2.W3

/-! Words: periods, roots, commuting. -/
namespace L2.W3

/-- periods of a row without an end -/
def Per {α : Type} (f : Nat → α) (p : Nat) : Prop := ∀ i, f (i + p) = f i
section
variable {α : Type} {f : Nat → α} {p q : Nat}
theorem Per.zero : Per f 0 := fun _ => rfl
theorem Per.add (hp : Per f p) (hq : Per f q) : Per f (p + q) := fun i => by rw [← Nat.add_assoc, hq, hp]
theorem Per.mul (hp : Per f p) : ∀ n, Per f (n * p)
  | 0 => by rw [Nat.zero_mul]; exact Per.zero
  | n + 1 => by rw [Nat.succ_mul]; exact (Per.mul hp n).add hp
theorem Per.sub (hp : Per f p) (hq : Per f q) (h : q ≤ p) : Per f (p - q) := fun i => by
  rw [← hq (i + (p - q)), show i + (p - q) + q = i + p by omega, hp]
theorem Per.modP (hp : Per f p) (hq : Per f q) : Per f (p % q) := by
  have h := Nat.div_add_mod p q
  have h1 : p % q = p - (p / q) * q := by rw [Nat.mul_comm] at h; omega
  rw [h1]
  exact hp.sub (hq.mul _) (Nat.div_mul_le_self p q)
theorem Per.gcd : ∀ {p q : Nat}, Per f p → Per f q → Per f (Nat.gcd p q) := by
  intro p q
  induction p, q using Nat.gcd.induction with
  | H0 n => intro _ h; rwa [Nat.gcd_zero_left]
  | H1 m n _ ih => intro hm hn; rw [Nat.gcd_rec]; exact ih (hn.modP hm) hm
theorem Per.mod (hp : Per f p) (i : Nat) : f (i % p) = f i := by
  have h := Nat.mod_add_div i p
  conv => rhs; rw [← h, Nat.mul_comm]
  exact (hp.mul _ _).symm
end

/-- the letters of a word again and again -/
def cyc (w : List Nat) (i : Nat) : Nat := w.getD (i % w.length) 0
theorem cyc_lt {w : List Nat} {i : Nat} (h : i < w.length) : cyc w i = w.getD i 0 := by rw [cyc, Nat.mod_eq_of_lt h]
theorem cyc_per (w : List Nat) : Per (cyc w) w.length := fun i => by rw [cyc, cyc, Nat.add_mod_right]
/-- words of one length with the same letters are the same -/
theorem ext_getD {a b : List Nat} (h : a.length = b.length) (h2 : ∀ i, i < a.length → a.getD i 0 = b.getD i 0) : a = b := by
  refine List.ext_getElem h fun i h3 h4 => ?_
  have := h2 i h3
  rwa [List.getD_eq_getElem?_getD, List.getD_eq_getElem?_getD, List.getElem?_eq_getElem h3, List.getElem?_eq_getElem h4] at this
theorem ext_cyc {a b : List Nat} (h : a.length = b.length) (h2 : ∀ i, i < a.length → cyc a i = cyc b i) : a = b :=
  ext_getD h fun i hi => by rw [← cyc_lt hi, ← cyc_lt (h ▸ hi)]; exact h2 i hi
theorem getD_take {w : List Nat} {k i : Nat} (h : i < k) : (w.take k).getD i 0 = w.getD i 0 := by
  rw [List.getD_eq_getElem?_getD, List.getD_eq_getElem?_getD, List.getElem?_take_of_lt h]
theorem getD_drop {w : List Nat} {k i : Nat} : (w.drop k).getD i 0 = w.getD (k + i) 0 := by
  rw [List.getD_eq_getElem?_getD, List.getD_eq_getElem?_getD, List.getElem?_drop]
theorem getD_append {a b : List Nat} {i : Nat} : (a ++ b).getD i 0 = if i < a.length then a.getD i 0 else b.getD (i - a.length) 0 := by
  rw [List.getD_eq_getElem?_getD, List.getElem?_append]
  split <;> rw [List.getD_eq_getElem?_getD]
/-- where a word stands in itself twice -/
theorem stands_iff {w : List Nat} {k : Nat} (hw : w ≠ []) (hk : k ≤ w.length) : stands w (w ++ w) k = true ↔ Per (cyc w) k := by
  have hn : 0 < w.length := List.length_pos_iff.mpr hw
  unfold stands
  rw [beq_iff_eq]
  have hl : (((w ++ w).drop k).take w.length).length = w.length := by
    rw [List.length_take, List.length_drop, List.length_append]; omega
  have hc : ∀ i, i < w.length → (((w ++ w).drop k).take w.length).getD i 0 = cyc w (i + k) := fun i hi => by
    rw [getD_take hi, getD_drop, getD_append, cyc]
    split
    · rename_i h
      rw [Nat.mod_eq_of_lt (by omega), Nat.add_comm]
    · rename_i h
      rw [Nat.add_comm i k, Nat.mod_eq_sub_mod (by omega), Nat.mod_eq_of_lt (by omega)]
  constructor
  · intro h i
    have h1 : ∀ j, j < w.length → cyc w (j + k) = cyc w j := fun j hj => by
      rw [← hc j hj, h, cyc_lt hj]
    have h2 := h1 (i % w.length) (Nat.mod_lt _ hn)
    rw [(cyc_per w).mod i] at h2
    rw [← h2]
    have h3 : cyc w ((i + k) % w.length) = cyc w ((i % w.length + k) % w.length) := by rw [Nat.mod_add_mod]
    rwa [(cyc_per w).mod, (cyc_per w).mod] at h3
  · intro h
    exact ext_getD hl fun i hi => by
      rw [hl] at hi
      rw [hc i hi, h i, cyc_lt hi]
theorem flatten_len (v : List Nat) : ∀ n, ((List.replicate n v).flatten).length = n * v.length
  | 0 => by simp
  | n + 1 => by rw [List.replicate_succ, List.flatten_cons, List.length_append, flatten_len v n, Nat.succ_mul, Nat.add_comm]
theorem cyc_append {a b : List Nat} (h : cyc a = cyc b) : cyc (a ++ b) = cyc a := by
  funext i
  have pa := cyc_per a
  have pb : Per (cyc a) b.length := h ▸ cyc_per b
  rw [← (cyc_per (a ++ b)).mod i, ← ((pa.add pb).mod i), List.length_append]
  by_cases h0 : a.length + b.length = 0
  · have : a = [] := List.length_eq_zero_iff.mp (by omega)
    have : b = [] := List.length_eq_zero_iff.mp (by omega)
    subst a; subst b; rfl
  have hm : i % (a.length + b.length) < a.length + b.length := Nat.mod_lt _ (by omega)
  generalize i % (a.length + b.length) = j at hm
  rw [cyc_lt (by rw [List.length_append]; exact hm), getD_append]
  split
  · rename_i hj; rw [cyc_lt hj]
  · rename_i hj
    rw [← cyc_lt (w := b) (i := j - a.length) (by omega), ← h, ← pa (j - a.length)]
    congr 1; omega
theorem cyc_rep {v : List Nat} : ∀ {n : Nat}, 1 ≤ n → cyc ((List.replicate n v).flatten) = cyc v
  | 1, _ => by simp
  | n + 2, _ => by
    rw [List.replicate_succ, List.flatten_cons, cyc_append]
    exact (cyc_rep (n := n + 1) (by omega)).symm
theorem take_rep {w : List Nat} {k : Nat} (hk : k ∣ w.length) (hp : Per (cyc w) k) : (List.replicate (w.length / k) (w.take k)).flatten = w := by
  obtain ⟨m, hm⟩ := hk
  by_cases h0 : w.length = 0
  · have : w = [] := List.length_eq_zero_iff.mp h0
    subst this; simp
  have hk0 : 0 < k := Nat.pos_of_ne_zero fun h => h0 (by rw [hm, h, Nat.zero_mul])
  have hm0 : 0 < m := Nat.pos_of_ne_zero fun h => h0 (by rw [hm, h, Nat.mul_zero])
  have hd : w.length / k = m := by rw [hm, Nat.mul_div_cancel_left _ hk0]
  have hkl : k ≤ w.length := by rw [hm]; exact Nat.le_mul_of_pos_right k hm0
  have tl : (w.take k).length = k := by rw [List.length_take]; omega
  rw [hd]
  refine ext_cyc (by rw [flatten_len, tl, hm, Nat.mul_comm]) fun i _ => ?_
  rw [cyc_rep hm0, ← hp.mod i, cyc, tl, getD_take (Nat.mod_lt _ hk0), cyc_lt (by have := Nat.mod_lt i hk0; omega)]

/-! ### the root -/
def rl (w : List Nat) : Nat := (findFrom (w ++ w) w 1).toNat
theorem head_filter_some {p : Nat → Bool} : ∀ {l : List Nat} {k : Nat}, (l.filter p).head? = some k → k ∈ l ∧ p k = true := by
  intro l k h
  have := List.mem_of_head? h
  exact List.mem_filter.mp this
theorem head_filter_least {p : Nat → Bool} : ∀ {l : List Nat} {k : Nat}, l.Pairwise (· < ·) → (l.filter p).head? = some k → ∀ j ∈ l, p j = true → k ≤ j := by
  intro l k hs h j hj hp
  have hs2 : (l.filter p).Pairwise (· < ·) := hs.filter p
  have hm : j ∈ l.filter p := List.mem_filter.mpr ⟨hj, hp⟩
  cases e : l.filter p with
  | nil => rw [e] at h; cases h
  | cons a r =>
    rw [e] at h hs2 hm
    cases h
    rcases List.mem_cons.mp hm with h1 | h1
    · omega
    · exact Nat.le_of_lt (List.rel_of_pairwise_cons hs2 h1)
theorem head_filter_none {p : Nat → Bool} {l : List Nat} (h : (l.filter p).head? = none) : ∀ j ∈ l, ¬ p j = true := by
  intro j hj hp
  rw [List.head?_eq_none_iff] at h
  have hm : j ∈ l.filter p := List.mem_filter.mpr ⟨hj, hp⟩
  rw [h] at hm; cases hm
theorem rl_spec {w : List Nat} (hw : w ≠ []) : findFrom (w ++ w) w 1 = (rl w : Int) ∧ 1 ≤ rl w ∧ rl w ≤ w.length ∧ Per (cyc w) (rl w) ∧ ∀ k, 1 ≤ k → Per (cyc w) k → rl w ≤ k := by
  have hn : 0 < w.length := List.length_pos_iff.mpr hw
  have hfull : w.length ∈ List.range ((w ++ w).length + 1) := List.mem_range.mpr (by rw [List.length_append]; omega)
  have hst : stands w (w ++ w) w.length = true := (stands_iff hw (Nat.le_refl _)).mpr (cyc_per w)
  have hs : (List.range ((w ++ w).length + 1)).Pairwise (· < ·) := List.pairwise_lt_range
  cases e : ((List.range ((w ++ w).length + 1)).filter fun k => decide (1 ≤ k) && stands w (w ++ w) k).head? with
  | none => exact absurd (by simp [hst]; omega) (head_filter_none e _ hfull)
  | some k =>
    have he : findFrom (w ++ w) w 1 = (k : Int) := by unfold findFrom; rw [e]
    have hr : rl w = k := by unfold rl; rw [he]; exact Int.toNat_natCast k
    obtain ⟨_, hp⟩ := head_filter_some e
    rw [Bool.and_eq_true, decide_eq_true_eq] at hp
    have hk : k ≤ w.length := head_filter_least hs e _ hfull (by simp [hst]; omega)
    refine ⟨by rw [hr]; exact he, by rw [hr]; exact hp.1, by rw [hr]; exact hk, by rw [hr]; exact (stands_iff hw hk).mp hp.2, fun j hj hjp => ?_⟩
    rw [hr]
    by_cases hjl : j ≤ w.length
    · exact head_filter_least hs e _ (List.mem_range.mpr (by rw [List.length_append]; omega)) (by rw [Bool.and_eq_true, decide_eq_true_eq]; exact ⟨hj, (stands_iff hw hjl).mpr hjp⟩)
    · omega
theorem rl_dvd {w : List Nat} (hw : w ≠ []) : rl w ∣ w.length := by
  obtain ⟨_, h1, _, hp, hl⟩ := rl_spec hw
  have hg := hp.gcd (cyc_per w)
  have hpos : 0 < Nat.gcd (rl w) w.length := Nat.gcd_pos_of_pos_left _ h1
  have h2 := hl _ hpos hg
  have h3 : Nat.gcd (rl w) w.length ∣ rl w := Nat.gcd_dvd_left ..
  have h4 := Nat.le_of_dvd h1 h3
  have h5 : Nat.gcd (rl w) w.length = rl w := by omega
  rw [← h5]
  exact Nat.gcd_dvd_right ..
theorem rl_cyc {w v : List Nat} (hw : w ≠ []) (hv : v ≠ []) (h : cyc w = cyc v) : rl w = rl v := by
  obtain ⟨_, a1, _, a2, a3⟩ := rl_spec hw
  obtain ⟨_, b1, _, b2, b3⟩ := rl_spec hv
  have := a3 _ b1 (h ▸ b2)
  have := b3 _ a1 (h ▸ a2)
  omega
theorem take_cyc {w v : List Nat} {k : Nat} (h : cyc w = cyc v) (h1 : k ≤ w.length) (h2 : k ≤ v.length) : w.take k = v.take k := by
  refine ext_getD (by rw [List.length_take, List.length_take]; omega) fun i hi => ?_
  rw [List.length_take] at hi
  rw [getD_take (by omega), getD_take (by omega), ← cyc_lt (by omega), ← cyc_lt (w := v) (by omega), h]
/-- the law's own root -/
def lks (w : List Nat) : List Nat := (List.range' 1 w.length).filter fun k => decide (w.length / k * k = w.length) && decide ((List.replicate (w.length / k) (w.take k)).flatten = w)
theorem lks_iff {w : List Nat} {k : Nat} (hk : 1 ≤ k) (hkl : k ≤ w.length) : (decide (w.length / k * k = w.length) && decide ((List.replicate (w.length / k) (w.take k)).flatten = w)) = true ↔ k ∣ w.length ∧ Per (cyc w) k := by
  rw [Bool.and_eq_true, decide_eq_true_eq, decide_eq_true_eq]
  constructor
  · rintro ⟨h1, h2⟩
    refine ⟨⟨w.length / k, by rw [Nat.mul_comm]; exact h1.symm⟩, ?_⟩
    have h3 : cyc w = cyc (w.take k) := by
      conv => lhs; rw [← h2]
      exact cyc_rep (Nat.div_pos hkl hk)
    have h4 := cyc_per (w.take k)
    rw [List.length_take, Nat.min_eq_left hkl] at h4
    rw [h3]; exact h4
  · rintro ⟨h1, h2⟩
    exact ⟨Nat.div_mul_cancel h1, take_rep h1 h2⟩
theorem lks_head {w : List Nat} (hw : w ≠ []) : (lks w).head? = some (rl w) := by
  obtain ⟨_, a1, a0, a2, a3⟩ := rl_spec hw
  have hm : rl w ∈ List.range' 1 w.length := List.mem_range'_1.mpr ⟨a1, by omega⟩
  have ht := (lks_iff a1 a0).mpr ⟨rl_dvd hw, a2⟩
  cases e : (lks w).head? with
  | none => exact (head_filter_none e _ hm ht).elim
  | some k =>
    obtain ⟨hk, hp⟩ := head_filter_some e
    have hk := List.mem_range'_1.mp hk
    have h1 := a3 _ hk.1 ((lks_iff hk.1 (by omega)).mp hp).2
    have h2 := head_filter_least (List.pairwise_lt_range' ..) e _ hm ht
    rw [show k = rl w by omega]
/-! ### commuting -/
theorem comm_cyc : ∀ (n : Nat) {x y : List Nat}, x.length + y.length ≤ n → x ≠ [] → y ≠ [] → x ++ y = y ++ x → cyc x = cyc y
  | 0, x, y, hn, hx, _, _ => (hx (List.length_eq_zero_iff.mp (by omega))).elim
  | n + 1, x, y, hn, hx, hy, h => by
    have key : ∀ {a b : List Nat}, a.length + b.length ≤ n + 1 → a ≠ [] → b ≠ [] → a ++ b = b ++ a → a.length ≤ b.length → cyc a = cyc b := by
      intro a b hn ha hb h hl
      have hp : a <+: b := by
        have h1 : a <+: b ++ a := ⟨b, h⟩
        exact List.prefix_of_prefix_length_le h1 (List.prefix_append b a) hl
      obtain ⟨c, rfl⟩ := hp
      by_cases hc : c = []
      · subst hc; rw [List.append_nil]
      have hcc : a ++ c = c ++ a := by
        rw [List.append_assoc] at h
        exact List.append_cancel_left h
      have hal : 0 < a.length := List.length_pos_iff.mpr ha
      rw [List.length_append] at hn
      have := comm_cyc n (x := a) (y := c) (by omega) ha hc hcc
      exact (cyc_append this).symm
    rcases Nat.le_total x.length y.length with hl | hl
    · exact key hn hx hy h hl
    · exact (key (by omega) hy hx h.symm hl).symm
/-- copies of one word commute -/
theorem rep_comm (v : List Nat) (a b : Nat) : (List.replicate a v).flatten ++ (List.replicate b v).flatten = (List.replicate b v).flatten ++ (List.replicate a v).flatten := by
  rw [← List.flatten_append, ← List.flatten_append, List.replicate_append_replicate, List.replicate_append_replicate, Nat.add_comm]
theorem rl_rep {w : List Nat} (hw : w ≠ []) : (List.replicate (w.length / rl w) (w.take (rl w))).flatten = w := take_rep (rl_dvd hw) (rl_spec hw).2.2.2.1
theorem same_root_comm {x y : List Nat} (hx : x ≠ []) (hy : y ≠ []) (h : x.take (rl x) = y.take (rl y)) : x ++ y = y ++ x := by
  rw [← rl_rep hx, ← rl_rep hy, ← h]
  exact rep_comm ..
theorem comm_root {x y : List Nat} (hx : x ≠ []) (hy : y ≠ []) (h : x ++ y = y ++ x) : x.take (rl x) = y.take (rl y) := by
  have hc := comm_cyc _ (Nat.le_refl _) hx hy h
  have e := rl_cyc hx hy hc
  rw [e]
  exact take_cyc hc (e ▸ (rl_spec hx).2.2.1) (rl_spec hy).2.2.1
theorem comm_root2 {x y : List Nat} (hx : x ≠ []) (hy : y ≠ []) (h : x ++ y = y ++ x) : (x ++ y).take (rl (x ++ y)) = x.take (rl x) := by
  have hc : cyc (x ++ y) = cyc x := cyc_append (comm_cyc _ (Nat.le_refl _) hx hy h)
  have hxy : x ++ y ≠ [] := fun e => hx (List.append_eq_nil_iff.mp e).1
  have e := rl_cyc hxy hx hc
  rw [e]
  exact take_cyc hc (e ▸ (rl_spec hxy).2.2.1) (rl_spec hx).2.2.1

/-! ### two periods -/
def PerOn {α : Type} (f : Nat → α) (L p : Nat) : Prop := ∀ i, i + p < L → f (i + p) = f i
theorem PerOn.mod {α : Type} {f : Nat → α} {L p : Nat} (h : PerOn f L p) (hp : 0 < p) : ∀ i, i < L → f i = f (i % p) := by
  intro i
  induction i using Nat.strongRecOn with
  | ind i ih =>
    intro hi
    by_cases h1 : i < p
    · rw [Nat.mod_eq_of_lt h1]
    · have h2 := h (i - p) (by omega)
      rw [show i - p + p = i by omega] at h2
      rw [h2, ih (i - p) (by omega) (by omega), (Nat.mod_eq_sub_mod (a := i) (b := p) (by omega))]
theorem fine_wilf {α : Type} {f : Nat → α} : ∀ (n : Nat) {p q L : Nat}, p + q ≤ n → 0 < p → 0 < q → p + q ≤ L + Nat.gcd p q → PerOn f L p → PerOn f L q → ∀ i, i < L → f i = f (i % Nat.gcd p q)
  | 0, p, q, L, hn, hp, _, _, _, _ => by omega
  | n + 1, p, q, L, hn, hp, hq, hL, fp, fq => by
    have key : ∀ {p q : Nat}, p + q ≤ n + 1 → 0 < q → q < p → p + q ≤ L + Nat.gcd p q → PerOn f L p → PerOn f L q → ∀ i, i < L → f i = f (i % Nat.gcd p q) := by
      intro p q hn hq hqp hL fp fq i hi
      have hg : Nat.gcd (p - q) q = Nat.gcd p q := by
        conv => rhs; rw [show p = (p - q) + q by omega, Nat.gcd_add_self_left]
      have hgq : Nat.gcd p q ∣ q := Nat.gcd_dvd_right ..
      have hgd : Nat.gcd p q ∣ p - q := by rw [← hg]; exact Nat.gcd_dvd_left ..
      have hgp : 0 < Nat.gcd p q := Nat.gcd_pos_of_pos_right _ hq
      have hgl := Nat.le_of_dvd (by omega) hgd
      have f1 : PerOn f (L - q) (p - q) := fun j hj => by
        rw [← fq (j + (p - q)) (by omega), show j + (p - q) + q = j + p by omega, fp j (by omega)]
      have f2 : PerOn f (L - q) q := fun j hj => fq j (by omega)
      have ih := fine_wilf n (p := p - q) (q := q) (L := L - q) (by omega) (by omega) hq (by rw [hg]; omega) f1 f2
      rw [hg] at ih
      rw [fq.mod hq i hi]
      have hm := Nat.mod_lt i hq
      rw [ih (i % q) (by omega), Nat.mod_mod_of_dvd _ hgq]
    rcases Nat.lt_trichotomy p q with h | h | h
    · intro i hi
      have := key (p := q) (q := p) (by omega) hp h (by rw [Nat.gcd_comm]; omega) fq fp i hi
      rwa [Nat.gcd_comm] at this
    · subst h
      rw [Nat.gcd_self]
      exact fp.mod hp
    · exact key hn hq h hL fp fq
/-- two words whose joins are the same so far commute -/
theorem join_comm {x y : List Nat} (hx : x ≠ []) (hy : y ≠ []) (h : ∀ k, k + Nat.gcd x.length y.length < x.length + y.length → (x ++ y).getD k 0 = (y ++ x).getD k 0) : x ++ y = y ++ x := by
  have hp : 0 < x.length := List.length_pos_iff.mpr hx
  have hq : 0 < y.length := List.length_pos_iff.mpr hy
  have hgp : 0 < Nat.gcd x.length y.length := Nat.gcd_pos_of_pos_right _ hq
  have g1 : Nat.gcd x.length y.length ∣ x.length := Nat.gcd_dvd_left ..
  have g2 : Nat.gcd x.length y.length ∣ y.length := Nat.gcd_dvd_right ..
  have l1 := Nat.le_of_dvd hp g1
  have l2 := Nat.le_of_dvd hq g2
  generalize hg : Nat.gcd x.length y.length = g at *
  have h1 : PerOn (fun k => (x ++ y).getD k 0) (x.length + y.length - g) x.length := fun i hi => by
    show (x ++ y).getD (i + x.length) 0 = (x ++ y).getD i 0
    rw [getD_append, if_neg (by omega), h i (by omega), getD_append, if_pos (by omega)]
    congr 1; omega
  have h2 : PerOn (fun k => (x ++ y).getD k 0) (x.length + y.length - g) y.length := fun i hi => by
    show (x ++ y).getD (i + y.length) 0 = (x ++ y).getD i 0
    rw [h _ (by omega), getD_append, if_neg (by omega), getD_append (a := x), if_pos (by omega)]
    congr 1; omega
  have fw := fine_wilf _ (Nat.le_refl _) hp hq (by rw [hg]; omega) h1 h2
  rw [hg] at fw
  have cx : cyc x = fun i => (x ++ y).getD (i % g) 0 := by
    funext i
    have hm := Nat.mod_lt i hp
    have := fw (i % x.length) (by omega)
    rw [Nat.mod_mod_of_dvd _ g1, getD_append, if_pos hm] at this
    exact this
  have cy : cyc y = fun i => (x ++ y).getD (i % g) 0 := by
    funext i
    have hm := Nat.mod_lt i hq
    have := fw (i % y.length) (by omega)
    rw [Nat.mod_mod_of_dvd _ g2, h _ (by omega), getD_append, if_pos hm] at this
    exact this
  have c1 := cyc_append (cx.trans cy.symm)
  have c2 := cyc_append (cy.trans cx.symm)
  exact ext_cyc (by rw [List.length_append, List.length_append, Nat.add_comm]) fun i _ => by rw [c1, c2, cx, cy]
end L2.W3

/-! W3, part l: drawn words. -/
namespace L2.W3
open PySem PySem.Spec PyProof.Rows

theorem sL : sizeLine = 16777216 := rfl
theorem str_gD {s : List Nat} {k : Nat} (h : k < s.length) : atI s (k : Int) = some (s.getD k 0) := by
  rw [atI_lt h, List.getD_eq_getElem?_getD, List.getElem?_eq_getElem h]; rfl
theorem rng_get {lo : Int} {n i : Nat} {d : D} (h : (rng lo 1 n)[i]? = some d) : i < n ∧ d = .int (lo + (i : Int)) := by
  rw [rng_l1, List.getElem?_map] at h
  by_cases hi : i < n
  · rw [List.getElem?_range hi] at h
    cases h
    exact ⟨hi, rfl⟩
  · rw [List.getElem?_eq_none (by rw [List.length_range]; omega)] at h
    cases h
theorem rng_len {lo c : Int} {n : Nat} : (rng lo c n).length = n := by unfold rng; simp

theorem load_ix (n : Nat) : seqIndex? 0 (n + 1) = some 0 := by
  simp [seqIndex?]

/-! ### numbers mixed -/
def b_mix : WS :=
  (wSeq (wSet 0 (wBin modD (wUn intD (wBin addD (wBin mulD (wVar 0) (wC (.int 6364136223846793005))) (wC (.int 1442695040888963407)))) (wC (.int 18446744073709551616))))
    (wRet (wBin modD (wUn intD (wBin addD (wBin fdivD (wBin mulD (wVar 0) (wVar 0)) (wC (.int 4294967296))) (wBin mulD (wVar 0) (wC (.int 69621))))) (wC (.int 18446744073709551557)))))
theorem vc_mix : ∀ ds Q, C_any1 ds Q → b_mix { nx := fun _ => Q (.val .non), rt := Q } (start3 ["number"] ds) := by
  rintro ds Q ⟨i, rfl, q⟩
  refine And.intro (.inl (.inr ⟨by decide, by decide⟩)) (And.intro (by decide) ?_)
  have hb := Int.emod_nonneg (i * 6364136223846793005 + 1442695040888963407) (show (18446744073709551616 : Int) ≠ 0 by decide)
  have hb2 := Int.emod_lt_of_pos (i * 6364136223846793005 + 1442695040888963407) (show (0 : Int) < 18446744073709551616 by decide)
  have m1 : MulI ((i * 6364136223846793005 + 1442695040888963407) % 18446744073709551616) ((i * 6364136223846793005 + 1442695040888963407) % 18446744073709551616) := .inl (.inl ⟨by omega, by omega⟩)
  refine And.intro m1 (And.intro (wide_div (b := 64) (by decide) (by decide) (by decide) (by decide)) (And.intro (.inl (.inr ⟨by decide, by decide⟩)) (And.intro (by decide) ?_)))
  exact q _

/-! ### a word of drawn letters -/
/-- at most m of the first k letters -/
def Wd (m k : Nat) (s : List Nat) : Prop := s.length ≤ m ∧ ∀ c ∈ s, 97 ≤ c ∧ c < 97 + k
theorem Wd.mono {m k m2 k2 : Nat} {s : List Nat} (h : Wd m k s) (h1 : m ≤ m2) (h2 : k ≤ k2) : Wd m2 k2 s := ⟨Nat.le_trans h.1 h1, fun c hc => ⟨(h.2 c hc).1, by have := (h.2 c hc).2; omega⟩⟩
def abc : List Nat := [97, 98, 99, 100, 101, 102, 103, 104, 105, 106, 107, 108, 109, 110, 111, 112, 113, 114, 115, 116, 117, 118, 119, 120, 121, 122]
theorem abc_get : ∀ j : Nat, j < 26 → atI abc (j : Int) = some ((97 + j : Nat)) := by decide
def C_letters : Con := fun ds P => ∃ m k : Nat, ds = [.box, .int m, .int k] ∧ m ≤ 1000 ∧ 1 ≤ k ∧ k ≤ 26 ∧ ∀ s, Wd m k s → P (.val (.str s))
def b_letters : WS :=
  (wRet (wStrM joinD (wC (.str [])) (wLc (wRng1 (wACons (wCall C_draw (wACons (wVar 0) (wACons (wBin addD (wVar 1) (wC (.int 1))) wANil))) wANil)) (wName 3) wYes (wBin ixD (wC (.str [97, 98, 99, 100, 101, 102, 103, 104, 105, 106, 107, 108, 109, 110, 111, 112, 113, 114, 115, 116, 117, 118, 119, 120, 121, 122])) (wCall C_draw (wACons (wVar 0) (wACons (wVar 2) wANil)))) [3])))
/-- the letters of single texts -/
theorem flat_letters {m k : Nat} {l : List D} (hl : l.length ≤ m) (h : ∀ d ∈ l, ∃ c, 97 ≤ c ∧ c < 97 + k ∧ d = .str [c]) : l.all isStr = true ∧ (l.map fun d => (strOf d).length).sum = l.length ∧ Wd m k ((l.map strOf).flatten) := by
  induction l generalizing m with
  | nil => exact ⟨rfl, rfl, Nat.zero_le _, fun c hc => by cases hc⟩
  | cons d r ih =>
    obtain ⟨c, c1, c2, rfl⟩ := h d List.mem_cons_self
    rw [List.length_cons] at hl
    obtain ⟨h1, h2, h3, h4⟩ := ih (m := m - 1) (by omega) fun x hx => h x (List.mem_cons_of_mem _ hx)
    refine ⟨by rw [List.all_cons, h1]; rfl, by rw [List.map_cons, List.sum_cons, h2, List.length_cons]; show 1 + r.length = r.length + 1; omega, ?_, fun x hx => ?_⟩
    · rw [List.map_cons, List.flatten_cons, List.length_append]
      show 1 + _ ≤ m
      omega
    · rw [List.map_cons, List.flatten_cons] at hx
      rcases List.mem_append.mp hx with hx | hx
      · have hx : x ∈ [c] := hx
        rw [List.mem_singleton] at hx
        subst hx; exact ⟨c1, c2⟩
      · exact h4 x hx
theorem vc_letters : ∀ ds Q, C_letters ds Q → b_letters { nx := fun _ => Q (.val .non), rt := Q } (start3 ["tape", "most", "k", "turn"] ds) := by
  rintro ds Q ⟨m, k, rfl, hm, hk, hk2, q⟩
  refine Exists.intro _ (And.intro rfl (And.intro (by omega) (And.intro (by omega) fun r h0 h1 => ?_)))
  refine And.intro (by unfold SmallI; omega) ?_
  refine lc0A (fun d => ∃ c, 97 ≤ c ∧ c < 97 + k ∧ d = .str [c]) (by rw [sL]; show r.toNat ≤ _; omega) (fun x hx C hC => ?_) fun l hl hA => ?_
  · refine Exists.intro _ (And.intro rfl (And.intro (by omega) (And.intro (by omega) fun z z0 z1 => ?_)))
    refine And.intro (by exact Nat.le_of_ble_eq_true rfl) (Exists.intro (97 + z.toNat) (And.intro ?_ (hC _ ⟨_, by omega, by omega, rfl⟩)))
    have := abc_get z.toNat (by omega)
    rw [Int.toNat_of_nonneg z0] at this
    exact this
  · have hl : l.length = r.toNat := hl
    obtain ⟨f1, f2, f3⟩ := flat_letters (m := m) (k := k) (l := l) (by omega) hA
    refine And.intro f1 (And.intro (by rw [f2]; show l.length + l.length * 0 ≤ _; omega) ?_)
    show Q (.val (.str (joinS [] _)))
    rw [joinS_nil]
    exact q _ f3

/-! ### a word, or one that repeats a short one -/
def C_word : Con := fun ds P => ∃ m k : Nat, ds = [.box, .int m, .int k] ∧ 1 ≤ m ∧ m ≤ 1000 ∧ 1 ≤ k ∧ k ≤ 26 ∧ ∀ s, Wd m k s → P (.val (.str s))
def b_word : WS :=
  (wSeq (wIfS (wTB (wBin eqD (wCall C_draw (wACons (wVar 0) (wACons (wC (.int 2)) wANil))) (wC (.int 0)))) (wRet (wCall C_letters (wACons (wVar 0) (wACons (wVar 1) (wACons (wVar 2) wANil))))) wNext)
    (wSeq (wSet 3 (wBin addD (wCall C_letters (wACons (wVar 0) (wACons (wBin max2D (wC (.int 1)) (wBin fdivD (wVar 1) (wC (.int 3)))) (wACons (wVar 2) wANil)))) (wC (.str [97]))))
    (wSeq (wSet 4 (wSl (wBin mulD (wVar 3) (wVar 1)) wONone (wOSome (wCall C_draw (wACons (wVar 0) (wACons (wBin addD (wVar 1) (wC (.int 1))) wANil))))))
    (wSeq (wIfS (wTAnd (wTB (wBin neD (wVar 4) (wC (.str [])))) (wTB (wBin eqD (wCall C_draw (wACons (wVar 0) (wACons (wC (.int 4)) wANil))) (wC (.int 0))))) (wSeq (wSet 5 (wCall C_draw (wACons (wVar 0) (wACons (wUn lenD (wVar 4)) wANil))))
    (wSet 4 (wBin addD (wBin addD (wSl (wVar 4) wONone (wOSome (wVar 5))) (wBin ixD (wC (.str [97, 98, 99])) (wCall C_draw (wACons (wVar 0) (wACons (wBin min2D (wVar 2) (wC (.int 3))) wANil))))) (wSl (wVar 4) (wOSome (wBin addD (wVar 5) (wC (.int 1)))) wONone)))) wNext)
    (wRet (wVar 4))))))
theorem repN_mem {n : Int} {l : List Nat} {c : Nat} (h : c ∈ repN n l) : c ∈ l := by
  unfold repN at h
  obtain ⟨a, ha, hc⟩ := List.mem_flatten.mp h
  rw [List.eq_of_mem_replicate ha] at hc
  exact hc
theorem repN_len {n : Int} {l : List Nat} : (repN n l).length = n.toNat * l.length := by unfold repN; exact flatten_len ..
theorem vc_word : ∀ ds Q, C_word ds Q → b_word { nx := fun _ => Q (.val .non), rt := Q } (start3 ["tape", "most", "k", "short", "word", "at"] ds) := by
  rintro ds Q ⟨m, k, rfl, hm0, hm, hk, hk2, q⟩
  refine Exists.intro _ (And.intro rfl (And.intro (by decide) (And.intro (by decide) fun r _ _ => ?_)))
  refine And.intro trivial (And.intro trivial (ite_w (fun _ => ?_) fun _ => ?_))
  · exact Exists.intro m (Exists.intro k (And.intro rfl (And.intro hm (And.intro hk (And.intro hk2 q)))))
  refine And.intro (wide_div (b := 2) (by decide) (by decide) (by decide) (by decide)) ?_
  have e1 : ((max 1 (m / 3) : Nat) : Int) = max 1 ((m : Int) / 3) := by omega
  refine Exists.intro (max 1 (m / 3)) (Exists.intro k (And.intro (by rw [e1]) (And.intro (by omega) (And.intro hk (And.intro hk2 fun s hs => ?_)))))
  have hs1 : s.length ≤ 1000 := by have := hs.1; omega
  have hsa : (s ++ [97]).length = s.length + 1 := List.length_append
  have hmul : s.length * m ≤ 1000 * 1000 := Nat.mul_le_mul hs1 hm
  refine And.intro (by show s.length + 1 ≤ _; rw [sL]; omega) ?_
  refine And.intro (by omega) (And.intro (by omega) (And.intro (by rw [hsa, Int.toNat_natCast, Nat.succ_mul]; omega) ?_))
  refine Exists.intro _ (And.intro rfl (And.intro (by omega) (And.intro (by omega) fun r2 r20 r21 => ?_)))
  have hrl : (repN (m : Int) (s ++ [97])).length ≤ sizeLine := by rw [repN_len, hsa, Int.toNat_natCast, Nat.mul_succ, Nat.mul_comm, sL]; omega
  refine And.intro hrl ?_
  have ht : Wd m k (cut (repN (m : Int) (s ++ [97])) none (some r2)) := by
    obtain ⟨j, rfl⟩ := Int.eq_ofNat_of_zero_le r20
    rw [cut_to]
    refine ⟨by rw [List.length_take]; omega, fun c hc => ?_⟩
    rcases List.mem_append.mp (repN_mem (List.mem_of_mem_take hc)) with h | h
    · exact hs.2 c h
    · rw [List.mem_singleton] at h; omega
  generalize cut (repN (m : Int) (s ++ [97])) none (some r2) = t at ht ⊢
  have htl := ht.1
  refine And.intro trivial (And.intro trivial (ite_w (fun h => ?_) fun _ => ?_))
  · rw [eqv_str, Bool.not_eq_true', decide_eq_false_iff_not] at h
    have hpos : 0 < t.length := List.length_pos_iff.mpr h
    refine Exists.intro _ (And.intro rfl (And.intro (by decide) (And.intro (by decide) fun r3 _ _ => And.intro trivial (And.intro trivial (ite_w (fun _ => ?_) fun _ => ?_)))))
    · refine And.intro (by rw [sL]; omega) (Exists.intro _ (And.intro rfl (And.intro (by omega) (And.intro (by omega) fun r4 h40 h41 => ?_))))
      refine And.intro (by rw [sL]; omega) (Exists.intro _ (And.intro rfl (And.intro (by omega) (And.intro (by omega) fun r5 h50 h51 => ?_))))
      obtain ⟨j, rfl⟩ := Int.eq_ofNat_of_zero_le h40
      obtain ⟨z, rfl⟩ := Int.eq_ofNat_of_zero_le h50
      have hz : z < 3 := by omega
      refine And.intro (by exact Nat.le_of_ble_eq_true rfl) (Exists.intro (97 + z) (And.intro ((show ∀ z, z < 3 → atI [97, 98, 99] ((z : Nat) : Int) = some ((97 + z : Nat)) by decide) z hz) ?_))
      have l1 : (cut t none (some (j : Int))).length = j := by rw [cut_to, List.length_take]; omega
      have l2 : (cut t none (some (j : Int)) ++ [97 + z]).length = j + 1 := by rw [List.length_append, l1]; rfl
      have l3 : (cut t (some ((j : Int) + 1)) none).length = t.length - (j + 1) := by rw [show (j : Int) + 1 = ((j + 1 : Nat) : Int) by omega, cut_from, List.length_drop]
      refine And.intro (by rw [l1, sL]; show j + 1 ≤ _; omega) (And.intro (by rw [sL]; omega) (And.intro (by rw [l2, l3, sL]; omega) ?_))
      refine q _ ⟨by rw [List.length_append, l2, l3]; omega, fun c hc => ?_⟩
      rcases List.mem_append.mp hc with hc | hc
      · rcases List.mem_append.mp hc with hc | hc
        · exact ht.2 c (cut_mem hc)
        · rw [List.mem_singleton] at hc; omega
      · exact ht.2 c (cut_mem hc)
    · exact q _ ht
  · exact q _ ht
end L2.W3

/-! W3, part n: more that is walked. -/
namespace L2.W3
open PySem PySem.Spec PyProof.Rows

/-! ### enumerate(text) -/
def Itse (x : Str) : It := ⟨fun i _ => i < x.cps.size, fun i H v H' => ∃ T c, v = .ref T ∧ H T = none ∧ H' = upd H T (.tup [.int (i : Nat), .str ⟨#[c]⟩]) ∧ x.cps[i]? = some c, fun i _ => x.cps.size ≤ i⟩
theorem turn_enumS {P : Program} {w : World} {K : PySem.W.Frag} {elts : List Expr} {kk : Nat} {tpos : Pos} (x : Str) (t : Tok) (e it : Addr) :
    Turn P w K (.Tuple elts kk tpos) (Itse x) [e, it] e (fun i h => (∃ old, IsEnum h e it ((i : Nat) : Int) old) ∧ h.IsStrIter it (strIterType x) x t i ∧ e ≠ it) where
  mem := by simp
  obj := fun i h st b hb => by
    obtain ⟨⟨old, he⟩, ⟨o, ho, hc, hd⟩, _⟩ := st
    have e' : b = e ∨ b = it := by simpa using hb
    rcases e' with z | z
    · rw [z]; exact ⟨_, he, fun v q => nomatch q⟩
    · rw [z]; exact ⟨o, ho, fun v q => by rw [hd] at q; cases q⟩
  keep := fun i h h' st k => let ⟨⟨old, he⟩, ⟨o, ho, r⟩, hne⟩ := st; ⟨⟨old, k e (by simp) _ he⟩, ⟨o, k it (by simp) o ho, r⟩, hne⟩
  item := by
    intro X hP hw hK hc i pins s σ H E I hf st hg
    subst hP hw hK
    obtain ⟨⟨old, he⟩, hit, hne⟩ := st
    have hel : e < s.heap.objs.size := Heap.lt_size he
    have hil : it < s.heap.objs.size := by obtain ⟨_, q, _⟩ := hit; exact Heap.lt_size q
    have hd : X.A.in1.handled = none := I.ok.hd hc
    have D : Draws X.prog X.w X.A.in1 it [it] x.cps.size (fun i v => ∃ c u, x.cps[i]? = some c ∧ v = .str ⟨#[c]⟩ u) (fun i h => h.IsStrIter it (strIterType x) x t i) := by
      unfold strIterType
      split
      · exact Draws.strAscii hd it x t
      · exact Draws.strWide hd it x t
    refine wpAny_pyNext_enum_itemD D he hit hg hne (by simpa using hne) fun v h' tk hv ho hit' hT hsz hk => ?_
    obtain ⟨c, u, hcx, rfl⟩ := hv
    refine ⟨_, rfl, wpAny_letOwnedTupleGo_enum (s := { s with heap := h', toks := tk + 1 }) ho fun h'' he' sb => ?_⟩
    have hT2 : h''.get? s.heap.objs.size = some { cls := .type "tuple", data := .seq #[.int i tk, .str ⟨#[c]⟩ u] } := (sb.2 _ (Nat.ne_of_gt hel)).trans hT
    have new : ObjOk X.prog X.w (upd H s.heap.objs.size (.tup [.int (i : Nat), .str ⟨#[c]⟩])) h'' s.heap.objs.size (.tup [.int (i : Nat), .str ⟨#[c]⟩]) :=
      ⟨by show 2 ≤ sizeLine; decide, [.int i tk, .str ⟨#[c]⟩ u], .cons ⟨_, rfl⟩ (.cons ⟨_, rfl⟩ .nil), ⟨_, hT2, rfl, _, rfl⟩⟩
    have I1 : Inv X pins σ (upd H s.heap.objs.size (.tup [.int (i : Nat), .str ⟨#[c]⟩])) { s with heap := h'', toks := tk + 1 } :=
      I.turnedNew (ch := [e, it]) (fun b ob hb q => (sb.2 b (fun z => hb (by simp [z]))).trans (hk b ob (fun z => hb (by simp [z])) (fun z => hb (by simp [z])) q)) hf (Nat.le_refl _) new
    refine ⟨.ref s.heap.objs.size, _, I1, rfl, ⟨_, c, rfl, I.hok.fresh (Nat.le_refl _), rfl, hcx⟩, ⟨⟨.str ⟨#[c]⟩ u, ?_⟩, ?_, hne⟩, fun b hb => ?_⟩
    · have e1 : ((i + 1 : Nat) : Int) = (i : Int) + 1 := by omega
      rw [e1]; exact he'
    · obtain ⟨o, q1, q2⟩ := hit'
      exact ⟨o, (sb.2 it (Ne.symm hne)).trans q1, q2⟩
    · have hb' : b < s.heap.objs.size := by
        have e' : b = e ∨ b = it := by simpa using hb
        rcases e' with z | z
        · rw [z]; exact hel
        · rw [z]; exact hil
      rw [upd_ne (Nat.ne_of_lt hb')]
      exact (hf b hb).1
  done := by
    intro X hP hw hK hc i pins s σ H E I hf st hg
    subst hP hw hK
    obtain ⟨⟨old, he⟩, hit, hne⟩ := st
    have hd : X.A.in1.handled = none := I.ok.hd hc
    have hx : x.cps[i]? = none := Array.getElem?_eq_none hg
    obtain ⟨f0, f1, f2, f3, f4, f5⟩ := hf it (by simp)
    have D : Draws X.prog X.w X.A.in1 it [it] i (fun _ _ => True) (fun j h => i ≤ j ∧ h.IsStrIter it (strIterType x) x t j) := by
      refine ⟨fun _ _ st => ?_, fun _ _ _ st hk => ?_, fun j s Q E hi st hQ => absurd st.1 (by omega), fun s Q E st hE => ?_⟩
      · obtain ⟨_, o, ho, _⟩ := st; exact ⟨o, ho⟩
      · obtain ⟨q, o, ho, r⟩ := st; exact ⟨q, o, hk it (by simp) o ho, r⟩
      · have st := st.2
        cases ha : x.cps.all (· < 128)
        · rw [show strIterType x = "str_iterator" by simp [strIterType, ha]] at st
          exact wpAny_nextOf_wide_end hd st hx hE
        · rw [show strIterType x = "str_ascii_iterator" by simp [strIterType, ha]] at st
          exact wpAny_nextOf_ascii_end hd st hx hE
    exact wpAny_pyNext_enum_endD D he ⟨Nat.le_refl _, hit⟩ fun h' eb => ⟨rfl, I.turned (t' := s.toks) (fun b o hb q => eb b o hb q) f0 f1 f3 f4 f5⟩
  self := fun A i s Q E st h => let ⟨⟨_, he⟩, _⟩ := st; wpAny_pyIter_enum he h
def iEnumA (K : PySem.W.Frag) (ta : TA) : TI := fun σ H R => ta σ H fun vs H1 => (∃ a xs, vs = [.ref a] ∧ SqL K H1 a xs ∧ R (Ite K a) H1) ∨ ∃ x, vs = [.str x] ∧ R (Itse x) H1
theorem pi_enumA {X : Cx} {e : Expr} {ta : TA} {p pos tpos : Pos} {elts : List Expr} {kk : Nat} (hg : Gl X "enumerate") (hm : X.mg "enumerate" = none) (ha : PA X [e] ta) (hs : starEach [e] X.env = [(false, eval e X.env)] := by rfl) :
    PI X (.Tuple elts kk tpos) (.Call (.Name "enumerate" p) [e] [] pos) (iEnumA X.K ta) := by
  refine ⟨fun pins s σ H R I h => ?_⟩
  refine Call_ (ld_blt I hg hm boot_enumerate (PyProof.Rows.callWith_type1 (thn (ha.run pos pins s σ H _ I h) fun us s1 ⟨vs, H1, I1, r1, q1⟩ => ?_) hs rfl))
  rcases q1 with ⟨a, xs, ex, hq, q⟩ | ⟨x, ex, q⟩
  · subst ex
    cases r1 with
    | cons r rr =>
      cases rr
      cases r
      obtain ⟨its, rv, p', hz⟩ := I1.list hq
      refine call_enumerate_list p'.isList fun h' he hit hsz hk => wpAny_pyIter_enum he ?_
      have I2 : Inv X pins σ H1 { s1 with heap := h' } := I1.kept (t' := s1.toks) hk
      refine ⟨s1.heap.objs.size + 1, [s1.heap.objs.size + 1, s1.heap.objs.size], _, _, H1, rfl, I2, turn_enum a (s1.heap.objs.size + 1) s1.heap.objs.size, ⟨⟨.none, he⟩, hit, Nat.succ_ne_self _⟩, fun b hb => ?_, q⟩
      have e' : b = s1.heap.objs.size + 1 ∨ b = s1.heap.objs.size := by simpa using hb
      have hle : s1.heap.objs.size ≤ b := by
        rcases e' with z | z
        · rw [z]; exact Nat.le_add_right _ _
        · rw [z]; exact Nat.le_refl _
      exact I1.fpOk hle (I1.hok.fresh hle)
  · subst ex
    cases r1 with
    | cons r rr =>
      cases rr
      obtain ⟨t, rfl⟩ := r
      refine call_enumerate_str fun h' he hit hsz hk => wpAny_pyIter_enum he ?_
      have I2 : Inv X pins σ H1 { s1 with heap := h' } := I1.kept (t' := s1.toks) hk
      refine ⟨s1.heap.objs.size + 1, [s1.heap.objs.size + 1, s1.heap.objs.size], _, _, H1, rfl, I2, turn_enumS x t (s1.heap.objs.size + 1) s1.heap.objs.size, ⟨⟨.none, he⟩, hit, Nat.succ_ne_self _⟩, fun b hb => ?_, q⟩
      have e' : b = s1.heap.objs.size + 1 ∨ b = s1.heap.objs.size := by simpa using hb
      have hle : s1.heap.objs.size ≤ b := by
        rcases e' with z | z
        · rw [z]; exact Nat.le_add_right _ _
        · rw [z]; exact Nat.le_refl _
      exact I1.fpOk hle (I1.hok.fresh hle)
def enumD : Nat → List D → List D
  | _, [] => []
  | n, d :: l => .tup [.int (n : Nat), d] :: enumD (n + 1) l
theorem enumD_get : ∀ {l : List D} {n i : Nat} {d : D}, (enumD n l)[i]? = some d → ∃ x, l[i]? = some x ∧ d = .tup [.int ((n + i : Nat) : Int), x]
  | [], _, _, _, h => by cases h
  | x :: l, n, 0, d, h => by cases h; exact ⟨x, rfl, rfl⟩
  | x :: l, n, i + 1, d, h => by
    obtain ⟨y, h1, h2⟩ := enumD_get (l := l) (n := n + 1) (i := i) h
    exact ⟨y, h1, by rw [h2, show n + 1 + i = n + (i + 1) by omega]⟩
theorem enumD_getI : ∀ {l : List D} {n i : Nat} {x : D}, l[i]? = some x → (enumD n l)[i]? = some (.tup [.int ((n + i : Nat) : Int), x])
  | [], _, _, _, h => by cases h
  | x :: l, n, 0, d, h => by cases h; rfl
  | x :: l, n, i + 1, d, h => by
    have := enumD_getI (l := l) (n := n + 1) (i := i) h
    rw [show n + 1 + i = n + (i + 1) by omega] at this
    exact this
theorem enumD_len : ∀ {l : List D} {n : Nat}, (enumD n l).length = l.length
  | [], _ => rfl
  | x :: l, n => by rw [enumD, List.length_cons, List.length_cons, enumD_len]
/-- the pairs of a place and a thing -/
def wEnum (fa : WE) : WI := fun ρ Q => fa ρ fun r ρ1 => fz r ρ1 fun d ρ2 => match d with
  | .lst l => Q (enumD 0 l) ρ2
  | .str s => s.length ≤ sizeLine ∧ Q (enumD 0 (s.map fun c => .str [c])) ρ2
  | _ => False
section
variable {K : PySem.W.Frag} {B : Addr} {G H : Hp}
theorem itok_enum {a : Addr} {vs : List V} {l : List D} (h : G a = some (.lst vs)) (r : RepL K B G vs l) : ItOk K B G (Ite K a) (enumD 0 l) := by
  refine ⟨fun i H g hi => ?_, fun i H g hi => ⟨vs, .inl (.inl (g _ _ h)), by rw [r.length, ← enumD_len]; exact hi⟩, fun i H x H' g hi hy => ?_⟩
  · rw [enumD_len] at hi
    obtain ⟨v, hv, _⟩ := r.get (List.getElem?_eq_getElem hi)
    exact ⟨vs, v, .inl (.inl (g _ _ h)), hv⟩
  · obtain ⟨T, x, rfl, hT, rfl, hx⟩ := hy
    obtain ⟨d, hd, q⟩ := r.getV (hx vs (.inl (.inl (g _ _ h))))
    refine ⟨_, enumD_getI hd, .inr ⟨T, _, _, rfl, hT, rfl, rfl, .cons ?_ (.cons q .nil)⟩⟩
    rw [Nat.zero_add]; exact .int _
theorem itok_enumS {s : List Nat} (o : okS s = true) : ItOk K B G (Itse ⟨s.toArray⟩) (enumD 0 (s.map fun c => .str [c])) := by
  refine ⟨fun i H g hi => ?_, fun i H g hi => ?_, fun i H x H' g hi hy => ?_⟩
  · show i < (s.toArray).size
    rw [enumD_len] at hi
    simpa using hi
  · show (s.toArray).size ≤ i
    rw [enumD_len] at hi
    simpa using hi
  · obtain ⟨T, c, rfl, hT, rfl, hc⟩ := hy
    have hc : s[i]? = some c := by simpa using hc
    refine ⟨_, enumD_getI (x := .str [c]) (by rw [List.getElem?_map, hc]; rfl), .inr ⟨T, _, _, rfl, hT, rfl, rfl, .cons ?_ (.cons (.str (s := [c]) ?_) .nil)⟩⟩
    · rw [Nat.zero_add]; exact .int _
    · exact okS_sub (fun c' h => by rw [List.mem_singleton] at h; rw [h]; exact List.mem_of_getElem? hc) o
end
section
variable {X : Cx} {bx : Bx} {a b c e tg : Expr} {es elts : List Expr} {fa fb fc : WE} {fr : WA} {pos tpos : Pos} {x : Str} {p : Pos} {kk : Nat}
theorem i_enum (ha : E3 X bx a fa) (hm : X.mg "enumerate" = none) (hg : Gl X "enumerate" := by rfl) (hs : starEach [a] X.env = (false, eval a X.env) :: starEach [] X.env := by rfl) (hs2 : starEach [a] X.env = [(false, eval a X.env)] := by rfl) :
    I3 X bx (.Tuple elts kk tpos) (.Call (.Name "enumerate" p) [a] [] pos) (wEnum fa) := by
  refine ⟨PI.weaken (pi_enumA hg hm (pa_cons ha.pe pa_nil hs) hs2) fun σ H R ⟨F, ρ, G, P, st, h, hQ⟩ => ⟨F, ρ, G, _, st, h, fun r ρ1 v G1 H1 h1 g1 st1 rr1 => ?_⟩⟩
  obtain ⟨d, ρ2, G2, h2, g2, st2, rd⟩ := fz_ok st1 rr1 h1
  cases d with
  | lst l =>
    cases rd with
    | lst hg r => exact .inl ⟨_, _, rfl, .inl (.inl (st2.gs _ _ hg)), hQ _ ρ2 G2 _ _ h2 (g1.trans g2) st2 (itok_enum hg r)⟩
  | str s =>
    cases rd with
    | str o => exact .inr ⟨_, rfl, hQ _ ρ2 G2 _ _ h2.2 (g1.trans g2) st2 (itok_enumS o)⟩
  | tup _ => exact (show False from h2).elim
  | non => exact (show False from h2).elim
  | bl _ => exact (show False from h2).elim
  | int _ => exact (show False from h2).elim
  | dik _ => exact (show False from h2).elim
  | ty _ => exact (show False from h2).elim
  | box => exact (show False from h2).elim
end
/-! ### i += .. -/
def addA : DOp
  | .int i, .int j, P => P (.val (.int (i + j)))
  | .str a, .str b, P => a.length + b.length ≤ sizeLine ∧ P (.val (.str (a ++ b)))
  | _, _, _ => False
def subA : DOp
  | .int i, .int j, P => P (.val (.int (i - j)))
  | _, _, _ => False
def mulA : DOp
  | .int i, .int j, P => CMul i j ∧ P (.val (.int (i * j)))
  | _, _, _ => False
section
variable {X : Cx} {bx : Bx}
theorem ipA_add : IpD X bx .Add addA := by
  intro pins s σ H x y v u Q I rx ry ⟨G, d1, d2, P, g, v1, v2, h, R⟩
  unfold addA at h
  split at h
  · obtain rfl := view_int v1
    obtain rfl := view_int v2
    exact iop_add pins s σ H _ _ v u Q I rx ry ⟨_, _, rfl, rfl, R.val _ _ h (.int _)⟩
  · obtain ⟨rfl, o1⟩ := view_str v1
    obtain ⟨rfl, o2⟩ := view_str v2
    refine iop_add_str pins s σ H _ _ v u Q I rx ry ⟨_, _, rfl, rfl, by rw [str_len, str_len]; exact h.1, ?_⟩
    rw [str_app]
    exact R.val _ _ h.2 (.str (okS_append o1 o2))
  · exact h.elim
theorem ipA_sub : IpD X bx .Sub subA := by
  intro pins s σ H x y v u Q I rx ry ⟨G, d1, d2, P, g, v1, v2, h, R⟩
  unfold subA at h
  split at h
  · obtain rfl := view_int v1
    obtain rfl := view_int v2
    exact iop_sub pins s σ H _ _ v u Q I rx ry ⟨_, _, rfl, rfl, R.val _ _ h (.int _)⟩
  · exact h.elim
theorem ipA_mul : IpD X bx .Mult mulA := by
  intro pins s σ H x y v u Q I rx ry ⟨G, d1, d2, P, g, v1, v2, h, R⟩
  unfold mulA at h
  split at h
  · obtain rfl := view_int v1
    obtain rfl := view_int v2
    exact iop_mul pins s σ H _ _ v u Q I rx ry ⟨_, _, rfl, rfl, h.1, R.val _ _ h.2 (.int _)⟩
  · exact h.elim
end
end L2.W3

/-! W3, part o: rows made of ranges. -/
namespace PySem
open Sem (wp)
open AutoSeq1 (wpAny_loadPart')
section
variable {prog : Program} {w : World} {A : Around} {E : Value → Shared → Prop} {s : Shared}
theorem w3_collect_range {Q : List Value → Shared → Prop} (hh : A.handled = none) {r : Addr} {a b c : Int} {t u v : Tok} {n : Nat} (hr : IsRange s.heap r a b c t u v) (hsmall : Builtin.Range.small a b c = true)
    (hn : Builtin.Range.rangeSize a b c = n) (hlen : n ≤ 2 ^ 24)
    (hQ : ∀ h' tk acc, (∀ b o, s.heap.get? b = some o → h'.get? b = some o) → ItemsOf (fun i v => ∃ t, v = .int (a + i * c) t) acc n → Q acc.toList { s with heap := h', toks := tk }) :
    wpAny (model prog w) A (collect (.ref r)) Q E s := by
  have H : ∀ R : Result → Shared → Prop, (∀ h' tk acc' c', (∀ b o, s.heap.get? b = some o → h'.get? b = some o) →
      h'.get? s.heap.objs.size = some { cls := .type "list", dict := none, data := .seq acc' c', slots := #[] } → ItemsOf (fun i v => ∃ t, v = .int (a + i * c) t) acc' n → R (.ok (.ret (.ref s.heap.objs.size))) { s with heap := h', toks := tk }) →
      codeAny (model prog w) A (.builtin "proto.collect" ⟨[.ref r], []⟩) R s := by
    intro R hR
    refine codeAny_builtin F.entry_proto_collect ?_
    rw [Around.under_plainId F.plain_proto_collect _]
    show wpAny _ A.in1 (newList [] >>= fun l => again (.builtin "list.__iadd__" ⟨[l, .ref r], []⟩)) _ _ s
    refine wpAny_bind (wpAny_newObj_type ?_)
    refine wpAny_pure ⟨plainId_quiet F.plain_list_iadd _, codeAny_builtin F.entry_list_iadd ?_⟩
    rw [Around.under_plainId F.plain_list_iadd _]
    have hS : (s.heap.push { cls := .type "list", data := .seq ([] : List Value).toArray }).get? s.heap.objs.size = some { cls := .type "list", data := .seq ([] : List Value).toArray } := Heap.get?_push_size _ rfl
    exact wpAny_extend_range (A := A) (s := { s with heap := s.heap.push { cls := .type "list", data := .seq ([] : List Value).toArray } }) hh (Heap.get?_push_of_some _ hr) hsmall hn hlen s.heap.objs.size _ _ hS fun h' tk acc' c' hk hS' hacc =>
      hR h' tk acc' c' (fun b o e => hk b o (Nat.ne_of_lt (Heap.lt_size e)) (Heap.get?_push_of_some _ e)) hS' hacc
  unfold collect
  refine wpAny_bind (wpAny_runValue (H _ fun h' tk acc' c' hk hS' hacc => ?_))
  show wpAny _ A (load s.heap.objs.size >>= _) _ _ _
  refine wpAny_bind (wpAny_load hS' ?_)
  exact wpAny_pure (hQ h' tk acc' hk hacc)
end
theorem w3_tuple_range {r : Addr} {a b c : Int} {t u v : Tok} {n : Nat} (hsmall : Builtin.Range.small a b c = true) (hn : Builtin.Range.rangeSize a b c = n) (hlen : n ≤ 2 ^ 24) :
    Meets (Builtin.«tuple.__new__» ⟨[.type "tuple", .ref r], []⟩)
      (fun A R s => A.handled = none ∧ IsRange s.heap r a b c t u v ∧ ∀ (h' : Heap) (tk : Nat) (acc : Array Value), (∀ b o, s.heap.get? b = some o → h'.get? b = some o) → ItemsOf (fun i v => ∃ t, v = .int (a + i * c) t) acc n →
        R (.ok (.ret (.ref h'.objs.size))) { s with heap := h'.push { cls := .type "tuple", data := .seq acc }, toks := tk }) :=
  .of_wp fun prog w A R s h => by
    obtain ⟨hh, hr, h⟩ := h
    have hsub := sub_tuple_self
    have hinit := init_tuple_lookup
    have hmh := madeHere_tuple
    have hT : s.TypeIs (.ref r) "range" := ⟨_, hr, rfl⟩
    have hh1 : A.in1.handled = none := hh
    wp_walk using wpAny_typeOf hT, w3_collect_range hh1 hr hsmall hn hlen
    intro h' tk acc hk hacc
    show wpAny _ _ (Builtin.Tuple.tupleExact acc.toList.toArray >>= fun v => ret v) _ _ _
    unfold Builtin.Tuple.tupleExact
    refine wpAny_bind (wpAny_newObj_type ?_ (show acc.toList.toArray.size ≤ sizeLine by simp only [Array.toArray_toList]; rw [hacc.1]; exact hlen))
    refine wpAny_pure ⟨_, rfl, ?_⟩
    have e : acc.toList.toArray = acc := by simp
    rw [e]
    exact h h' tk acc hk hacc
section
variable {prog : Program} {w : World} {A : Around} {E : Value → Shared → Prop} {s : Shared}
theorem w3_call_tuple_range {Q : Value → Shared → Prop} (hh : A.handled = none) {r : Addr} {a b c : Int} {t u v : Tok} {n : Nat} (hr : IsRange s.heap r a b c t u v) (hsmall : Builtin.Range.small a b c = true)
    (hn : Builtin.Range.rangeSize a b c = n) (hlen : n ≤ 2 ^ 24)
    (hQ : ∀ (h' : Heap) (tk : Nat) (acc : Array Value), (∀ b o, s.heap.get? b = some o → h'.get? b = some o) → ItemsOf (fun i v => ∃ t, v = .int (a + i * c) t) acc n → Q (.ref h'.objs.size) { s with heap := h'.push { cls := .type "tuple", data := .seq acc }, toks := tk }) :
    wpAny (model prog w) A (call (.type "tuple") [.ref r]) Q E s := by
  refine callType_new F.called_tuple (by decide) (F.typeCall_tuple_1 _) (F.newCall_tuple_1 _) (fun obj => F.args_object_init_2 obj _) F.entry_tuple_new
    (w3_tuple_range hsmall hn hlen) ⟨hh, hr, fun h' tk acc hk hacc => ⟨⟨_, Heap.get?_push_size _ rfl, rfl⟩, ?_⟩⟩
  exact hQ h' tk acc hk hacc
end
end PySem
namespace L2.W3
open PySem PySem.Spec PyProof.Rows
theorem items_vals {lo : Int} {n : Nat} {acc : Array Value} (h : ItemsOf (fun i v => ∃ t, v = .int (lo + i * 1) t) acc n) : Vals ((List.range n).map fun k : Nat => V.int (lo + (k : Int) * 1)) acc.toList := by
  obtain ⟨hl, hi⟩ := h
  have key : ∀ (m : Nat), m ≤ n → Vals ((List.range m).map fun k : Nat => V.int (lo + (k : Int) * 1)) (acc.toList.take m) := by
    intro m
    induction m with
    | zero => intro _; simp; exact .nil
    | succ m ih =>
      intro hm
      have hlt : m < acc.toList.length := by rw [Array.length_toList, hl]; omega
      rw [List.range_succ, List.map_append, List.take_succ_eq_append_getElem hlt]
      refine (ih (by omega)).append (.cons ?_ .nil)
      obtain ⟨v, e, t, ht⟩ : ∃ v, acc[m]? = some v ∧ ∃ t, v = Value.int (lo + (m : Int) * 1) t := by
        have e : acc[m]? = some acc[m] := by simp
        exact ⟨_, e, hi m _ e⟩
      have e2 : acc.toList[m] = v := by
        have : acc.toList[m]? = some v := by rw [Array.getElem?_toList]; exact e
        rw [List.getElem?_eq_getElem hlt] at this
        exact Option.some.inj this
      rw [e2, ht]
      exact ⟨t, rfl⟩
  have := key n (Nat.le_refl _)
  rwa [List.take_of_length_le (by rw [Array.length_toList, hl]; exact Nat.le_refl _)] at this
section
variable {X : Cx} {bx : Bx} {a b c e tg : Expr} {es elts : List Expr} {fa fb fc : WE} {fr : WA} {pos pos2 : Pos} {x : Str} {p p2 : Pos} {ta : TA}
/-- tuple(range(n)) -/
def tTupR (ta : TA) : TE := fun σ H Q => ta σ H fun vs H1 => ∃ j : Int, vs = [.int j] ∧ -(2 ^ 62) ≤ j ∧ j.toNat ≤ sizeLine ∧ ∀ T, H1 T = none → Q (.ref T) (upd H1 T (.tup ((List.range j.toNat).map fun k : Nat => V.int (0 + (k : Int) * 1))))
theorem pe_tupR (hc : X.calm = true) (ha : PA X [a] ta) (hmT : X.mg "tuple" = none) (hm : X.mg "range" = none) (hgT : Gl X "tuple" := by rfl) (hg : Gl X "range" := by rfl)
    (hsT : starEach [Expr.Call (.Name "range" p2) [a] [] pos2] X.env = (false, eval (.Call (.Name "range" p2) [a] [] pos2) X.env) :: starEach [] X.env := by rfl) (hs : starEach [a] X.env = [(false, eval a X.env)] := by rfl) :
    PE X (.Call (.Name "tuple" p) [.Call (.Name "range" p2) [a] [] pos2] [] pos) (tTupR ta) := by
  refine ⟨fun pins s σ H Q I h => ?_⟩
  refine Call_ (ld_blt I hgT hmT boot_tuple (PyProof.Rows.callWith_type1 ?_ hsT rfl))
  rw [hsT]
  show wpAny _ _ (spliced ((false, eval (.Call (.Name "range" p2) [a] [] pos2) X.env) :: backTo pos (starEach [] X.env))) _ _ s
  refine Calls.spliced_cons ?_
  refine Call_ (ld_blt I hg hm boot_range (PyProof.Rows.callWith_type1 (thn (ha.run pos2 pins s σ H _ I h) fun us s1 ⟨vs, H1, I1, r1, q1⟩ => ?_) hs rfl))
  obtain ⟨j, e, h1, h2, q⟩ := q1
  subst e
  cases r1 with
  | cons r rr =>
    cases rr
    obtain ⟨t, rfl⟩ := r
    have hj : j < 2 ^ 62 := by
      have : sizeLine = 16777216 := rfl
      omega
    refine call_range_1 (Calls.spliced_nil ?_)
    have hn : Builtin.Range.rangeSize 0 j 1 = ((j.toNat : Nat) : Int) := by rw [rangeSize_one]; split <;> omega
    refine w3_call_tuple_range (I1.ok.hd hc) (IsRange.new ..) (small_one (by omega) (by omega) h1 hj) hn h2 fun h' tk acc hk hacc => ?_
    have I2 : Inv X pins σ H1 { s1 with heap := h', toks := tk } := I1.kept fun b o q => hk b o (Heap.get?_push_of_some _ q)
    have rv := items_vals hacc
    have hz : ((List.range j.toNat).map fun k : Nat => V.int (0 + (k : Int) * 1)).length ≤ sizeLine := by rw [List.length_map, List.length_range]; exact h2
    have I3 : Inv X pins σ (upd H1 h'.objs.size (.tup ((List.range j.toNat).map fun k : Nat => V.int (0 + (k : Int) * 1)))) { s1 with heap := h'.push { cls := .type "tuple", data := .seq acc }, toks := tk } := by
      have e : acc = acc.toList.toArray := by simp
      rw [e]
      exact I2.laid (t' := tk) (fun b o q => Heap.get?_push_of_some _ q) (Nat.le_refl _) (show ObjOk X.prog X.w _ _ _ (.tup _) from ⟨hz, acc.toList, rv, IsTup.new _ _⟩)
    exact ⟨.ref h'.objs.size, _, I3, rfl, q _ (I2.hok.fresh (Nat.le_refl _))⟩
def wTupleRng1 (fa : WA) : WE := fun ρ Q => fa ρ fun ds ρ1 => match ds with
  | [.int j] => -(2 ^ 62) ≤ j ∧ j.toNat ≤ sizeLine ∧ Q (.val (.tup (rng 0 1 j.toNat))) ρ1
  | _ => False
theorem rng_rep {K : PySem.W.Frag} {B : Addr} {G : Hp} (n : Nat) : RepL K B G ((List.range n).map fun k : Nat => V.int (0 + (k : Int) * 1)) (rng 0 1 n) := by
  unfold rng
  have : ∀ l : List Nat, RepL K B G (l.map fun k : Nat => V.int (0 + (k : Int) * 1)) (l.map fun k : Nat => D.int (0 + (k : Int) * 1)) := by
    intro l
    induction l with
    | nil => exact .nil
    | cons a l ih => exact .cons (.int _) ih
  exact this _
theorem e_tupleRng1 (ha : A3 X bx [a] fr) (hmT : X.mg "tuple" = none) (hm : X.mg "range" = none) (hc : X.calm = true := by rfl) (hgT : Gl X "tuple" := by rfl) (hg : Gl X "range" := by rfl)
    (hsT : starEach [Expr.Call (.Name "range" p2) [a] [] pos2] X.env = (false, eval (.Call (.Name "range" p2) [a] [] pos2) X.env) :: starEach [] X.env := by rfl) (hs : starEach [a] X.env = [(false, eval a X.env)] := by rfl) :
    E3 X bx (.Call (.Name "tuple" p) [.Call (.Name "range" p2) [a] [] pos2] [] pos) (wTupleRng1 fr) := by
  refine ⟨PE.weaken (pe_tupR hc ha.pa hmT hm hgT hg hsT hs) fun σ H Q ⟨F, ρ, G, P, st, h, hQ⟩ => ⟨F, ρ, G, _, st, h, fun ds ρ1 vs G1 H1 h1 g1 st1 rl => ?_⟩⟩
  cases ds with
  | nil => exact (show False from h1).elim
  | cons d r =>
    cases r with
    | cons d2 r => cases d <;> exact (show False from h1).elim
    | nil =>
      cases d <;> first
        | exact (show False from h1).elim
        | skip
      rename_i j
      have h1 : -(2 ^ 62) ≤ j ∧ j.toNat ≤ sizeLine ∧ P (.val (.tup (rng 0 1 j.toNat))) ρ1 := h1
      cases rl with
      | cons r rr =>
        cases rr
        cases r
        refine ⟨j, rfl, h1.1, h1.2.1, fun T hT => ?_⟩
        have st2 : Stt X.K bx F ρ1 σ G1 (upd H1 T (.tup ((List.range j.toNat).map fun k : Nat => V.int (0 + (k : Int) * 1)))) := st1.alloc hT
        obtain ⟨g2, st3⟩ := freeze_at st2 upd_same (st1.nG hT) (st1.nF hT) (st1.nfp hT) (st1.notown hT)
        exact hQ _ _ _ _ _ h1.2.2 (g1.trans g2) st3 (Rep.tup (.inl (.inl upd_same)) (rng_rep _))
end
end L2.W3

/-! W3, part p: drawn words of the box family. -/
namespace L2.W3
open PySem PySem.Spec PyProof.Rows
def b_wordB : WS :=
  (wSeq (wSet 3 (wStrM joinD (wC (.str [])) (wLc (wRng1 (wACons (wCall C_draw (wACons (wVar 0) (wACons (wBin addD (wVar 1) (wC (.int 1))) wANil))) wANil)) (wName 4) wYes (wBin ixD (wC (.str [97, 98, 99, 100, 101, 102, 103, 104, 105, 106, 107, 108, 109, 110, 111, 112, 113, 114, 115, 116, 117, 118, 119, 120, 121, 122])) (wCall C_draw (wACons (wVar 0) (wACons (wVar 2) wANil)))) [4])))
    (wSeq (wIfS (wTAnd (wTB (wBin neD (wVar 3) (wC (.str [])))) (wTB (wBin eqD (wCall C_draw (wACons (wVar 0) (wACons (wC (.int 3)) wANil))) (wC (.int 0))))) (wSet 3 (wSl (wBin mulD (wSl (wVar 3) wONone (wOSome (wBin addD (wC (.int 1)) (wCall C_draw (wACons (wVar 0) (wACons (wC (.int 5)) wANil)))))) (wVar 1)) wONone (wOSome (wUn lenD (wVar 3))))) wNext)
    (wRet (wVar 3))))
theorem vc_wordB : ∀ ds Q, C_letters ds Q → b_wordB { nx := fun _ => Q (.val .non), rt := Q } (start3 ["box", "most", "many", "word", "k"] ds) := by
  rintro ds Q ⟨m, k, rfl, hm, hk, hk2, q⟩
  refine Exists.intro _ (And.intro rfl (And.intro (by omega) (And.intro (by omega) fun r h0 h1 => ?_)))
  refine And.intro (by unfold SmallI; omega) ?_
  refine lc0A (fun d => ∃ c, 97 ≤ c ∧ c < 97 + k ∧ d = .str [c]) (by rw [sL]; show r.toNat ≤ _; omega) (fun x hx C hC => ?_) fun l hl hA => ?_
  · refine Exists.intro _ (And.intro rfl (And.intro (by omega) (And.intro (by omega) fun z z0 z1 => ?_)))
    refine And.intro (by exact Nat.le_of_ble_eq_true rfl) (Exists.intro (97 + z.toNat) (And.intro ?_ (hC _ ⟨_, by omega, by omega, rfl⟩)))
    have := abc_get z.toNat (by omega)
    rw [Int.toNat_of_nonneg z0] at this
    exact this
  · have hl : l.length = r.toNat := hl
    obtain ⟨f1, f2, f3⟩ := flat_letters (m := m) (k := k) (l := l) (by omega) hA
    refine And.intro f1 (And.intro (by rw [f2]; show l.length + l.length * 0 ≤ _; omega) ?_)
    rw [joinS_nil]
    generalize (l.map strOf).flatten = s at f3 ⊢
    have sl := f3.1
    refine And.intro trivial (And.intro trivial (ite_w (fun _ => ?_) fun _ => ?_))
    · refine Exists.intro _ (And.intro rfl (And.intro (by decide) (And.intro (by decide) fun z _ _ => And.intro trivial (And.intro trivial (ite_w (fun _ => ?_) fun _ => ?_)))))
      · refine Exists.intro _ (And.intro rfl (And.intro (by decide) (And.intro (by decide) fun o o0 o1 => ?_)))
        obtain ⟨o, rfl⟩ := Int.eq_ofNat_of_zero_le o0
        have eo : (1 : Int) + (o : Int) = ((o + 1 : Nat) : Int) := by omega
        refine And.intro (by rw [sL]; omega) ?_
        rw [eo, cut_to]
        have tl : (s.take (o + 1)).length ≤ 5 := by rw [List.length_take]; omega
        have ml : (s.take (o + 1)).length * m ≤ 5 * 1000 := Nat.mul_le_mul tl hm
        refine And.intro (by omega) (And.intro (by omega) (And.intro (by rw [Int.toNat_natCast]; omega) (And.intro (by rw [sL]; omega) (And.intro (by rw [repN_len, Int.toNat_natCast, Nat.mul_comm, sL]; omega) ?_))))
        refine q _ ⟨?_, fun c hc => f3.2 c (List.mem_of_mem_take (repN_mem (cut_mem hc)))⟩
        rw [cut_to, List.length_take]; omega
      · exact q _ f3
    · exact q _ f3
end L2.W3

/-! W3, part q: backwards; index; greatest of a tuple; pop(k). -/
namespace L2.W3
open PySem PySem.Spec PyProof.Rows PySem.Builtin.Str

/-! ### x[::-1] -/
theorem pick_all {α : Type} : ∀ l : List α, (List.range l.length).filterMap (fun k => l[k]?) = l
  | [] => rfl
  | a :: l => by
    rw [List.length_cons, List.range_succ_eq_map, List.filterMap_cons]
    show a :: List.filterMap _ (List.map Nat.succ _) = _
    rw [List.filterMap_map]
    congr 1
    exact pick_all l
theorem fm_congr {α β : Type} {f g : α → Option β} : ∀ l : List α, (∀ x ∈ l, f x = g x) → l.filterMap f = l.filterMap g
  | [], _ => rfl
  | a :: l, h => by
    rw [List.filterMap_cons, List.filterMap_cons, h a List.mem_cons_self, fm_congr l fun x hx => h x (List.mem_cons_of_mem _ hx)]
theorem pick_rev {α : Type} (l : List α) : (strSliceIndices none none (-1) l.length).filterMap (fun k => l.toArray[k]?) = l.reverse := by
  rw [PyProof.Rows.picked_rev, List.filterMap_map]
  have e := pick_all l.reverse
  rw [List.length_reverse] at e
  conv => rhs; rw [← e]
  refine fm_congr _ fun k hk => ?_
  have hk := List.mem_range.mp hk
  show l.toArray[l.length - 1 - k]? = _
  rw [List.getElem?_reverse hk]
  simp
section
variable {X : Cx} {bx : Bx} {a b c e st tg : Expr} {es elts : List Expr} {fa fb fc : WE} {fr : WA} {pos p2 : Pos} {x : Str} {p : Pos} {te ts : TE}
def tRev (K : PySem.W.Frag) (te ts : TE) : TE := fun σ H Q => te σ H fun v H1 => ts σ H1 fun u H2 => u = .int (-1) ∧
  ((∃ x : Str, v = .str x ∧ x.length ≤ sizeLine ∧ Q (.str ⟨x.cps.toList.reverse.toArray⟩) H2) ∨ ∃ l xs, v = .ref l ∧ SqL K H2 l xs ∧ ∀ q, H2 q = none → Q (.ref q) (upd H2 q (.lst xs.reverse)))
theorem pe_rev (he : PE X e te) (hs : PE X st ts) : PE X (.Subscript e (.Slice none none (some st) p2) pos) (tRev X.K te ts) := by
  refine ⟨fun pins s σ H Q I h => ?_⟩
  refine Subscript_ (thn (he.run pins s σ H _ I h) fun v s1 ⟨x, H1, I1, r1, q1⟩ => ?_)
  refine wpAny_Slice ?_
  rw [evalPart_none]
  refine wpAny_pure ?_
  refine wpAny_pure ?_
  rw [evalPart_some]
  refine thn (hs.run pins s1 σ H1 _ I1 q1) fun vs s2 ⟨u, H2, I2, r2, hu, q2⟩ => ?_
  subst hu
  obtain ⟨tk, rfl⟩ := r2
  have I4 : Inv X pins σ H2 { s2 with heap := s2.heap.push { cls := .type "slice", data := .fields #[.none, .none, .int (-1) tk] } } := I2.kept (t' := s2.toks) fun b ob q => Heap.get?_push_of_some _ q
  show wpAny (model X.prog X.w) X.A (subscriptTail e (.Slice none none (some st) p2) v (.ref s2.heap.objs.size)) (EP X pins σ Q) X.xe { s2 with heap := s2.heap.push { cls := .type "slice", data := .fields #[.none, .none, .int (-1) tk] } }
  rcases q2 with ⟨z, rfl, hz, q⟩ | ⟨l, xs, rfl, hl, q⟩
  · obtain ⟨t, rfl⟩ := r1
    refine tail_any (ops := [.str z t, .ref s2.heap.objs.size]) (T := "str") (typeIs_str _ z t) F.slot_str_getitem.lookup ?_ (by with_unfolding_all rfl)
    refine wpAny_getItem_str_slice (l := none) (u := none) (st := some (-1, tk)) ⟨_, Heap.get?_push_size _ rfl, rfl, rfl⟩ rfl ?_
    have e : sliceMade z t none none (some (-1, tk)) = .str ⟨z.cps.toList.reverse.toArray⟩ := by
      unfold sliceMade
      rw [if_neg (by simp)]
      congr 2
      congr 1
      have := pick_rev z.cps.toList
      rw [show z.cps.toList.length = z.cps.size by simp] at this
      exact this
    rw [e]
    exact ⟨by show z.cps.toList.reverse.toArray.size ≤ _; simp; exact hz, .str ⟨z.cps.toList.reverse.toArray⟩, H2, I4.tok _, ⟨_, rfl⟩, q⟩
  · obtain rfl : v = Value.ref l := r1
    obtain ⟨its, rv, pl, hzl⟩ := I4.list hl
    refine tail_any (ops := [.ref l, .ref s2.heap.objs.size]) (T := "list") pl.isList.typeIs list_getitem_lookup ?_ (by with_unfolding_all rfl)
    refine wpAny_getItem_list_slice pl.isList (Heap.IsSliceOf.new ..) .none .none (.int (-1) tk) (by decide) ?_ (by rw [List.size_toArray, ← rv.length]; exact hzl)
    have e : slicePick its.toArray none none (some (-1)) = its.reverse.toArray := by
      have := pick_rev its
      show (List.filterMap _ _).toArray = _
      congr 1
    rw [e]
    refine ⟨.ref _, _, I4.laid (t' := s2.toks) (o := .lst xs.reverse) (fun b ob q => Heap.get?_push_of_some _ q) (Nat.le_refl _) ?_, rfl, q _ (I4.hok.fresh (Nat.le_refl _))⟩
    exact ⟨by rw [List.length_reverse]; exact hzl, its.reverse, 0, rv.reverse, Heap.get?_push_size _ rfl⟩
def revD : UOp
  | .str s, P => s.length ≤ sizeLine ∧ P (.val (.str s.reverse))
  | .lst l, P => P (.new (.lst l.reverse))
  | _, _ => False
theorem e_rev {j : Nat} {p3 p4 : Pos} (ha : E3 X bx a fa) : E3 X bx (.Subscript a (.Slice none none (some (.UnaryOp .USub (.Constant (.int 1) j p3) p4)) p2) pos) (wUn revD fa) := by
  refine ⟨PE.weaken (pe_rev ha.pe (pe_un un_neg pe_int)) fun σ H Q h => ?_⟩
  obtain ⟨F, ρ, G, P, st, hf, hQ⟩ := h
  refine ⟨F, ρ, G, _, st, hf, fun r1 ρ1 w1 G1 H1 h1 g1 st1 rr1 => ?_⟩
  obtain ⟨d, h2, vd⟩ := pk_ok st1 rr1 h1
  refine ⟨1, rfl, rfl, ?_⟩
  unfold revD at h2
  split at h2
  · obtain ⟨rfl, o⟩ := view_str vd
    refine .inl ⟨_, rfl, by rw [str_len]; exact h2.1, ?_⟩
    exact hQ _ ρ1 _ G1 _ h2.2 g1 st1 (.str (okS_sub (fun c hc => List.mem_reverse.mp hc) o))
  · obtain ⟨l, vs, rfl, s1, r1⟩ := view_lst st1.gs vd
    refine .inr ⟨l, vs, rfl, .inl (.inl s1), fun q hq => ?_⟩
    have R := res_of (P := fun r => P r ρ1) st1 fun r w G2 H2 h g st2 rr => hQ r ρ1 w G2 H2 h (g1.trans g) st2 rr
    exact R.lst _ _ q h2 hq (RepL.reverse r1)
  · exact h2.elim
end
/-! ### max, min of a tuple of ints -/
section
variable {prog : Program} {w : World} {A : Around} {E : Value → Shared → Prop} {s : Shared} {l : Addr} {its : List Value} {ns : List Int} {Q : Value → Shared → Prop}
theorem max_rawT (hh : A.handled = none) (hl : s.heap.IsTuple l its.toArray) (hi : IntsAre its ns) (hne : 0 < ns.length)
    (h : ∀ h' tk M t', (∀ b o, s.heap.get? b = some o → h'.get? b = some o) → M ∈ ns → (∀ a, a ∈ ns → a ≤ M) → Q (.int M t') { s with heap := h', toks := tk }) : wpAny (model prog w) A (call (.builtin "max") [.ref l]) Q E s := by
  obtain ⟨xs, e⟩ := hi.allInts.items
  have hn : numsOf (intItems xs).toList = ns := by rw [← e]; exact hi.numsOf
  rw [nums_intItems] at hn
  subst hn
  rw [e] at hl
  have hsz : 0 < xs.size := by simpa using hne
  have hlt : l < s.heap.objs.size := by obtain ⟨o, ho, _⟩ := hl; exact Heap.lt_size ho
  refine call_max_walk (wpAny_pyIter_tuple hl ?_)
  refine ⟨_, _, _, _, _, _, _, rfl, Walks.tuple (A := A.in1) hh s.heap.objs.size l (Nat.ne_of_lt hlt) (intItems xs), ⟨⟨_, Heap.get?_push_size _ rfl, rfl, rfl⟩, hl.at fun o q => Heap.get?_push_of_some _ q⟩, fun b hb => ?_, by simpa [intItems] using hsz, CmpOf.ints_gt (numAt xs) (fun _ _ => intItems_at), fun v h' tk hP hk => ?_⟩
  · have e' : b = s.heap.objs.size ∨ b = l := by simpa using hb
    rw [Heap.size_push]
    rcases e' with z | z
    · rw [z]; exact Nat.lt_succ_self _
    · rw [z]; exact Nat.lt_succ_of_lt hlt
  · have hv : (intItems xs)[argBest (fun i j => decide (numAt xs i > numAt xs j)) (xs.size - 1)]? = some v := by simpa [intItems] using hP
    obtain ⟨t, rfl⟩ := intItems_at hv
    obtain ⟨h1, h2⟩ := argBest_gt (numAt xs) (xs.size - 1)
    refine h h' tk _ t (fun b o q => hk b o (fun z => ?_) (Heap.get?_push_of_some _ q)) ?_ fun a ha => ?_
    · have z : b = s.heap.objs.size := by simpa using z
      exact absurd (Heap.lt_size q) (by rw [z]; exact Nat.lt_irrefl _)
    · rw [numAt_eq]; exact PySem.getD_mem (by rw [List.length_map, Array.length_toList]; omega)
    · obtain ⟨j, hj, rfl⟩ := mem_getD ha
      rw [List.length_map, Array.length_toList] at hj
      rw [← numAt_eq]; exact h2 j (by omega)
theorem min_rawT (hh : A.handled = none) (hl : s.heap.IsTuple l its.toArray) (hi : IntsAre its ns) (hne : 0 < ns.length)
    (h : ∀ h' tk M t', (∀ b o, s.heap.get? b = some o → h'.get? b = some o) → M ∈ ns → (∀ a, a ∈ ns → M ≤ a) → Q (.int M t') { s with heap := h', toks := tk }) : wpAny (model prog w) A (call (.builtin "min") [.ref l]) Q E s := by
  obtain ⟨xs, e⟩ := hi.allInts.items
  have hn : numsOf (intItems xs).toList = ns := by rw [← e]; exact hi.numsOf
  rw [nums_intItems] at hn
  subst hn
  rw [e] at hl
  have hsz : 0 < xs.size := by simpa using hne
  have hlt : l < s.heap.objs.size := by obtain ⟨o, ho, _⟩ := hl; exact Heap.lt_size ho
  refine call_min_walk (wpAny_pyIter_tuple hl ?_)
  refine ⟨_, _, _, _, _, _, _, rfl, Walks.tuple (A := A.in1) hh s.heap.objs.size l (Nat.ne_of_lt hlt) (intItems xs), ⟨⟨_, Heap.get?_push_size _ rfl, rfl, rfl⟩, hl.at fun o q => Heap.get?_push_of_some _ q⟩, fun b hb => ?_, by simpa [intItems] using hsz, CmpOf.ints_lt (numAt xs) (fun _ _ => intItems_at), fun v h' tk hP hk => ?_⟩
  · have e' : b = s.heap.objs.size ∨ b = l := by simpa using hb
    rw [Heap.size_push]
    rcases e' with z | z
    · rw [z]; exact Nat.lt_succ_self _
    · rw [z]; exact Nat.lt_succ_of_lt hlt
  · have hv : (intItems xs)[argBest (fun i j => decide (numAt xs i < numAt xs j)) (xs.size - 1)]? = some v := by simpa [intItems] using hP
    obtain ⟨t, rfl⟩ := intItems_at hv
    obtain ⟨h1, h2⟩ := argBest_lt (numAt xs) (xs.size - 1)
    refine h h' tk _ t (fun b o q => hk b o (fun z => ?_) (Heap.get?_push_of_some _ q)) ?_ fun a ha => ?_
    · have z : b = s.heap.objs.size := by simpa using z
      exact absurd (Heap.lt_size q) (by rw [z]; exact Nat.lt_irrefl _)
    · rw [numAt_eq]; exact PySem.getD_mem (by rw [List.length_map, Array.length_toList]; omega)
    · obtain ⟨j, hj, rfl⟩ := mem_getD ha
      rw [List.length_map, Array.length_toList] at hj
      rw [← numAt_eq]; exact h2 j (by omega)
end
section
variable {X : Cx} {bx : Bx} {a b c e tg : Expr} {es elts : List Expr} {fa fb fc : WE} {fr : WA} {pos : Pos} {x : Str} {p : Pos}
def maxA : UOp
  | .lst l, P => l.all isInt = true ∧ l ≠ [] ∧ P (.val (.int (maxI (l.map intOf))))
  | .tup l, P => l.all isInt = true ∧ l ≠ [] ∧ P (.val (.int (maxI (l.map intOf))))
  | _, _ => False
def minA : UOp
  | .lst l, P => l.all isInt = true ∧ l ≠ [] ∧ P (.val (.int (minI (l.map intOf))))
  | .tup l, P => l.all isInt = true ∧ l ≠ [] ∧ P (.val (.int (minI (l.map intOf))))
  | _, _ => False
theorem c_maxA (hc : X.calm = true) : Call1 X bx (.builtin "max") maxA := by
  rintro pins s σ H xs us Q I r ⟨v, rfl, G, d, P, g, v1, h, R⟩
  unfold maxA at h
  split at h
  · rename_i l
    obtain ⟨a, vs, rfl, s1, r1⟩ := view_lst g v1
    have e := r1.ints h.1
    subst e
    have hne : l.map intOf ≠ [] := fun e => h.2.1 (List.map_eq_nil_iff.mp e)
    refine cr_max hc pins s σ H _ us Q I r ⟨a, _, rfl, .inl (.inl s1), List.length_pos_iff.mpr hne, fun m hm hy => ?_⟩
    obtain ⟨h1, h2⟩ := maxI_spec hne
    have e : m = maxI (l.map intOf) := Int.le_antisymm (h2 m hm) (hy _ h1)
    rw [e]
    exact R.val _ _ h.2.2 (.int _)
  · rename_i l
    obtain ⟨a, vs, rfl, s1, r1, _⟩ := view_tup g v1
    have e := r1.ints h.1
    subst e
    have hne : l.map intOf ≠ [] := fun e => h.2.1 (List.map_eq_nil_iff.mp e)
    obtain ⟨its, rv, hl, _⟩ := I.tuple s1
    rw [Vals.ref1 r]
    refine max_rawT (I.ok.hd hc) hl rv.ints (List.length_pos_iff.mpr hne) fun h' tk m t' hk h1 h2 => ?_
    obtain ⟨h3, h4⟩ := maxI_spec hne
    have e : m = maxI (l.map intOf) := Int.le_antisymm (h4 m h1) (h2 _ h3)
    rw [e]
    exact ⟨.int _, H, I.kept hk, ⟨_, rfl⟩, R.val _ _ h.2.2 (.int _)⟩
  · exact h.elim
theorem c_minA (hc : X.calm = true) : Call1 X bx (.builtin "min") minA := by
  rintro pins s σ H xs us Q I r ⟨v, rfl, G, d, P, g, v1, h, R⟩
  unfold minA at h
  split at h
  · rename_i l
    obtain ⟨a, vs, rfl, s1, r1⟩ := view_lst g v1
    have e := r1.ints h.1
    subst e
    have hne : l.map intOf ≠ [] := fun e => h.2.1 (List.map_eq_nil_iff.mp e)
    refine cr_min hc pins s σ H _ us Q I r ⟨a, _, rfl, .inl (.inl s1), List.length_pos_iff.mpr hne, fun m hm hy => ?_⟩
    obtain ⟨h1, h2⟩ := minI_spec hne
    have e : m = minI (l.map intOf) := Int.le_antisymm (hy _ h1) (h2 m hm)
    rw [e]
    exact R.val _ _ h.2.2 (.int _)
  · rename_i l
    obtain ⟨a, vs, rfl, s1, r1, _⟩ := view_tup g v1
    have e := r1.ints h.1
    subst e
    have hne : l.map intOf ≠ [] := fun e => h.2.1 (List.map_eq_nil_iff.mp e)
    obtain ⟨its, rv, hl, _⟩ := I.tuple s1
    rw [Vals.ref1 r]
    refine min_rawT (I.ok.hd hc) hl rv.ints (List.length_pos_iff.mpr hne) fun h' tk m t' hk h1 h2 => ?_
    obtain ⟨h3, h4⟩ := minI_spec hne
    have e : m = minI (l.map intOf) := Int.le_antisymm (h2 _ h3) (h4 m h1)
    rw [e]
    exact ⟨.int _, H, I.kept hk, ⟨_, rfl⟩, R.val _ _ h.2.2 (.int _)⟩
  · exact h.elim
/-! ### t.index(k) -/
theorem flat_intsV (ys : List Int) : (ys.map V.int).all flatV = true := by
  rw [List.all_map]
  exact List.all_eq_true.mpr fun _ _ => rfl
theorem mt_tup_indexI : MtR X "tuple.index" (fun x xs H Q => ∃ p, ∃ ys : List Int, ∃ z j, x = .ref p ∧ xs = [.int z] ∧ SqT X.K H p (ys.map V.int) ∧ ys[j]? = some z ∧ (∀ m, m < j → ys[m]? ≠ some z) ∧ Q (.int (j : Nat)) H) := by
  intro pins s σ H x xs v us Q I rx rs h
  obtain ⟨p, ys, z, j, rfl, rfl, hq, hy, hno, q⟩ := h
  cases rx
  obtain ⟨u, rfl, t, rfl⟩ := vals1 rs
  obtain ⟨its, r, pl, hz⟩ := I.tuple hq
  obtain ⟨⟨cls, dd, dt, sl⟩, ho, hc, n, hd⟩ := pl
  simp only at hc hd
  subst hc
  subst hd
  have hl : its.toArray.size = ys.length := by rw [List.size_toArray, ← r.length, List.length_map]
  have hj : j < its.toArray.size := by rw [hl]; exact (List.getElem?_eq_some_iff.mp hy).1
  have at' : ∀ (m : Nat) (hm : m < its.toArray.size), ∃ y t', ys[m]? = some y ∧ its.toArray[m] = Value.int y t' := fun m hm => by
    have hm' : m < ys.length := by rw [← hl]; exact hm
    obtain ⟨w, hw, t', hw'⟩ := r.get (i := m) (x := .int ys[m]) (by simp [hm'])
    refine ⟨ys[m], t', List.getElem?_eq_getElem hm', ?_⟩
    have e := (List.getElem?_eq_some_iff.mp hw).2
    rw [← hw', ← e]
    simp
  refine call_meets PySem.F.slot_tuple_index ⟨_, ho, rfl⟩ PySem.F.entry_tuple_index (PySem.F.args_tuple_index_2 _ _) (_root_.TI.tuple_indexAt p its.toArray n dd sl (.int z t) (eqU (.int z)) j hj ?_ ?_)
    ⟨ho, fun w hw => mem_eqAt (x := .int z) ⟨t, rfl⟩ rfl r (flat_intsV ys) w (by simpa using hw), ⟨.int (j : Nat), H, I.tok _, ⟨_, rfl⟩, q⟩⟩
  · obtain ⟨y, t', h1, h2⟩ := at' j hj
    rw [hy] at h1
    cases h1
    rw [h2]
    show (z == z) = true
    exact beq_self_eq_true z
  · intro m hm hmj
    obtain ⟨y, t', h1, h2⟩ := at' m hm
    rw [h2]
    show (y == z) = false
    exact beq_eq_false_iff_ne.mpr fun e => hno m hmj (e ▸ h1)
/-- the first place of a number in a tuple -/
def wIndex (fa fb : WE) : WE := fun ρ Q => fa ρ fun r1 ρ1 => pk r1 ρ1 fun x => match x with
  | .tup l => fb ρ1 fun r2 ρ2 => pk r2 ρ2 fun y => asI y fun k => l.all isInt = true ∧ ∃ j : Nat, (l.map intOf)[j]? = some k ∧ (∀ m, m < j → (l.map intOf)[m]? ≠ some k) ∧ Q (.val (.int (j : Nat))) ρ2
  | _ => False
end
end L2.W3

/-! W3, part r: enumerate(tuple). -/
namespace PySem
open Sem (wp)
open AutoSeq1 (wpAny_loadPart')
section
variable {prog : Program} {w : World} {A : Around} {E : Value → Shared → Prop} {s : Shared}
theorem w3_nextOf_tuple_item {it l : Addr} {i : Nat} {items} {x : Value} {Q : Value → Shared → Prop} (hit : s.heap.IsTupleIter it l i)
    (hl : s.heap.IsTuple l items) (hx : items[i]? = some x)
    (hQ : ∀ h', h'.IsTupleIter it l (i + 1) → Heap.SameBut it s.heap h' → Q x { s with heap := h' }) :
    wpAny (model prog w) A (Builtin.SmallTypes.nextOf (.ref it)) Q E s := by
  obtain ⟨o, ho, hc, hd⟩ := id hit
  obtain ⟨ol, hol, _, nl, hdl⟩ := hl
  unfold Builtin.SmallTypes.nextOf
  refine wpAny_bind (wpAny_callSpecial?_slot (name := Str.ofString "__next__") hit.typeIs F.slot_tuple_iterator_next
    (wpAny_call_entry F.slot_tuple_iterator_next hit.typeIs F.entry_tuple_iterator_next ?_ (F.args_tuple_iterator_next_1 _)))
  show wpAny _ _ (field (.ref it) 0 >>= _) _ _ s
  refine wpAny_bind (wpAny_field ho hd (x := .ref l) rfl ?_)
  show wpAny _ _ (if (Value.ref l == Value.none) = true then _ else _) _ _ s
  rw [if_neg (show ¬ ((Value.ref l == Value.none) = true) from Bool.false_ne_true)]
  show wpAny _ _ (field (.ref it) 1 >>= _) _ _ s
  refine wpAny_bind (wpAny_field ho hd (x := .int i 0) rfl ?_)
  show wpAny _ _ (seqItems? (.ref l) >>= _) _ _ s
  refine wpAny_bind (wpAny_seqItems hol hdl ?_)
  simp only [Int.toNat_natCast, hx]
  refine wpAny_bind (wpAny_setField ho hd (by simp) (wpAny_pure ⟨x, rfl, wpAny_pure (hQ _ ?_ (Heap.SameBut.update ..))⟩))
  exact ⟨_, Heap.get?_update_self _ ho (Obj.isFreed_of_fields (Obj.data_mapFields hd _)), (Obj.cls_mapFields ..).trans hc, by
    rw [Obj.data_mapFields hd]; simp [rawInt]⟩

theorem w3_nextOf_tuple_end {it l : Addr} {i : Nat} {items} {Q : Value → Shared → Prop} (hh : A.handled = none)
    (hit : s.heap.IsTupleIter it l i) (hl : s.heap.IsTuple l items) (hx : items[i]? = none)
    (hE : ∀ h' e, Heap.ExtBut it s.heap h' → (∃ o, h'.get? e = some o ∧ o.cls = .type "StopIteration") → E (.ref e) { s with heap := h' }) :
    wpAny (model prog w) A (Builtin.SmallTypes.nextOf (.ref it)) Q E s := by
  obtain ⟨o, ho, hc, hd⟩ := id hit
  obtain ⟨ol, hol, _, nl, hdl⟩ := hl
  unfold Builtin.SmallTypes.nextOf
  refine wpAny_bind (wpAny_callSpecial?_slot (name := Str.ofString "__next__") hit.typeIs F.slot_tuple_iterator_next
    (wpAny_call_entry F.slot_tuple_iterator_next hit.typeIs F.entry_tuple_iterator_next ?_ (F.args_tuple_iterator_next_1 _)))
  show wpAny _ _ (field (.ref it) 0 >>= _) _ _ s
  refine wpAny_bind (wpAny_field ho hd (x := .ref l) rfl ?_)
  show wpAny _ _ (if (Value.ref l == Value.none) = true then _ else _) _ _ s
  rw [if_neg (show ¬ ((Value.ref l == Value.none) = true) from Bool.false_ne_true)]
  show wpAny _ _ (field (.ref it) 1 >>= _) _ _ s
  refine wpAny_bind (wpAny_field ho hd (x := .int i 0) rfl ?_)
  show wpAny _ _ (seqItems? (.ref l) >>= _) _ _ s
  refine wpAny_bind (wpAny_seqItems hol hdl ?_)
  simp only [Int.toNat_natCast, hx]
  refine wpAny_bind (wpAny_rule (wpAny_bind (wpAny_setField ho hd (by simp) ?_)))
  show wpAny _ _ (newExc (.type "StopIteration") [] >>= _) _ _ _
  refine wpAny_bind ?_
  simp only [newExc, newTuple]
  refine wpAny_bind (wpAny_newObj_type ?_ (by size_fits))
  refine wpAny_bind (m := firstArgMember _ _) (wpAny_of_eq (a := Value.none) (by first | rfl | (simp only [firstArgMember]; rfl)) ?_)
  refine wpAny_newObj_type ?_ (by size_fits)
  simp only [raiseNew]
  refine wpAny_bind (wpAny_handled ?_)
  first | rw [show A.in1.handled = none from hh] | rw [hh]
  refine wpAny_bind (wpAny_pure (wpAny_throw ?_))
  exact hE _ _ (((Heap.SameBut.update ..).extBut.push _).push _) ⟨_, Heap.get?_push_size _ rfl, rfl⟩

end
theorem w3_enumerate_newT (l : Addr) (items : Array Value) (n : Nat) (dct : Option Addr) (sl : Array (Option Value)) :
    Meets (Builtin.«enumerate.__new__» ⟨[.type "enumerate", .ref l], []⟩) (fun _ R s => s.heap.get? l = some { cls := .type "tuple", dict := dct, data := .seq items n, slots := sl } ∧
      R (.ok (.ret (.ref (s.heap.push { cls := .type "tuple_iterator", data := .fields #[.ref l, .int 0 0] }).objs.size)))
        { s with heap := (s.heap.push { cls := .type "tuple_iterator", data := .fields #[.ref l, .int 0 0] }).push { cls := .type "enumerate", data := .fields #[.none, .bool false, .ref s.heap.objs.size, rawInt 0, .none, .none] } }) :=
  .of_wp fun prog w A R s h => by
    obtain ⟨hp, g, d, tk, os⟩ := s; obtain ⟨hl, h⟩ := h
    have hsub := sub_enumerate
    have hL : Heap.IsTuple (Shared.heap ⟨hp, g, d, tk, os⟩) l items := ⟨_, hl, rfl, n, rfl⟩
    wp_walk using wpAny_loadPart' hl
    refine wpAny_stack_any fun st => wpAny_pure ?_
    split
    · rename_i c _ _ _ _ _
      cases (c == Value.type "enumerate")
      · wp_walk using wpAny_loadPart' hl, wpAny_pyIter_tuple hL
        exact ⟨_, rfl, h⟩
      · wp_walk using wpAny_loadPart' hl, wpAny_pyIter_tuple hL
        exact ⟨_, rfl, h⟩
    · wp_walk using wpAny_loadPart' hl, wpAny_pyIter_tuple hL
      exact ⟨_, rfl, h⟩


section
variable {prog : Program} {w : World} {A : Around} {E : Value → Shared → Prop} {s : Shared}
theorem w3_call_enumerate_tuple {l : Addr} {items : Array Value} {Q : Value → Shared → Prop} (hL : s.heap.IsTuple l items)
    (h : ∀ h', IsEnum h' (s.heap.objs.size + 1) s.heap.objs.size 0 .none → h'.IsTupleIter s.heap.objs.size l 0 → h'.objs.size = s.heap.objs.size + 2 →
      (∀ b o, s.heap.get? b = some o → h'.get? b = some o) → Q (.ref (s.heap.objs.size + 1)) { s with heap := h' }) :
    wpAny (model prog w) A (call (.type "enumerate") [.ref l]) Q E s := by
  obtain ⟨⟨c, dct, dt, sl⟩, hl, hc, n, hd⟩ := hL
  replace hc : c = .type "tuple" := hc
  replace hd : dt = .seq items n := hd
  subst hc hd
  refine callType_new F.called_enumerate (by decide) (F.typeCall_enumerate_1 _) (F.newCall_enumerate_1 _) (fun obj => F.args_object_init_2 obj _) F.entry_enumerate_new
    (w3_enumerate_newT l items n dct sl) ⟨hl, ?_⟩
  have hz : (s.heap.push { cls := .type "tuple_iterator", data := .fields #[.ref l, .int 0 0] }).objs.size = s.heap.objs.size + 1 := Heap.size_push ..
  show _ ∧ _
  rw [hz]
  have he : IsEnum ((s.heap.push { cls := .type "tuple_iterator", data := .fields #[.ref l, .int 0 0] }).push
      { cls := .type "enumerate", data := .fields #[.none, .bool false, .ref s.heap.objs.size, rawInt 0, .none, .none] }) (s.heap.objs.size + 1) s.heap.objs.size 0 .none := by
    have := Heap.get?_push_size (s.heap.push { cls := .type "tuple_iterator", data := .fields #[.ref l, .int 0 0] })
      (o := { cls := .type "enumerate", data := .fields #[.none, .bool false, .ref s.heap.objs.size, rawInt 0, .none, .none] }) rfl
    rw [hz] at this; exact this
  refine ⟨⟨_, he, rfl⟩, h _ he ⟨_, Heap.get?_push_of_some _ (Heap.get?_push_size _ rfl), rfl, rfl⟩ (by rw [Heap.size_push, hz]) fun b o x => Heap.get?_push_of_some _ (Heap.get?_push_of_some _ x)⟩


end
end PySem
namespace L2.W3
open PySem PySem.Spec PyProof.Rows
/-- the tuple at a as it stands, each item in a new pair -/
def IteT (K : PySem.W.Frag) (a : Addr) : It :=
  ⟨fun i H => ∃ (xs : List V) (x : V), SqT K H a xs ∧ xs[i]? = some x, fun i H v H' => ∃ T x, v = .ref T ∧ H T = none ∧ H' = upd H T (.tup [.int (i : Nat), x]) ∧ ∀ xs, SqT K H a xs → xs[i]? = some x, fun i H => ∃ xs : List V, SqT K H a xs ∧ xs.length ≤ i⟩
theorem turn_enumT {P : Program} {w : World} {K : PySem.W.Frag} {elts : List Expr} {kk : Nat} {tpos : Pos} (a e it : Addr) :
    Turn P w K (.Tuple elts kk tpos) (IteT K a) [e, it] e (fun i h => (∃ old, IsEnum h e it ((i : Nat) : Int) old) ∧ h.IsTupleIter it a i ∧ e ≠ it ∧ a ≠ it) where
  mem := by simp
  obj := fun i h st b hb => by
    obtain ⟨⟨old, he⟩, ⟨o, ho, hc, hd⟩, _⟩ := st
    have e' : b = e ∨ b = it := by simpa using hb
    rcases e' with z | z
    · rw [z]; exact ⟨_, he, fun v q => nomatch q⟩
    · rw [z]; exact ⟨o, ho, fun v q => by rw [hd] at q; cases q⟩
  keep := fun i h h' st k => let ⟨⟨old, he⟩, hi, hne⟩ := st; ⟨⟨old, k e (by simp) _ he⟩, hi.at fun o q => k it (by simp) o q, hne⟩
  item := by
    intro X hP hw hK hc i pins s σ H E I hf st hg
    subst hP hw hK
    obtain ⟨⟨old, he⟩, hit, hne, hai⟩ := st
    obtain ⟨xs, x, hq, hx⟩ := hg
    obtain ⟨its, rv, p, hz⟩ := I.tuple hq
    obtain ⟨u, hu, ru⟩ := rv.get hx
    have hel : e < s.heap.objs.size := Heap.lt_size he
    have hil : it < s.heap.objs.size := by obtain ⟨_, q, _⟩ := hit; exact Heap.lt_size q
    have hd : X.A.in1.handled = none := I.ok.hd hc
    have D : Draws X.prog X.w X.A.in1 it [it, a] its.length (fun j v => its[j]? = some v) (fun j h => h.IsTupleIter it a j ∧ h.IsTuple a its.toArray) := by
      refine ⟨fun _ _ st => ?_, fun _ _ _ st hk => ⟨st.1.at fun o q => hk it (by simp) o q, st.2.at fun o q => hk a (by simp) o q⟩, fun j s Q E hj st hQ => ?_, fun s Q E st hE => ?_⟩
      · obtain ⟨⟨o, ho, _⟩, _⟩ := st; exact ⟨o, ho⟩
      · refine w3_nextOf_tuple_item st.1 st.2 (x := its[j]) (by simp [hj]) fun h' hit' hs' => ?_
        exact hQ _ h' s.toks (by simp [hj]) ⟨hit', st.2.at fun o q => (hs'.2 a hai).trans q⟩ hs'
      · exact w3_nextOf_tuple_end hd st.1 st.2 (by simp) hE
    have hlt : i < its.length := (List.getElem?_eq_some_iff.mp hu).1
    have hea : e ≠ a := fun z => by
      obtain ⟨o, ho, hc, _⟩ := p
      rw [← z] at ho
      have := he.symm.trans ho
      cases this
      exact absurd (show Value.type "enumerate" = Value.type "tuple" from hc) (by decide)
    refine wpAny_pyNext_enum_itemD D he ⟨hit, p⟩ hlt hne (by simp [hne, hea]) fun v h' tk hv ho hit' hT hsz hk => ?_
    have hv : v = u := Option.some.inj (hv.symm.trans hu)
    subst hv
    refine ⟨_, rfl, wpAny_letOwnedTupleGo_enum (s := { s with heap := h', toks := tk + 1 }) ho fun h'' he' sb => ?_⟩
    have hT2 : h''.get? s.heap.objs.size = some { cls := .type "tuple", data := .seq #[.int i tk, v] } := (sb.2 _ (Nat.ne_of_gt hel)).trans hT
    have new : ObjOk X.prog X.w (upd H s.heap.objs.size (.tup [.int (i : Nat), x])) h'' s.heap.objs.size (.tup [.int (i : Nat), x]) :=
      ⟨by show 2 ≤ sizeLine; decide, [.int i tk, v], .cons ⟨_, rfl⟩ (.cons ru .nil), ⟨_, hT2, rfl, _, rfl⟩⟩
    have I1 : Inv X pins σ (upd H s.heap.objs.size (.tup [.int (i : Nat), x])) { s with heap := h'', toks := tk + 1 } :=
      I.turnedNew (ch := [e, it]) (fun b ob hb q => (sb.2 b (fun z => hb (by simp [z]))).trans (hk b ob (fun z => hb (by simp [z])) (fun z => hb (by simp [z])) q)) hf (Nat.le_refl _) new
    refine ⟨.ref s.heap.objs.size, _, I1, rfl, ⟨_, x, rfl, I.hok.fresh (Nat.le_refl _), rfl, fun ys hy => by rw [I.tuple_inj hy hq]; exact hx⟩, ⟨⟨v, ?_⟩, hit'.1.at fun o q => (sb.2 it (Ne.symm hne)).trans q, hne, hai⟩, fun b hb => ?_⟩
    · have e1 : ((i + 1 : Nat) : Int) = (i : Int) + 1 := by omega
      rw [e1]; exact he'
    · have hb' : b < s.heap.objs.size := by
        have e' : b = e ∨ b = it := by simpa using hb
        rcases e' with z | z
        · rw [z]; exact hel
        · rw [z]; exact hil
      rw [upd_ne (Nat.ne_of_lt hb')]
      exact (hf b hb).1
  done := by
    intro X hP hw hK hc i pins s σ H E I hf st hg
    subst hP hw hK
    obtain ⟨⟨old, he⟩, hit, hne, hai⟩ := st
    obtain ⟨xs, hq, hx⟩ := hg
    obtain ⟨its, rv, p, hz⟩ := I.tuple hq
    obtain ⟨f0, f1, f2, f3, f4, f5⟩ := hf it (by simp)
    have hl := rv.length
    have hd : X.A.in1.handled = none := I.ok.hd hc
    have D : Draws X.prog X.w X.A.in1 it [it, a] i (fun _ _ => True) (fun j h => h.IsTupleIter it a j ∧ h.IsTuple a its.toArray ∧ i ≤ j) := by
      refine ⟨fun _ _ st => ?_, fun _ _ _ st hk => ⟨st.1.at fun o q => hk it (by simp) o q, st.2.1.at fun o q => hk a (by simp) o q, st.2.2⟩, fun j s Q E hj st hQ => absurd st.2.2 (by omega), fun s Q E st hE => ?_⟩
      · obtain ⟨⟨o, ho, _⟩, _⟩ := st; exact ⟨o, ho⟩
      · exact w3_nextOf_tuple_end hd st.1 st.2.1 (by simp; omega) hE
    exact wpAny_pyNext_enum_endD D he ⟨hit, p, Nat.le_refl _⟩ fun h' eb => ⟨rfl, I.turned (t' := s.toks) (fun b o hb q => eb b o hb q) f0 f1 f3 f4 f5⟩
  self := fun A i s Q E st h => let ⟨⟨_, he⟩, _⟩ := st; wpAny_pyIter_enum he h
def iEnumB (K : PySem.W.Frag) (ta : TA) : TI := fun σ H R => ta σ H fun vs H1 => (∃ a xs, vs = [.ref a] ∧ SqL K H1 a xs ∧ R (Ite K a) H1) ∨ (∃ x, vs = [.str x] ∧ R (Itse x) H1) ∨ ∃ a xs, vs = [.ref a] ∧ SqT K H1 a xs ∧ R (IteT K a) H1
theorem pi_enumB {X : Cx} {e : Expr} {ta : TA} {p pos tpos : Pos} {elts : List Expr} {kk : Nat} (hg : Gl X "enumerate") (hm : X.mg "enumerate" = none) (ha : PA X [e] ta) (hs : starEach [e] X.env = [(false, eval e X.env)] := by rfl) :
    PI X (.Tuple elts kk tpos) (.Call (.Name "enumerate" p) [e] [] pos) (iEnumB X.K ta) := by
  refine ⟨fun pins s σ H R I h => ?_⟩
  refine Call_ (ld_blt I hg hm boot_enumerate (PyProof.Rows.callWith_type1 (thn (ha.run pos pins s σ H _ I h) fun us s1 ⟨vs, H1, I1, r1, q1⟩ => ?_) hs rfl))
  have fp : ∀ b : Addr, b ∈ [s1.heap.objs.size + 1, s1.heap.objs.size] → s1.heap.objs.size ≤ b := fun b hb => by
    have e' : b = s1.heap.objs.size + 1 ∨ b = s1.heap.objs.size := by simpa using hb
    rcases e' with z | z
    · rw [z]; exact Nat.le_add_right _ _
    · rw [z]; exact Nat.le_refl _
  rcases q1 with ⟨a, xs, ex, hq, q⟩ | ⟨x, ex, q⟩ | ⟨a, xs, ex, hq, q⟩
  · subst ex
    obtain ⟨u, rfl, r⟩ := vals1 r1
    cases r
    obtain ⟨its, rv, p', hz⟩ := I1.list hq
    refine call_enumerate_list p'.isList fun h' he hit hsz hk => wpAny_pyIter_enum he ?_
    have I2 : Inv X pins σ H1 { s1 with heap := h' } := I1.kept (t' := s1.toks) hk
    exact ⟨_, [s1.heap.objs.size + 1, s1.heap.objs.size], _, _, H1, rfl, I2, turn_enum a (s1.heap.objs.size + 1) s1.heap.objs.size, ⟨⟨.none, he⟩, hit, Nat.succ_ne_self _⟩, fun b hb => I1.fpOk (fp b hb) (I1.hok.fresh (fp b hb)), q⟩
  · subst ex
    obtain ⟨u, rfl, r⟩ := vals1 r1
    obtain ⟨t, rfl⟩ := r
    refine call_enumerate_str fun h' he hit hsz hk => wpAny_pyIter_enum he ?_
    have I2 : Inv X pins σ H1 { s1 with heap := h' } := I1.kept (t' := s1.toks) hk
    exact ⟨_, [s1.heap.objs.size + 1, s1.heap.objs.size], _, _, H1, rfl, I2, turn_enumS x t (s1.heap.objs.size + 1) s1.heap.objs.size, ⟨⟨.none, he⟩, hit, Nat.succ_ne_self _⟩, fun b hb => I1.fpOk (fp b hb) (I1.hok.fresh (fp b hb)), q⟩
  · subst ex
    obtain ⟨u, rfl, r⟩ := vals1 r1
    cases r
    obtain ⟨its, rv, p', hz⟩ := I1.tuple hq
    have hlt : a < s1.heap.objs.size := by obtain ⟨o, ho, _⟩ := p'; exact Heap.lt_size ho
    refine w3_call_enumerate_tuple (show s1.heap.IsTuple a its.toArray from p') fun h' he hit hsz hk => wpAny_pyIter_enum he ?_
    have I2 : Inv X pins σ H1 { s1 with heap := h' } := I1.kept (t' := s1.toks) hk
    exact ⟨_, [s1.heap.objs.size + 1, s1.heap.objs.size], _, _, H1, rfl, I2, turn_enumT a (s1.heap.objs.size + 1) s1.heap.objs.size, ⟨⟨.none, he⟩, hit, Nat.succ_ne_self _, Nat.ne_of_lt hlt⟩, fun b hb => I1.fpOk (fp b hb) (I1.hok.fresh (fp b hb)), q⟩
/-- the pairs of a place and a thing -/
def wEnumB (fa : WE) : WI := fun ρ Q => fa ρ fun r ρ1 => fz r ρ1 fun d ρ2 => match d with
  | .lst l => Q (enumD 0 l) ρ2
  | .tup l => Q (enumD 0 l) ρ2
  | .str s => s.length ≤ sizeLine ∧ Q (enumD 0 (s.map fun c => .str [c])) ρ2
  | _ => False
theorem itok_enumT {K : PySem.W.Frag} {B : Addr} {G : Hp} {a : Addr} {vs : List V} {l : List D} (h : SqT K G a vs) (r : RepL K B G vs l) : ItOk K B G (IteT K a) (enumD 0 l) := by
  refine ⟨fun i H g hi => ?_, fun i H g hi => ⟨vs, sqT_mono g h, by rw [r.length, ← enumD_len]; exact hi⟩, fun i H x H' g hi hy => ?_⟩
  · rw [enumD_len] at hi
    obtain ⟨v, hv, _⟩ := r.get (List.getElem?_eq_getElem hi)
    exact ⟨vs, v, sqT_mono g h, hv⟩
  · obtain ⟨T, x, rfl, hT, rfl, hx⟩ := hy
    obtain ⟨d, hd, q⟩ := r.getV (hx vs (sqT_mono g h))
    refine ⟨_, enumD_getI hd, .inr ⟨T, _, _, rfl, hT, rfl, rfl, .cons ?_ (.cons q .nil)⟩⟩
    rw [Nat.zero_add]; exact .int _
section
variable {X : Cx} {bx : Bx} {a b c e tg : Expr} {es elts : List Expr} {fa fb fc : WE} {fr : WA} {pos tpos : Pos} {x : Str} {p : Pos} {kk : Nat}
theorem i_enumB (ha : E3 X bx a fa) (hm : X.mg "enumerate" = none) (hg : Gl X "enumerate" := by rfl) (hs : starEach [a] X.env = (false, eval a X.env) :: starEach [] X.env := by rfl) (hs2 : starEach [a] X.env = [(false, eval a X.env)] := by rfl) :
    I3 X bx (.Tuple elts kk tpos) (.Call (.Name "enumerate" p) [a] [] pos) (wEnumB fa) := by
  refine ⟨PI.weaken (pi_enumB hg hm (pa_cons ha.pe pa_nil hs) hs2) fun σ H R ⟨F, ρ, G, P, st, h, hQ⟩ => ⟨F, ρ, G, _, st, h, fun r ρ1 v G1 H1 h1 g1 st1 rr1 => ?_⟩⟩
  obtain ⟨d, ρ2, G2, h2, g2, st2, rd⟩ := fz_ok st1 rr1 h1
  cases d with
  | lst l =>
    cases rd with
    | lst hg r => exact .inl ⟨_, _, rfl, .inl (.inl (st2.gs _ _ hg)), hQ _ ρ2 G2 _ _ h2 (g1.trans g2) st2 (itok_enum hg r)⟩
  | tup l =>
    cases rd with
    | tup hg r => exact .inr (.inr ⟨_, _, rfl, sqT_mono st2.gs hg, hQ _ ρ2 G2 _ _ h2 (g1.trans g2) st2 (itok_enumT hg r)⟩)
  | str s =>
    cases rd with
    | str o => exact .inr (.inl ⟨_, rfl, hQ _ ρ2 G2 _ _ h2.2 (g1.trans g2) st2 (itok_enumS o)⟩)
  | non => exact (show False from h2).elim
  | bl _ => exact (show False from h2).elim
  | int _ => exact (show False from h2).elim
  | dik _ => exact (show False from h2).elim
  | ty _ => exact (show False from h2).elim
  | box => exact (show False from h2).elim
end
/-! ### //= -/
def fdivA : DOp
  | .int i, .int j, P => CDivW i j ∧ P (.val (.int (i / j)))
  | _, _, _ => False
theorem ipA_fdiv {X : Cx} {bx : Bx} : IpD X bx .FloorDiv fdivA := by
  intro pins s σ H x y v u Q I rx ry ⟨G, d1, d2, P, g, v1, v2, h, R⟩
  unfold fdivA at h
  split at h
  · obtain rfl := view_int v1
    obtain rfl := view_int v2
    exact iop_fdivW pins s σ H _ _ v u Q I rx ry ⟨_, _, rfl, rfl, h.1, R.val _ _ h.2 (.int _)⟩
  · exact h.elim
end L2.W3

/-! Binary words, and lengths in order. -/
namespace L2.W3

/-- the word of l letters with the number n -/
def bw (n : Nat) : Nat → List Nat
  | 0 => []
  | l + 1 => (97 + n / 2 ^ l % 2) :: bw n l
theorem bw_len (n : Nat) : ∀ l, (bw n l).length = l
  | 0 => rfl
  | l + 1 => by rw [bw, List.length_cons, bw_len n l]
theorem bw_map (n : Nat) : ∀ l, bw n l = (List.range l).map fun k => 97 + n / 2 ^ (l - 1 - k) % 2
  | 0 => rfl
  | l + 1 => by
    rw [bw, bw_map n l, List.range_succ_eq_map, List.map_cons, List.map_map]
    congr 1
    refine List.map_congr_left fun k hk => ?_
    show _ = 97 + n / 2 ^ (l + 1 - 1 - (k + 1)) % 2
    rw [show l + 1 - 1 - (k + 1) = l - 1 - k by omega]
theorem bw_rev (n : Nat) : ∀ l, ((List.range l).map fun k => 97 + n / 2 ^ k % 2).reverse = bw n l
  | 0 => rfl
  | l + 1 => by
    rw [List.range_succ, List.map_append, List.reverse_append, bw_rev n l]
    rfl
theorem bw_snoc (n : Nat) : ∀ l, bw n (l + 1) = bw (n / 2) l ++ [97 + n % 2]
  | 0 => by show [97 + n / 1 % 2] = _; rw [Nat.div_one]; rfl
  | l + 1 => by
    rw [bw, bw_snoc n l, bw]
    rw [Nat.div_div_eq_div_mul, Nat.pow_succ, Nat.mul_comm (2 ^ l) 2]
    rfl
theorem bw_lt : ∀ (l n m : Nat), bw n l < bw m l ↔ n % 2 ^ l < m % 2 ^ l
  | 0, n, m => by
    show ([] : List Nat) < [] ↔ n % 1 < m % 1
    rw [Nat.mod_one, Nat.mod_one]
    constructor
    · intro h; exact absurd h (List.not_lt_nil _)
    · intro h; omega
  | l + 1, n, m => by
    rw [bw, bw, List.cons_lt_cons_iff, bw_lt l n m, Nat.mod_pow_succ, Nat.mod_pow_succ]
    have hn := Nat.mod_lt n (Nat.two_pow_pos l)
    have hm := Nat.mod_lt m (Nat.two_pow_pos l)
    generalize n % 2 ^ l = a at *
    generalize m % 2 ^ l = b at *
    have hp := Nat.mod_lt (n / 2 ^ l) (show 0 < 2 by omega)
    have hq := Nat.mod_lt (m / 2 ^ l) (show 0 < 2 by omega)
    generalize n / 2 ^ l % 2 = p at *
    generalize m / 2 ^ l % 2 = q at *
    generalize 2 ^ l = N at *
    rcases (show p = 0 ∨ p = 1 by omega) with rfl | rfl <;> rcases (show q = 0 ∨ q = 1 by omega) with rfl | rfl <;> simp only [Nat.mul_zero, Nat.mul_one] <;> constructor <;> intro h <;> first | omega | exact .inr ⟨trivial, by omega⟩
theorem bw_ne {l n m : Nat} (h : n % 2 ^ l ≠ m % 2 ^ l) : bw n l ≠ bw m l := by
  intro e
  rcases Nat.lt_or_gt_of_ne h with h | h
  · have := (bw_lt l n m).mpr h; rw [e] at this; exact absurd this (List.lt_irrefl _)
  · have := (bw_lt l m n).mpr h; rw [e] at this; exact absurd this (List.lt_irrefl _)
theorem bw_take (n : Nat) : ∀ (l b : Nat), b ≤ l → (bw n l).take b = bw (n / 2 ^ (l - b)) b
  | l, 0, _ => by rw [List.take_zero]; rfl
  | 0, b + 1, h => by omega
  | l + 1, b + 1, h => by
    rw [bw, List.take_succ_cons, bw_take n l b (by omega), bw]
    rw [show l + 1 - (b + 1) = l - b by omega, Nat.div_div_eq_div_mul, ← Nat.pow_add, show l - b + b = l by omega]
theorem bw_app (n : Nat) {l b : Nat} (h : b ≤ l) : bw n l = bw (n / 2 ^ (l - b)) b ++ (bw n l).drop b := by
  rw [← bw_take n l b h, List.take_append_drop]
theorem lt_appL : ∀ (u v x : List Nat), u.length = v.length → (u ++ x < v ↔ u < v)
  | [], [], x, _ => by
    constructor
    · intro h; exact absurd h (List.not_lt_nil _)
    · intro h; exact absurd h (List.not_lt_nil _)
  | [], b :: v, x, h => by cases h
  | a :: u, [], x, h => by cases h
  | a :: u, b :: v, x, h => by
    have h : u.length = v.length := Nat.succ.inj h
    rw [List.cons_append, List.cons_lt_cons_iff, List.cons_lt_cons_iff, lt_appL u v x h]
theorem lt_appR : ∀ (u v y : List Nat), u.length = v.length → (u < v ++ y ↔ u < v ∨ (u = v ∧ y ≠ []))
  | [], [], y, _ => by
    cases y with
    | nil =>
      constructor
      · intro h; exact absurd h (List.not_lt_nil _)
      · rintro (h | ⟨_, h⟩)
        · exact absurd h (List.not_lt_nil _)
        · exact absurd rfl h
    | cons c y => exact ⟨fun _ => .inr ⟨rfl, by simp⟩, fun _ => List.nil_lt_cons ..⟩
  | [], b :: v, x, h => by cases h
  | a :: u, [], x, h => by cases h
  | a :: u, b :: v, y, h => by
    have h0 : u.length = v.length := Nat.succ.inj h
    clear h
    rw [List.cons_append, List.cons_lt_cons_iff, List.cons_lt_cons_iff, lt_appR u v y h0, List.cons.injEq]
    constructor
    · rintro (h | ⟨e, h | ⟨e2, h⟩⟩)
      · exact .inl (.inl h)
      · exact .inl (.inr ⟨e, h⟩)
      · exact .inr ⟨⟨e, e2⟩, h⟩
    · rintro ((h | ⟨e, h⟩) | ⟨⟨e, e2⟩, h⟩)
      · exact .inl h
      · exact .inr ⟨e, .inl h⟩
      · exact .inr ⟨e, .inr ⟨e2, h⟩⟩
/-- behind a word, and all that begin with it -/
theorem bw_after {m b n l : Nat} (hm : m < 2 ^ b) (hn : n < 2 ^ l) : (bw m b < bw n l ∧ (bw n l).take b ≠ bw m b) ↔ (m + 1) * 2 ^ l ≤ n * 2 ^ b := by
  rcases Nat.le_total b l with h | h
  · have hq : n / 2 ^ (l - b) < 2 ^ b := by
      rw [Nat.div_lt_iff_lt_mul (Nat.two_pow_pos _), ← Nat.pow_add, show b + (l - b) = l by omega]; exact hn
    have e : (m + 1) * 2 ^ l ≤ n * 2 ^ b ↔ m < n / 2 ^ (l - b) := by
      rw [← Nat.succ_le_iff, Nat.le_div_iff_mul_le (Nat.two_pow_pos _)]
      have e2 : (2 : Nat) ^ l = 2 ^ (l - b) * 2 ^ b := by rw [← Nat.pow_add, show l - b + b = l by omega]
      rw [e2, ← Nat.mul_assoc]
      exact ⟨fun h => Nat.le_of_mul_le_mul_right h (Nat.two_pow_pos _), fun h => Nat.mul_le_mul_right _ h⟩
    rw [e, bw_take n l b h, bw_app n h]
    rw [lt_appR _ _ _ (by rw [bw_len, bw_len]), bw_lt, Nat.mod_eq_of_lt hm, Nat.mod_eq_of_lt hq]
    constructor
    · rintro ⟨h1 | ⟨h1, _⟩, h2⟩
      · exact h1
      · exact absurd h1.symm h2
    · intro h1
      exact ⟨.inl h1, bw_ne (by rw [Nat.mod_eq_of_lt hm, Nat.mod_eq_of_lt hq]; omega)⟩
  · rcases Nat.lt_or_eq_of_le h with h | rfl
    · have hq : m / 2 ^ (b - l) < 2 ^ l := by
        rw [Nat.div_lt_iff_lt_mul (Nat.two_pow_pos _), ← Nat.pow_add, show l + (b - l) = b by omega]; exact hm
      have e : (m + 1) * 2 ^ l ≤ n * 2 ^ b ↔ m / 2 ^ (b - l) < n := by
        rw [Nat.div_lt_iff_lt_mul (Nat.two_pow_pos _), ← Nat.succ_le_iff]
        have e2 : (2 : Nat) ^ b = 2 ^ (b - l) * 2 ^ l := by rw [← Nat.pow_add, show b - l + l = b by omega]
        rw [e2, ← Nat.mul_assoc]
        exact ⟨fun h => Nat.le_of_mul_le_mul_right h (Nat.two_pow_pos _), fun h => Nat.mul_le_mul_right _ h⟩
      rw [e, bw_app m (Nat.le_of_lt h), lt_appL _ _ _ (by rw [bw_len, bw_len]), bw_lt, Nat.mod_eq_of_lt hq, Nat.mod_eq_of_lt hn]
      refine ⟨fun h => h.1, fun h1 => ⟨h1, fun e => ?_⟩⟩
      rw [← bw_app m (Nat.le_of_lt h)] at e
      have := congrArg List.length e
      rw [List.length_take, bw_len, bw_len] at this
      omega
    · rw [List.take_of_length_le (by rw [bw_len]; omega), bw_lt, Nat.mod_eq_of_lt hm, Nat.mod_eq_of_lt hn, Nat.mul_le_mul_right_iff (Nat.two_pow_pos _)]
      refine ⟨fun h => h.1, fun h1 => ⟨h1, bw_ne (by rw [Nat.mod_eq_of_lt hm, Nat.mod_eq_of_lt hn]; omega)⟩⟩

/-- the least number of length l from x over 2 ^ b on -/
def cl (x b l : Nat) : Nat := (x * 2 ^ l + (2 ^ b - 1)) / 2 ^ b
theorem ceil_le {A D n : Nat} (hD : 0 < D) : (A + (D - 1)) / D ≤ n ↔ A ≤ n * D := by
  rw [← Nat.lt_succ_iff, Nat.div_lt_iff_lt_mul hD, Nat.succ_mul]
  omega
theorem cl_le {x b l n : Nat} : cl x b l ≤ n ↔ x * 2 ^ l ≤ n * 2 ^ b := ceil_le (Nat.two_pow_pos _)
theorem eq_of_le {a b : Nat} (h : ∀ n, a ≤ n ↔ b ≤ n) : a = b := Nat.le_antisymm ((h b).mpr (Nat.le_refl _)) ((h a).mp (Nat.le_refl _))
theorem cl_up {x b l : Nat} (h : b ≤ l) : cl x b l = x * 2 ^ (l - b) := by
  refine eq_of_le fun n => ?_
  rw [cl_le]
  have e2 : (2 : Nat) ^ l = 2 ^ (l - b) * 2 ^ b := by rw [← Nat.pow_add, show l - b + b = l by omega]
  rw [e2, ← Nat.mul_assoc]
  exact ⟨fun h => Nat.le_of_mul_le_mul_right h (Nat.two_pow_pos _), fun h => Nat.mul_le_mul_right _ h⟩
theorem cl_down {x b l : Nat} (h : l ≤ b) : cl x b l = (x + (2 ^ (b - l) - 1)) / 2 ^ (b - l) := by
  refine eq_of_le fun n => ?_
  rw [cl_le, ceil_le (Nat.two_pow_pos _)]
  have e2 : (2 : Nat) ^ b = 2 ^ (b - l) * 2 ^ l := by rw [← Nat.pow_add, show b - l + l = b by omega]
  rw [e2, ← Nat.mul_assoc]
  exact ⟨fun h => Nat.le_of_mul_le_mul_right h (Nat.two_pow_pos _), fun h => Nat.mul_le_mul_right _ h⟩
theorem cl_succ {m b l : Nat} (h : l ≤ b) : cl (m + 1) b l = m / 2 ^ (b - l) + 1 := by
  rw [cl_down h]
  have hD := Nat.two_pow_pos (b - l)
  rw [show m + 1 + (2 ^ (b - l) - 1) = m + 2 ^ (b - l) by omega, Nat.add_div_right _ hD]
/-- whether the lengths fit from x over 2 ^ b on -/
def gr : Nat → Nat → List Nat → Bool
  | _, _, [] => true
  | x, b, l :: ls => decide (cl x b l < 2 ^ l) && gr (cl x b l + 1) l ls
theorem gr_mono : ∀ (ls : List Nat) (x b y c : Nat), x * 2 ^ c ≤ y * 2 ^ b → gr y c ls = true → gr x b ls = true
  | [], _, _, _, _, _, _ => rfl
  | l :: ls, x, b, y, c, h, g => by
    rw [gr, Bool.and_eq_true, decide_eq_true_iff] at *
    have h1 : cl x b l ≤ cl y c l := by
      rw [cl_le]
      have h2 : y * 2 ^ l ≤ cl y c l * 2 ^ c := cl_le.mp (Nat.le_refl _)
      refine Nat.le_of_mul_le_mul_right (c := 2 ^ c) ?_ (Nat.two_pow_pos _)
      calc x * 2 ^ l * 2 ^ c = x * 2 ^ c * 2 ^ l := by rw [Nat.mul_right_comm]
        _ ≤ y * 2 ^ b * 2 ^ l := Nat.mul_le_mul_right _ h
        _ = y * 2 ^ l * 2 ^ b := by rw [Nat.mul_right_comm]
        _ ≤ cl y c l * 2 ^ c * 2 ^ b := Nat.mul_le_mul_right _ h2
        _ = cl y c l * 2 ^ b * 2 ^ c := by rw [Nat.mul_right_comm]
    exact ⟨by omega, gr_mono ls _ _ _ _ (Nat.mul_le_mul_right _ (by omega)) g.2⟩
/-- one word behind another one, and behind all that begin with it -/
def Af (o u : Nat × Nat) : Prop := (o.1 + 1) * 2 ^ u.2 ≤ u.1 * 2 ^ o.2
theorem Af.trans {a b c : Nat × Nat} (h : Af a b) (g : Af b c) : Af a c := by
  unfold Af at *
  refine Nat.le_of_mul_le_mul_right (c := 2 ^ b.2) ?_ (Nat.two_pow_pos _)
  calc (a.1 + 1) * 2 ^ c.2 * 2 ^ b.2 = (a.1 + 1) * 2 ^ b.2 * 2 ^ c.2 := by rw [Nat.mul_right_comm]
    _ ≤ b.1 * 2 ^ a.2 * 2 ^ c.2 := Nat.mul_le_mul_right _ h
    _ = b.1 * 2 ^ c.2 * 2 ^ a.2 := by rw [Nat.mul_right_comm]
    _ ≤ (b.1 + 1) * 2 ^ c.2 * 2 ^ a.2 := Nat.mul_le_mul_right _ (Nat.mul_le_mul_right _ (by omega))
    _ ≤ c.1 * 2 ^ b.2 * 2 ^ a.2 := Nat.mul_le_mul_right _ g
    _ = c.1 * 2 ^ a.2 * 2 ^ b.2 := by rw [Nat.mul_right_comm]
end L2.W3

namespace L2.W3.K35
open PySem PySem.Spec PyProof.Rows
def topS (i : Nat) : Stmt := PySem.Challenge.pw_tworeadings_k35_whole_lengths_in_order.main.body.getD i (.Pass ⟨0, 0, 0, 0⟩)
abbrev s_power : Stmt := topS 2
abbrev n_power : List Str := ["k", "count", "found", "_"]
theorem sc_power : FnScope n_power ["k", "count"] (defScope s_power) := ⟨rfl, rfl, rfl, by decide +kernel, rfl, by decide +kernel, by decide +kernel⟩
abbrev s_written : Stmt := topS 3
abbrev n_written : List Str := ["number", "length", "k", "letters", "_"]
theorem sc_written : FnScope n_written ["number", "length", "k"] (defScope s_written) := ⟨rfl, rfl, rfl, by decide +kernel, rfl, by decide +kernel, by decide +kernel⟩
abbrev s_ordered_code : Stmt := topS 4
abbrev n_ordered_code : List Str := ["lengths", "words", "number", "before", "i", "length", "size"]
theorem sc_ordered_code : FnScope n_ordered_code ["lengths"] (defScope s_ordered_code) := ⟨rfl, rfl, rfl, by decide +kernel, rfl, by decide +kernel, by decide +kernel⟩
abbrev s__law_mix : Stmt := topS 6
abbrev n__law_mix : List Str := ["number"]
theorem sc__law_mix : FnScope n__law_mix ["number"] (defScope s__law_mix) := ⟨rfl, rfl, rfl, by decide +kernel, rfl, by decide +kernel, by decide +kernel⟩
abbrev s__law_tape : Stmt := topS 7
abbrev n__law_tape : List Str := ["script"]
theorem sc__law_tape : FnScope n__law_tape ["script"] (defScope s__law_tape) := ⟨rfl, rfl, rfl, by decide +kernel, rfl, by decide +kernel, by decide +kernel⟩
abbrev s__law_take : Stmt := topS 8
abbrev n__law_take : List Str := ["tape", "many", "cell", "digit"]
theorem sc__law_take : FnScope n__law_take ["tape", "many"] (defScope s__law_take) := ⟨rfl, rfl, rfl, by decide +kernel, rfl, by decide +kernel, by decide +kernel⟩
abbrev s__law_same : Stmt := topS 9
abbrev n__law_same : List Str := ["a", "b", "k"]
theorem sc__law_same : FnScope n__law_same ["a", "b"] (defScope s__law_same) := ⟨rfl, rfl, rfl, by decide +kernel, rfl, by decide +kernel, by decide +kernel⟩
abbrev s__law_binary : Stmt := topS 10
abbrev n__law_binary : List Str := ["number", "length", "k"]
theorem sc__law_binary : FnScope n__law_binary ["number", "length"] (defScope s__law_binary) := ⟨rfl, rfl, rfl, by decide +kernel, rfl, by decide +kernel, by decide +kernel⟩
abbrev s__law_next : Stmt := topS 11
abbrev n__law_next : List Str := ["before", "length", "start", "k", "number", "word"]
theorem sc__law_next : FnScope n__law_next ["before", "length"] (defScope s__law_next) := ⟨rfl, rfl, rfl, by decide +kernel, rfl, by decide +kernel, by decide +kernel⟩
abbrev s__law_told : Stmt := topS 12
abbrev n__law_told : List Str := ["lengths", "words", "i", "word"]
theorem sc__law_told : FnScope n__law_told ["lengths"] (defScope s__law_told) := ⟨rfl, rfl, rfl, by decide +kernel, rfl, by decide +kernel, by decide +kernel⟩
abbrev s__law_any : Stmt := topS 13
abbrev n__law_any : List Str := ["lengths", "words", "length", "number", "word", "other"]
theorem sc__law_any : FnScope n__law_any ["lengths", "words"] (defScope s__law_any) := ⟨rfl, rfl, rfl, by decide +kernel, rfl, by decide +kernel, by decide +kernel⟩
abbrev s_law : Stmt := topS 14
abbrev n_law : List Str := ["script", "tape", "turn", "lengths", "due", "words", "at", "other", "k", "word"]
theorem sc_law : FnScope n_law ["script"] (defScope s_law) := ⟨rfl, rfl, rfl, by decide +kernel, rfl, by decide +kernel, by decide +kernel⟩
structure Tx (K : PySem.W.Frag) (mg : Str → Option Value) where
  a_power : Addr
  fd_power : FuncData
  F_power : Fun K "power" "power" s_power a_power fd_power
  g_power : mg "power" = some (.ref a_power)
  B_power : Binds K fd_power ["k", "count"] []
  a_written : Addr
  fd_written : FuncData
  F_written : Fun K "written" "written" s_written a_written fd_written
  g_written : mg "written" = some (.ref a_written)
  B_written : Binds K fd_written ["number", "length", "k"] []
  a_ordered_code : Addr
  fd_ordered_code : FuncData
  F_ordered_code : Fun K "ordered_code" "ordered_code" s_ordered_code a_ordered_code fd_ordered_code
  g_ordered_code : mg "ordered_code" = some (.ref a_ordered_code)
  B_ordered_code : Binds K fd_ordered_code ["lengths"] []
  a__law_mix : Addr
  fd__law_mix : FuncData
  F__law_mix : Fun K "_law_mix" "_law_mix" s__law_mix a__law_mix fd__law_mix
  g__law_mix : mg "_law_mix" = some (.ref a__law_mix)
  B__law_mix : Binds K fd__law_mix ["number"] []
  a__law_tape : Addr
  fd__law_tape : FuncData
  F__law_tape : Fun K "_law_tape" "_law_tape" s__law_tape a__law_tape fd__law_tape
  g__law_tape : mg "_law_tape" = some (.ref a__law_tape)
  B__law_tape : Binds K fd__law_tape ["script"] []
  a__law_take : Addr
  fd__law_take : FuncData
  F__law_take : Fun K "_law_take" "_law_take" s__law_take a__law_take fd__law_take
  g__law_take : mg "_law_take" = some (.ref a__law_take)
  B__law_take : Binds K fd__law_take ["tape", "many"] []
  a__law_same : Addr
  fd__law_same : FuncData
  F__law_same : Fun K "_law_same" "_law_same" s__law_same a__law_same fd__law_same
  g__law_same : mg "_law_same" = some (.ref a__law_same)
  B__law_same : Binds K fd__law_same ["a", "b"] []
  a__law_binary : Addr
  fd__law_binary : FuncData
  F__law_binary : Fun K "_law_binary" "_law_binary" s__law_binary a__law_binary fd__law_binary
  g__law_binary : mg "_law_binary" = some (.ref a__law_binary)
  B__law_binary : Binds K fd__law_binary ["number", "length"] []
  a__law_next : Addr
  fd__law_next : FuncData
  F__law_next : Fun K "_law_next" "_law_next" s__law_next a__law_next fd__law_next
  g__law_next : mg "_law_next" = some (.ref a__law_next)
  B__law_next : Binds K fd__law_next ["before", "length"] []
  a__law_told : Addr
  fd__law_told : FuncData
  F__law_told : Fun K "_law_told" "_law_told" s__law_told a__law_told fd__law_told
  g__law_told : mg "_law_told" = some (.ref a__law_told)
  B__law_told : Binds K fd__law_told ["lengths"] []
  a__law_any : Addr
  fd__law_any : FuncData
  F__law_any : Fun K "_law_any" "_law_any" s__law_any a__law_any fd__law_any
  g__law_any : mg "_law_any" = some (.ref a__law_any)
  B__law_any : Binds K fd__law_any ["lengths", "words"] []
  a_law : Addr
  fd_law : FuncData
  F_law : Fun K "law" "law" s_law a_law fd_law
  g_law : mg "law" = some (.ref a_law)
  B_law : Binds K fd_law ["script"] []
  z_all : mg "all" = none
  z_any : mg "any" = none
  z_bool : mg "bool" = none
  z_enumerate : mg "enumerate" = none
  z_int : mg "int" = none
  z_isinstance : mg "isinstance" = none
  z_len : mg "len" = none
  z_list : mg "list" = none
  z_max : mg "max" = none
  z_min : mg "min" = none
  z_range : mg "range" = none
  z_str : mg "str" = none
  z_tuple : mg "tuple" = none
  c_LETTERS : ∃ t, mg "LETTERS" = some (.str (Str.ofString "abcdefghijklmnopqrstuvwxyz") t)
abbrev k_LETTERS : D := .str [97, 98, 99, 100, 101, 102, 103, 104, 105, 106, 107, 108, 109, 110, 111, 112, 113, 114, 115, 116, 117, 118, 119, 120, 121, 122]
theorem Tx.e_LETTERS {K : PySem.W.Frag} {mg : Str → Option Value} (T : Tx K mg) {X : Cx} {bx : Bx} {pos : Pos} (hm : X.mg = mg := by rfl) (hg : Gl X "LETTERS" := by rfl) : E3 X bx (.Name "LETTERS" pos) (wC k_LETTERS) := by
  obtain ⟨t, e⟩ := T.c_LETTERS
  exact e_glob (v := .str ⟨([97, 98, 99, 100, 101, 102, 103, 104, 105, 106, 107, 108, 109, 110, 111, 112, 113, 114, 115, 116, 117, 118, 119, 120, 121, 122] : List Nat).toArray⟩) hg (by rw [hm]; exact e) (show ∃ t, _ = Value.str _ t from ⟨t, by rw [show Str.ofString "abcdefghijklmnopqrstuvwxyz" = ⟨([97, 98, 99, 100, 101, 102, 103, 104, 105, 106, 107, 108, 109, 110, 111, 112, 113, 114, 115, 116, 117, 118, 119, 120, 121, 122] : List Nat).toArray⟩ by decide +kernel]⟩) fun _ => .str (by decide +kernel)
abbrev C__law_take : Con := C_draw
abbrev C__law_mix : Con := C_any1
def intsD (l : List Nat) : List D := l.map fun k => .int (k : Nat)
abbrev codeS : List Nat := [99, 111, 100, 101]
abbrev stopS : List Nat := [115, 116, 111, 112]
/-- lengths in order -/
def ocD : Nat → Nat → Nat → List (List Nat) → List Nat → D
  | _, _, _, acc, [] => .tup [.str codeS, .tup (acc.map D.str)]
  | i, x, b, acc, l :: ls => if cl x b l < 2 ^ l then ocD (i + 1) (cl x b l + 1) l (acc ++ [bw (cl x b l) l]) ls else .tup [.str stopS, .int (i : Nat)]
def bfD (x b : Nat) (d : D) : Prop := (d = .non ∧ x = 0 ∧ b = 0) ∨ ∃ m, d = .str (bw m b) ∧ x = m + 1 ∧ m < 2 ^ b
def nxD (x b l : Nat) : D := if cl x b l < 2 ^ l then .str (bw (cl x b l) l) else .non
def wsD (ws : List (Nat × Nat)) : List D := ws.map fun p => .str (bw p.1 p.2)
def endX (ws : List (Nat × Nat)) : Nat := match ws.getLast? with
  | some p => p.1 + 1
  | none => 0
def endB (ws : List (Nat × Nat)) : Nat := match ws.getLast? with
  | some p => p.2
  | none => 0
def C_power : Con := fun ds P => ∃ k c : Nat, ds = [.int k, .int c] ∧ k ≤ 1000 ∧ c ≤ 60 ∧ P (.val (.int ((k ^ c : Nat) : Int)))
def C_written : Con := fun ds P => ∃ n l : Nat, ds = [.int n, .int l, .int 2] ∧ l ≤ 60 ∧ P (.val (.str (bw n l)))
def C_ordered_code : Con := fun ds P => ∃ l : List Nat, ds = [.tup (intsD l)] ∧ (∀ k ∈ l, k ≤ 60) ∧ l.length ≤ 1000 ∧ P (.val (ocD 0 0 0 [] l))
def C__law_binary : Con := fun ds P => ∃ n l : Nat, ds = [.int n, .int l] ∧ l ≤ 60 ∧ P (.val (.str (bw n l)))
def C__law_next : Con := fun ds P => ∃ (x b l : Nat) (d : D), ds = [d, .int l] ∧ l ≤ 60 ∧ b ≤ 60 ∧ bfD x b d ∧ P (.val (nxD x b l))
def C__law_told : Con := C_ordered_code
def C__law_any : Nat → Con
  | 0 => fun _ _ => False
  | m + 1 => fun ds P => ∃ (ls : List Nat) (ws : List (Nat × Nat)), ds = [.tup (intsD ls), .lst (wsD ws)] ∧ (∀ k ∈ ls, k ≤ 20) ∧ ls.length ≤ 100 ∧ ws.length ≤ ls.length ∧ ls.length - ws.length ≤ m ∧
      (∀ p ∈ ws, p.1 < 2 ^ p.2 ∧ p.2 ≤ 20) ∧ ws.Pairwise Af ∧ P (.val (.bl (gr (endX ws) (endB ws) (ls.drop ws.length))))
def b_power : WS :=
  (wSeq (wSet 2 (wC (.int 1)))
    (wSeq (wFor (wRng1 (wACons (wVar 1) wANil)) (wName 3) (wAug 2 mulA (wVar 0)))
    (wRet (wVar 2))))
def b_written : WS :=
  (wSeq (wSet 3 (wLst wANil))
    (wSeq (wFor (wRng1 (wACons (wVar 1) wANil)) (wName 4) (wSeq (wExpr (wApp 3 (wBin ixD (wC k_LETTERS) (wBin subD (wVar 0) (wBin mulD (wBin fdivD (wVar 0) (wVar 2)) (wVar 2))))))
    (wAug 0 fdivA (wVar 2))))
    (wRet (wStrM joinD (wC (.str [])) (wUn revD (wVar 3))))))
def b_ordered_code : WS :=
  (wSeq (wSet 1 (wLst wANil))
    (wSeq (wAsg (wTup (wACons (wC (.int 0)) (wACons (wC (.int 0)) wANil))) (wGTup 2 (wGCons (wName 2) (wGCons (wName 3) wGNil))))
    (wSeq (wFor (wEnumB (wVar 0)) (wGTup 2 (wGCons (wName 4) (wGCons (wName 5) wGNil))) (wSeq (wIfS (wTB (wBin geD (wVar 5) (wVar 3))) (wAug 2 mulA (wCall C_power (wACons (wC (.int 2)) (wACons (wBin subD (wVar 5) (wVar 3)) wANil)))) (wSeq (wSet 6 (wCall C_power (wACons (wC (.int 2)) (wACons (wBin subD (wVar 3) (wVar 5)) wANil))))
    (wSet 2 (wBin fdivD (wBin subD (wBin addD (wVar 2) (wVar 6)) (wC (.int 1))) (wVar 6)))))
    (wSeq (wIfS (wTB (wBin geD (wVar 2) (wCall C_power (wACons (wC (.int 2)) (wACons (wVar 5) wANil))))) (wRet (wTup (wACons (wC (.str [115, 116, 111, 112])) (wACons (wVar 4) wANil)))) wNext)
    (wSeq (wExpr (wApp 1 (wCall C_written (wACons (wVar 2) (wACons (wVar 5) (wACons (wC (.int 2)) wANil))))))
    (wPar2 2 3 (wBin addD (wVar 2) (wC (.int 1))) (wVar 5))))))
    (wRet (wTup (wACons (wC (.str [99, 111, 100, 101])) (wACons (wUn tupleD (wVar 1)) wANil)))))))
def b__law_mix : WS :=
  (wSeq (wSet 0 (wBin modD (wUn intD (wBin addD (wBin mulD (wVar 0) (wC (.int 6364136223846793005))) (wC (.int 1442695040888963407)))) (wC (.int 18446744073709551616))))
    (wRet (wBin modD (wUn intD (wBin addD (wBin fdivD (wBin mulD (wVar 0) (wVar 0)) (wC (.int 4294967296))) (wBin mulD (wVar 0) (wC (.int 69621))))) (wC (.int 18446744073709551557)))))
def b__law_binary : WS :=
  (wRet (wStrM joinD (wC (.str [])) (wLc (wRng1 (wACons (wVar 1) wANil)) (wName 2) wYes (wBin ixD (wC (.str [97, 98])) (wBin andD (wBin shrD (wVar 0) (wBin subD (wBin subD (wVar 1) (wC (.int 1))) (wVar 2))) (wC (.int 1)))) [2])))
def b__law_next : WS :=
  (wSeq (wIfS (wTB (wBin isD (wVar 0) (wC .non))) (wRet (wCall C__law_binary (wACons (wC (.int 0)) (wACons (wVar 1) wANil)))) wNext)
    (wSeq (wSet 2 (wC (.int 0)))
    (wSeq (wFor (wRng1 (wACons (wVar 1) wANil)) (wName 3) (wSet 2 (wBin addD (wBin mulD (wVar 2) (wC (.int 2))) (wIf (wTAnd (wTB (wBin ltD (wVar 3) (wUn lenD (wVar 0)))) (wTB (wBin eqD (wBin ixD (wVar 0) (wVar 3)) (wC (.str [98]))))) (wC (.int 1)) (wC (.int 0))))))
    (wSeq (wFor (wRng2 (wACons (wVar 2) (wACons (wBin min2D (wBin addD (wVar 2) (wC (.int 2))) (wBin shlD (wC (.int 1)) (wVar 1))) wANil))) (wName 4) (wSeq (wSet 5 (wCall C__law_binary (wACons (wVar 4) (wACons (wVar 1) wANil))))
    (wIfS (wTAnd (wTB (wBin gtD (wVar 5) (wVar 0))) (wTB (wBin neD (wSl (wVar 5) wONone (wOSome (wUn lenD (wVar 0)))) (wVar 0)))) (wRet (wVar 5)) wNext)))
    (wSeq (wIfS (wTB (wBin gtD (wVar 1) (wUn lenD (wVar 0)))) (wSeq (wSet 4 (wBin addD (wVar 2) (wBin shlD (wC (.int 1)) (wBin subD (wVar 1) (wUn lenD (wVar 0))))))
    (wRet (wIf (wTB (wBin ltD (wVar 4) (wBin shlD (wC (.int 1)) (wVar 1)))) (wCall C__law_binary (wACons (wVar 4) (wACons (wVar 1) wANil))) (wC .non)))) wNext)
    (wRet (wC .non)))))))
def b__law_told : WS :=
  (wSeq (wSet 1 (wLst wANil))
    (wSeq (wFor (wRng1 (wACons (wUn lenD (wVar 0)) wANil)) (wName 2) (wSeq (wSet 3 (wCall C__law_next (wACons (wIf (wTB (wBin neD (wVar 1) (wLst wANil))) (wBin ixD (wVar 1) (wUn negD (wC (.int 1)))) (wC .non)) (wACons (wBin ixD (wVar 0) (wVar 2)) wANil))))
    (wSeq (wIfS (wTB (wBin isD (wVar 3) (wC .non))) (wRet (wTup (wACons (wC (.str [115, 116, 111, 112])) (wACons (wVar 2) wANil)))) wNext)
    (wExpr (wApp 1 (wVar 3))))))
    (wRet (wTup (wACons (wC (.str [99, 111, 100, 101])) (wACons (wUn tupleD (wVar 1)) wANil))))))
def b__law_any (C : Con) : WS :=
  (wSeq (wIfS (wTB (wBin eqD (wUn lenD (wVar 1)) (wUn lenD (wVar 0)))) (wRet (wC (.bl true))) wNext)
    (wSeq (wSet 2 (wBin ixD (wVar 0) (wUn lenD (wVar 1))))
    (wSeq (wFor (wRng1 (wACons (wBin shlD (wC (.int 1)) (wVar 2)) wANil)) (wName 3) (wSeq (wSet 4 (wCall C__law_binary (wACons (wVar 3) (wACons (wVar 2) wANil))))
    (wIfS (wTAnd (wTOr (wTB (wBin eqD (wVar 1) (wLst wANil))) (wTB (wBin gtD (wVar 4) (wBin ixD (wVar 1) (wUn negD (wC (.int 1))))))) (wTAnd (wTNot (wTru (wUn anyD (wLc (wIter (wVar 1)) (wName 5) wYes (wBin eqD (wSl (wVar 4) wONone (wOSome (wUn lenD (wVar 5)))) (wVar 5)) [5])))) (wTru (wCall C (wACons (wVar 0) (wACons (wBin addD (wVar 1) (wLst (wACons (wVar 4) wANil))) wANil)))))) (wRet (wC (.bl true))) wNext)))
    (wRet (wC (.bl false))))))
def b_law : WS :=
  (wSeq (wFor (wRng1 (wACons (wC (.int 3)) wANil)) (wName 2) (wSeq (wSet 3 (wUn tupleD (wLc (wRng1 (wACons (wCall C__law_take (wACons (wVar 1) (wACons (wC (.int 6)) wANil))) wANil)) (wName 8) wYes (wBin addD (wC (.int 1)) (wCall C__law_take (wACons (wVar 1) (wACons (wC (.int 3)) wANil)))) [8])))
    (wSeq (wSet 4 (wCall C__law_told (wACons (wVar 3) wANil)))
    (wIfS (wTOr (wTNot (wTru (wCall (C_same 8) (wACons (wCall C_ordered_code (wACons (wVar 3) wANil)) (wACons (wVar 4) wANil))))) (wTB (wBin neD (wBin eqD (wBin ixD (wVar 4) (wC (.int 0))) (wC (.str [99, 111, 100, 101]))) (wCall (C__law_any 7) (wACons (wVar 3) (wACons (wLst wANil) wANil)))))) (wRet (wC (.bl false))) wNext))))
    (wSeq (wSet 5 (wLst (wACons (wC (.str [])) wANil)))
    (wSeq (wFor (wRng1 (wACons (wCall C__law_take (wACons (wVar 1) (wACons (wC (.int 23)) wANil))) wANil)) (wName 2) (wSeq (wSet 6 (wCall C__law_take (wACons (wVar 1) (wACons (wUn lenD (wVar 5)) wANil))))
    (wIfS (wTB (wBin ltD (wUn lenD (wBin ixD (wVar 5) (wVar 6))) (wC (.int 20)))) (wSet 5 (wBin addD (wBin addD (wSl (wVar 5) wONone (wOSome (wVar 6))) (wLst (wACons (wBin addD (wBin ixD (wVar 5) (wVar 6)) (wC (.str [97]))) (wACons (wBin addD (wBin ixD (wVar 5) (wVar 6)) (wC (.str [98]))) wANil)))) (wSl (wVar 5) (wOSome (wBin addD (wVar 6) (wC (.int 1)))) wONone))) wNext)))
    (wSeq (wSet 3 (wLc (wIter (wVar 5)) (wName 9) wYes (wBin max2D (wC (.int 1)) (wUn lenD (wVar 9))) [9]))
    (wSeq (wSet 6 (wCall C__law_take (wACons (wVar 1) (wACons (wUn lenD (wVar 3)) wANil))))
    (wSeq (wSet 7 (wBin addD (wBin addD (wSl (wVar 3) wONone (wOSome (wVar 6))) (wLst (wACons (wBin addD (wC (.int 1)) (wCall C__law_take (wACons (wVar 1) (wACons (wC (.int 20)) wANil)))) wANil))) (wSl (wVar 3) (wOSome (wBin addD (wVar 6) (wC (.int 1)))) wONone)))
    (wSeq (wIfS (wTAnd (wTB (wBin gtD (wUn lenD (wVar 5)) (wC (.int 1)))) (wTNot (wTru (wCall (C_same 8) (wACons (wCall C_ordered_code (wACons (wUn tupleD (wVar 3)) wANil)) (wACons (wTup (wACons (wC (.str [99, 111, 100, 101])) (wACons (wUn tupleD (wVar 5)) wANil))) wANil)))))) (wRet (wC (.bl false))) wNext)
    (wRet (wAnd (wCall (C_same 8) (wACons (wCall C_ordered_code (wACons (wUn tupleD (wVar 7)) wANil)) (wACons (wCall C__law_told (wACons (wUn tupleD (wVar 7)) wANil)) wANil))) (wCall (C_same 8) (wACons (wCall C_ordered_code (wACons (wTup wANil) wANil)) (wACons (wTup (wACons (wC (.str [99, 111, 100, 101])) (wACons (wTup wANil) wANil))) wANil))))))))))))
theorem vc__law_mix : ∀ ds Q, C__law_mix ds Q → b__law_mix { nx := fun _ => Q (.val .non), rt := Q } (start3 n__law_mix ds) := vc_mix
theorem two60 : (2 : Nat) ^ 60 = 1152921504606846976 := rfl
theorem pow60 {k : Nat} (h : k ≤ 60) : 2 ^ k ≤ 1152921504606846976 := by rw [← two60]; exact Nat.pow_le_pow_right (by omega) h
theorem vc_power : ∀ ds Q, C_power ds Q → b_power { nx := fun _ => Q (.val .non), rt := Q } (start3 n_power ds) := by
  rintro ds Q ⟨k, c, rfl, hk, hc, q⟩
  refine And.intro (by unfold SmallI; omega) ?_
  refine Exists.intro (fun i ρ => ∃ a, ρ = [.val (.int (k : Nat)), .val (.int (c : Nat)), .val (.int ((k ^ i : Nat) : Int)), a]) (And.intro ⟨_, rfl⟩ (And.intro ?_ ?_))
  · rintro i d ρ hd ⟨a, rfl⟩
    refine And.intro (by exact Nat.le_of_ble_eq_true rfl) (And.intro (.inr ⟨by omega, by omega⟩) ?_)
    have e : ((k ^ i : Nat) : Int) * (k : Int) = ((k ^ (i + 1) : Nat) : Int) := rfl
    rw [e]
    exact ⟨_, rfl⟩
  · rintro ρ ⟨a, rfl⟩
    rw [rng_len, Int.toNat_natCast]
    exact q
theorem chars_ok (f : Nat → Nat) (xs : List Nat) : (xs.map fun k => D.str [f k]).all isStr = true ∧ ((xs.map fun k => D.str [f k]).map fun d => (strOf d).length).sum = xs.length ∧ ((xs.map fun k => D.str [f k]).map strOf).flatten = xs.map f := by
  induction xs with
  | nil => exact ⟨rfl, rfl, rfl⟩
  | cons x r ih =>
    obtain ⟨h1, h2, h3⟩ := ih
    refine ⟨by rw [List.map_cons, List.all_cons, h1]; rfl, by rw [List.map_cons, List.map_cons, List.sum_cons, h2, List.length_cons]; show 1 + r.length = r.length + 1; omega, ?_⟩
    rw [List.map_cons, List.map_cons, List.flatten_cons, h3]
    rfl
theorem vc_written : ∀ ds Q, C_written ds Q → b_written { nx := fun _ => Q (.val .non), rt := Q } (start3 n_written ds) := by
  rintro ds Q ⟨n, l, rfl, hl, q⟩
  refine And.intro (by exact Nat.le_of_ble_eq_true rfl) ?_
  refine And.intro (by unfold SmallI; omega) ?_
  refine Exists.intro (fun i ρ => i ≤ l ∧ ∃ a, ρ = [.val (.int ((n / 2 ^ i : Nat) : Int)), .val (.int (l : Nat)), .val (.int 2), .own (.lst ((List.range i).map fun j => .str [97 + n / 2 ^ j % 2])), a]) (And.intro ⟨Nat.zero_le _, _, by rw [Nat.pow_zero, Nat.div_one]; rfl⟩ (And.intro ?_ ?_))
  · rintro i d ρ hd ⟨hi, a, rfl⟩
    obtain ⟨hi2, rfl⟩ := rng_get hd
    have hi3 : i < l := by omega
    refine And.intro (by exact Nat.le_of_ble_eq_true rfl) (And.intro ⟨by decide, by decide⟩ (And.intro (.inl (.inr ⟨by decide, by decide⟩)) (And.intro (by exact Nat.le_of_ble_eq_true rfl) (Exists.intro (97 + n / 2 ^ i % 2) (And.intro ?_ (And.intro ?_ (And.intro ⟨by decide, by decide⟩ ?_)))))))
    · have e : ((n / 2 ^ i : Nat) : Int) - ((n / 2 ^ i : Nat) : Int) / 2 * 2 = ((n / 2 ^ i % 2 : Nat) : Int) := by omega
      rw [e]
      exact abc_get _ (by omega)
    · rw [List.length_map, List.length_range, sL]; omega
    · have e : ((n / 2 ^ i : Nat) : Int) / 2 = ((n / 2 ^ (i + 1) : Nat) : Int) := by rw [Nat.pow_succ, ← Nat.div_div_eq_div_mul]; rfl
      rw [e]
      refine ⟨by omega, .val (.int ((0 : Int) + (i : Int))), ?_⟩
      rw [List.range_succ, List.map_append, List.map_cons, List.map_nil]
      rfl
  · rintro ρ ⟨_, a, rfl⟩
    rw [rng_len, Int.toNat_natCast]
    show _ ∧ _ ∧ Q _
    rw [← List.map_reverse]
    obtain ⟨h1, h2, h3⟩ := chars_ok (fun j => 97 + n / 2 ^ j % 2) (List.range l).reverse
    refine And.intro h1 (And.intro (by rw [h2, List.length_map, List.length_reverse, List.length_range]; show l + l * 0 ≤ _; omega) ?_)
    rw [joinS_nil, h3, List.map_reverse, bw_rev]
    exact q
theorem shr_and (n k : Nat) : ((n : Int) / 2 ^ k) % 2 = ((n / 2 ^ k % 2 : Nat) : Int) := by
  rw [Int.natCast_emod, Int.natCast_ediv, Int.natCast_pow]; rfl
theorem ab_get : ∀ j : Nat, j < 2 → atI [97, 98] (j : Int) = some (97 + j) := by decide
theorem vc__law_binary : ∀ ds Q, C__law_binary ds Q → b__law_binary { nx := fun _ => Q (.val .non), rt := Q } (start3 n__law_binary ds) := by
  rintro ds Q ⟨n, l, rfl, hl, q⟩
  refine And.intro (by unfold SmallI; omega) ?_
  refine lc0Y (fun k => .str [97 + n / 2 ^ (l - 1 - k) % 2]) (by rw [sL]; show (l : Int).toNat ≤ _; omega) (fun k hk C hC => ?_) ?_
  · have hk : k < (l : Int).toNat := hk
    have e : ((l : Int) - 1 - (k : Int)).toNat = l - 1 - k := by omega
    have e0 : (0 : Int) ≤ (l : Int) - 1 - (k : Int) := by omega
    have e1 : (0 : Int) ≤ (n : Int) / 2 ^ ((l : Int) - 1 - (k : Int)).toNat := by
      rw [e]
      have := Int.natCast_nonneg (n / 2 ^ (l - 1 - k))
      rw [Int.natCast_ediv, Int.natCast_pow] at this
      exact this
    refine And.intro e0 (And.intro e1 (And.intro rfl (And.intro (by exact Nat.le_of_ble_eq_true rfl) (Exists.intro _ (And.intro ?_ hC)))))
    rw [e, shr_and]
    exact ab_get _ (Nat.mod_lt _ (by omega))
  · have el : (l : Int).toNat = l := Int.toNat_natCast l
    rw [el]
    obtain ⟨h1, h2, h3⟩ := chars_ok (fun k => 97 + n / 2 ^ (l - 1 - k) % 2) (List.range l)
    refine And.intro h1 (And.intro (by rw [h2, List.length_map, List.length_range]; show l + l * 0 ≤ _; omega) ?_)
    show Q (.val (.str (joinS [] _)))
    rw [joinS_nil, h3, ← bw_map]
    exact q
theorem ocD_cons (i x b : Nat) (acc : List (List Nat)) (l : Nat) (ls : List Nat) : ocD i x b acc (l :: ls) = if cl x b l < 2 ^ l then ocD (i + 1) (cl x b l + 1) l (acc ++ [bw (cl x b l) l]) ls else .tup [.str stopS, .int (i : Nat)] := rfl
theorem drop_get {α : Type} {l : List α} {i : Nat} (h : i < l.length) : l.drop i = l[i] :: l.drop (i + 1) := List.drop_eq_getElem_cons h
theorem ints_get {l : List Nat} {i : Nat} {d : D} (h : (intsD l)[i]? = some d) : ∃ hi : i < l.length, d = .int (l[i] : Nat) := by
  unfold intsD at h
  rw [List.getElem?_map] at h
  by_cases hi : i < l.length
  · rw [List.getElem?_eq_getElem hi] at h
    exact ⟨hi, (Option.some.inj h).symm⟩
  · rw [List.getElem?_eq_none (by omega)] at h; cases h
theorem cpow2 {k : Nat} (h : k ≤ 60) : CPow 1 (k : Int) := ⟨by omega, by omega, by decide⟩
theorem pow_int (k : Nat) : ((2 ^ k : Nat) : Int) = (2 : Int) ^ k := Int.natCast_pow 2 k
theorem oc_tail (P : Ends3) (s0 s4 s6 : Sl) (c b l : Nat) (acc : List (List Nat)) (i : Nat) (hl : l ≤ 60) (ha : acc.length ≤ 1000)
    (h1 : ¬ c < 2 ^ l → P.rt (.val (.tup [.str stopS, .int (i : Nat)]))) (h2 : c < 2 ^ l → P.nx [s0, .own (.lst ((acc ++ [bw c l]).map D.str)), .val (.int ((c + 1 : Nat) : Int)), .val (.int (l : Nat)), .val (.int (i : Nat)), .val (.int (l : Nat)), s6]) :
    (wSeq (wIfS (wTB (wBin geD (wVar 2) (wCall C_power (wACons (wC (.int 2)) (wACons (wVar 5) wANil))))) (wRet (wTup (wACons (wC (.str [115, 116, 111, 112])) (wACons (wVar 4) wANil)))) wNext)
    (wSeq (wExpr (wApp 1 (wCall C_written (wACons (wVar 2) (wACons (wVar 5) (wACons (wC (.int 2)) wANil))))))
    (wPar2 2 3 (wBin addD (wVar 2) (wC (.int 1))) (wVar 5)))) P [s0, .own (.lst (acc.map D.str)), .val (.int (c : Nat)), .val (.int (b : Nat)), .val (.int (i : Nat)), .val (.int (l : Nat)), s6] := by
  refine Exists.intro 2 (Exists.intro l (And.intro rfl (And.intro (by omega) (And.intro hl (ite_w (fun h => ?_) fun h => ?_)))))
  · refine And.intro (by exact Nat.le_of_ble_eq_true rfl) (h1 ?_)
    have h : ((2 ^ l : Nat) : Int) ≤ (c : Int) := of_decide_eq_true h
    have := Int.ofNat_le.mp h
    omega
  · have h : ¬ ((2 ^ l : Nat) : Int) ≤ (c : Int) := of_decide_eq_false h
    have h : ¬ 2 ^ l ≤ c := fun g => h (Int.ofNat_le.mpr g)
    refine Exists.intro c (Exists.intro l (And.intro rfl (And.intro hl ?_)))
    refine And.intro (by rw [List.length_map, sL]; omega) ?_
    have h2 := h2 (by omega)
    rw [List.map_append, List.map_cons, List.map_nil] at h2
    exact h2
theorem vc_ordered_code : ∀ ds Q, C_ordered_code ds Q → b_ordered_code { nx := fun _ => Q (.val .non), rt := Q } (start3 n_ordered_code ds) := by
  rintro ds Q ⟨ls, rfl, hls, hln, q⟩
  refine And.intro (by exact Nat.le_of_ble_eq_true rfl) ?_
  refine And.intro (by exact Nat.le_of_ble_eq_true rfl) ?_
  refine And.intro rfl (And.intro (by exact Nat.le_of_ble_eq_true rfl) (And.intro (by exact Nat.le_of_ble_eq_true rfl) (And.intro rfl ?_)))
  refine Exists.intro (fun i ρ => ∃ x b acc a4 a5 a6, ρ = [Sl.val (.tup (intsD ls)), .own (.lst (List.map D.str acc)), .val (.int (x : Nat)), .val (.int (b : Nat)), a4, a5, a6] ∧ b ≤ 60 ∧ acc.length ≤ i ∧ ocD i x b acc (ls.drop i) = ocD 0 0 0 [] ls) (And.intro ⟨0, 0, [], _, _, _, rfl, by omega, Nat.le_refl _, rfl⟩ (And.intro ?_ ?_))
  · rintro i d ρ hd ⟨x, b, acc, a4, a5, a6, rfl, hb, hac, ho⟩
    obtain ⟨y, hy, rfl⟩ := enumD_get hd
    obtain ⟨hi, rfl⟩ := ints_get hy
    have hl := hls _ (List.getElem_mem hi)
    rw [drop_get hi, ocD_cons] at ho
    have ei : 0 + i = i := by omega
    rw [ei]
    generalize ls[i] = l at *
    refine And.intro rfl (And.intro (by exact Nat.le_of_ble_eq_true rfl) (And.intro (by exact Nat.le_of_ble_eq_true rfl) (And.intro rfl ?_)))
    have tail : ∀ s6 : Sl, ∃ x2 b2 acc2 a4 a5 a6, ([.val (.tup (intsD ls)), .own (.lst ((acc ++ [bw (cl x b l) l]).map D.str)), .val (.int ((cl x b l + 1 : Nat) : Int)), .val (.int (l : Nat)), .val (.int (i : Nat)), .val (.int (l : Nat)), s6] : Env3) = [Sl.val (.tup (intsD ls)), .own (.lst (List.map D.str acc2)), .val (.int (x2 : Nat)), .val (.int (b2 : Nat)), a4, a5, a6] ∧ b2 ≤ 60 ∧ acc2.length ≤ i + 1 ∧ (cl x b l < 2 ^ l → ocD (i + 1) x2 b2 acc2 (ls.drop (i + 1)) = ocD 0 0 0 [] ls) := by
      intro s6
      refine ⟨_, _, _, _, _, _, rfl, hl, by rw [List.length_append]; show _ + 1 ≤ _; omega, fun h => ?_⟩
      rw [if_pos h] at ho
      exact ho
    refine ite_w (fun h => ?_) fun h => ?_
    · have h : (b : Int) ≤ (l : Int) := of_decide_eq_true h
      have h : b ≤ l := by omega
      have e : (l : Int) - (b : Int) = ((l - b : Nat) : Int) := by omega
      refine Exists.intro 2 (Exists.intro (l - b) (And.intro (by rw [e]; rfl) (And.intro (by omega) (And.intro (by omega) (And.intro ?_ ?_)))))
      · have := pow60 (k := l - b) (by omega)
        generalize 2 ^ (l - b) = N at this ⊢
        exact .inr ⟨by omega, by omega⟩
      · have e2 : (x : Int) * ((2 ^ (l - b) : Nat) : Int) = ((cl x b l : Nat) : Int) := by rw [cl_up h]; rfl
        rw [e2]
        refine oc_tail _ _ (.int 0 |> .val) _ (cl x b l) b l acc i hl (by omega) (fun g => ?_) fun g => ?_
        · rw [if_neg g] at ho
          show Q _
          rw [ho]
          exact q
        · obtain ⟨x2, b2, acc2, a4, a5, a6, t1, t2, t3, t4⟩ := tail a6
          exact ⟨x2, b2, acc2, a4, a5, a6, t1, t2, t3, t4 g⟩
    · have h : ¬ (b : Int) ≤ (l : Int) := of_decide_eq_false h
      have h : l ≤ b := by omega
      have e : (b : Int) - (l : Int) = ((b - l : Nat) : Int) := by omega
      refine Exists.intro 2 (Exists.intro (b - l) (And.intro (by rw [e]; rfl) (And.intro (by omega) (And.intro (by omega) ?_))))
      have h1 := Nat.two_pow_pos (b - l)
      have h2 := pow60 (k := b - l) (by omega)
      refine And.intro ?_ ?_
      · refine ⟨by generalize 2 ^ (b - l) = N at h1 ⊢; omega, ?_⟩
        rw [Int.natAbs_natCast, Nat.log2_two_pow]
        omega
      · have e2 : ((x : Int) + ((2 ^ (b - l) : Nat) : Int) - 1) / ((2 ^ (b - l) : Nat) : Int) = ((cl x b l : Nat) : Int) := by
          rw [cl_down h]
          generalize 2 ^ (b - l) = N at h1 h2 ⊢
          rw [Int.natCast_ediv]
          congr 1
          omega
        rw [e2]
        refine oc_tail _ _ (.int 0 |> .val) _ (cl x b l) b l acc i hl (by omega) (fun g => ?_) fun g => ?_
        · rw [if_neg g] at ho
          show Q _
          rw [ho]
          exact q
        · obtain ⟨x2, b2, acc2, a4, a5, a6, t1, t2, t3, t4⟩ := tail (.val (.int ((2 ^ (b - l) : Nat) : Int)))
          exact ⟨x2, b2, acc2, a4, a5, a6, t1, t2, t3, t4 g⟩
  · rintro ρ ⟨x, b, acc, a4, a5, a6, rfl, hb, hac, ho⟩
    have e : (enumD 0 (intsD ls)).length = ls.length := by rw [enumD_len]; unfold intsD; rw [List.length_map]
    rw [e, List.drop_length] at ho
    refine And.intro (by exact Nat.le_of_ble_eq_true rfl) ?_
    show Q (.val (ocD ls.length x b acc []))
    rw [ho]
    exact q
/-- what the first k letters of a word say, with noughts behind it -/
def sv (m b k : Nat) : Nat := if k ≤ b then m / 2 ^ (b - k) else m * 2 ^ (k - b)
theorem sv_in {m b k : Nat} (h : k < b) : sv m b (k + 1) = sv m b k * 2 + m / 2 ^ (b - 1 - k) % 2 := by
  unfold sv
  rw [if_pos (by omega), if_pos (by omega), show b - (k + 1) = b - 1 - k by omega, show b - k = b - 1 - k + 1 by omega, Nat.pow_succ, ← Nat.div_div_eq_div_mul]
  omega
theorem sv_out {m b k : Nat} (h : b ≤ k) : sv m b (k + 1) = sv m b k * 2 + 0 := by
  unfold sv
  rw [if_neg (by omega), show k + 1 - b = k - b + 1 by omega, Nat.pow_succ]
  by_cases hk : k ≤ b
  · rw [if_pos hk, show b - k = 0 by omega, show k - b = 0 by omega]
    simp
  · rw [if_neg hk]
    rw [Nat.mul_assoc]; rfl
theorem sv_cl {m b l : Nat} : sv m b l ≤ cl (m + 1) b l := by
  unfold sv
  split
  · rename_i h; rw [cl_succ h]; omega
  · rename_i h; rw [cl_up (by omega)]; exact Nat.mul_le_mul_right _ (by omega)
theorem bw_get {m b k : Nat} (h : k < b) : atI (bw m b) (k : Int) = some (97 + m / 2 ^ (b - 1 - k) % 2) := by
  refine atI_nat ?_
  rw [bw_map, List.getElem?_map, List.getElem?_range h]
  rfl
theorem chr_b (j : Nat) (h : j < 2) : eqv (.str [97 + j]) (.str [98]) = decide (j = 1) := by
  rw [eqv_str]
  rcases (show j = 0 ∨ j = 1 by omega) with rfl | rfl <;> rfl
theorem sv_lt {m b l : Nat} (hm : m < 2 ^ b) : sv m b l < 2 ^ l := by
  unfold sv
  split
  · rename_i h
    rw [Nat.div_lt_iff_lt_mul (Nat.two_pow_pos _), ← Nat.pow_add, show l + (b - l) = b by omega]; exact hm
  · rename_i h
    have e : (2 : Nat) ^ l = 2 ^ b * 2 ^ (l - b) := by rw [← Nat.pow_add, show b + (l - b) = l by omega]
    rw [e]
    exact Nat.mul_lt_mul_of_pos_right hm (Nat.two_pow_pos _)
theorem shl_nat (l : Nat) : (1 : Int) * 2 ^ ((l : Int).toNat) = ((2 ^ l : Nat) : Int) := by rw [Int.toNat_natCast, Int.one_mul, pow_int]
theorem vc__law_next : ∀ ds Q, C__law_next ds Q → b__law_next { nx := fun _ => Q (.val .non), rt := Q } (start3 n__law_next ds) := by
  rintro ds Q ⟨x, b, l, d, rfl, hl, hb, hd, q⟩
  rcases hd with ⟨rfl, rfl, rfl⟩ | ⟨m, rfl, rfl, hm⟩
  · refine Exists.intro 0 (Exists.intro l (And.intro rfl (And.intro hl ?_)))
    unfold nxD at q
    have e : cl 0 0 l = 0 := by rw [cl_up (by omega), Nat.zero_mul]
    rw [e, if_pos (Nat.two_pow_pos _)] at q
    exact q
  · have lb : (bw m b).length ≤ sizeLine := by rw [bw_len, sL]; omega
    have hp := pow60 hl
    have hp0 := Nat.two_pow_pos l
    refine And.intro (by unfold SmallI; omega) ?_
    refine Exists.intro (fun i ρ => i ≤ l ∧ ∃ a, ρ = [Sl.val (.str (bw m b)), .val (.int (l : Nat)), .val (.int ((sv m b i : Nat) : Int)), a, .un, .un]) (And.intro ⟨Nat.zero_le _, .un, ?_⟩ (And.intro ?_ ?_))
    · have e : sv m b 0 = 0 := by unfold sv; rw [if_pos (by omega)]; exact Nat.div_eq_of_lt hm
      rw [e]; rfl
    · rintro i d ρ hd ⟨hi, a, rfl⟩
      obtain ⟨hi2, rfl⟩ := rng_get hd
      have hi3 : i < l := by omega
      have e0 : (0 : Int) + (i : Int) = (i : Int) := by omega
      rw [e0]
      refine And.intro (by exact Nat.le_of_ble_eq_true rfl) (And.intro (.inl (.inr ⟨by decide, by decide⟩)) (And.intro lb (ite_w (fun h => ?_) fun h => ?_)))
      · have h : (i : Int) < ((bw m b).length : Int) := of_decide_eq_true h
        rw [bw_len] at h
        have h : i < b := by omega
        refine And.intro lb (Exists.intro _ (And.intro (bw_get h) (And.intro trivial (And.intro trivial ?_))))
        have hm2 := Nat.mod_lt (m / 2 ^ (b - 1 - i)) (show 0 < 2 by omega)
        have hs := sv_in (m := m) h
        generalize m / 2 ^ (b - 1 - i) % 2 = z at *
        refine ite_w (fun h => ?_) fun h => ?_
        · rw [chr_b _ hm2] at h
          have h := of_decide_eq_true h
          refine ⟨by omega, .val (.int (i : Int)), ?_⟩
          rw [hs, h]; rfl
        · rw [chr_b _ hm2] at h
          have h := of_decide_eq_false h
          refine ⟨by omega, .val (.int (i : Int)), ?_⟩
          rw [hs, show z = 0 by omega]; rfl
      · have h : ¬ (i : Int) < ((bw m b).length : Int) := of_decide_eq_false h
        rw [bw_len] at h
        refine ite_w (fun h => by cases h) fun _ => ?_
        refine ⟨by omega, .val (.int (i : Int)), ?_⟩
        rw [sv_out (by omega)]; rfl
    · rintro ρ ⟨_, a, rfl⟩
      rw [rng_len, Int.toNat_natCast]
      have hS := sv_lt (l := l) hm
      have hC := sv_cl (m := m) (b := b) (l := l)
      have hcl : ∀ n, n < 2 ^ l → ((bw m b < bw n l ∧ (bw n l).take b ≠ bw m b) ↔ cl (m + 1) b l ≤ n) := fun n hn => (bw_after hm hn).trans cl_le.symm
      have hup : b ≤ l → cl (m + 1) b l = sv m b l + 2 ^ (l - b) := fun h => by
        rw [cl_up h, Nat.succ_mul]
        unfold sv
        by_cases h2 : l ≤ b
        · rw [if_pos h2, show l - b = 0 by omega, show b - l = 0 by omega]; simp
        · rw [if_neg h2]
      have hdn : l ≤ b → cl (m + 1) b l = sv m b l + 1 := fun h => by
        rw [cl_succ h]; unfold sv; rw [if_pos h]
      unfold nxD at q
      generalize sv m b l = S at *
      generalize cl (m + 1) b l = C at *
      refine And.intro (cpow2 hl) ?_
      rw [shl_nat]
      obtain ⟨T, hT, hT2⟩ : ∃ T : Nat, min ((S : Int) + 2) ((2 ^ l : Nat) : Int) = (T : Int) ∧ T = min (S + 2) (2 ^ l) := ⟨_, by generalize 2 ^ l = N; omega, rfl⟩
      have hTs : SmallI (min ((S : Int) + 2) ((2 ^ l : Nat) : Int)) := by rw [hT]; unfold SmallI; omega
      refine And.intro (by unfold SmallI; omega) (And.intro hTs ?_)
      refine Exists.intro (fun i ρ => S + i ≤ C ∧ ∃ a3 a4 a5, ρ = [Sl.val (.str (bw m b)), .val (.int (l : Nat)), .val (.int (S : Nat)), a3, a4, a5]) (And.intro ⟨by omega, a, .un, .un, rfl⟩ (And.intro ?_ ?_))
      · rintro i d ρ hd ⟨hi, a3, a4, a5, rfl⟩
        obtain ⟨hi2, rfl⟩ := rng_get hd
        rw [hT] at hi2
        have hn : S + i < 2 ^ l := by omega
        have hcl := hcl _ hn
        rw [← Int.natCast_add]
        refine And.intro (by exact Nat.le_of_ble_eq_true rfl) (Exists.intro (S + i) (Exists.intro l (And.intro rfl (And.intro hl ?_))))
        have lw : (bw (S + i) l).length ≤ sizeLine := by rw [bw_len, sL]; omega
        have next : ¬ C ≤ S + i → S + (i + 1) ≤ C := by omega
        refine ite_w (fun h => ?_) fun h => ?_
        · have h : bw m b < bw (S + i) l := of_decide_eq_true h
          refine And.intro lb (And.intro lw (And.intro trivial (And.intro trivial ?_)))
          rw [cut_to, bw_len, eqv_str]
          refine ite_w (fun g => ?_) fun g => ?_
          · rw [Bool.not_eq_true', decide_eq_false_iff_not] at g
            have hc := hcl.mp ⟨h, g⟩
            have e : C = S + i := by omega
            rw [e, if_pos hn] at q
            exact q
          · rw [Bool.not_eq_false', decide_eq_true_iff] at g
            exact ⟨next fun hc => (hcl.mpr hc).2 g, _, _, _, rfl⟩
        · have h : ¬ bw m b < bw (S + i) l := of_decide_eq_false h
          refine ite_w (fun h => by cases h) fun _ => ?_
          exact ⟨next fun hc => h (hcl.mpr hc).1, _, _, _, rfl⟩
      · rintro ρ ⟨hi, a3, a4, a5, rfl⟩
        rw [rng_len, hT] at hi
        refine And.intro lb ?_
        rw [bw_len]
        refine ite_w (fun h => ?_) fun h => ?_
        · have h : (b : Int) < (l : Int) := of_decide_eq_true h
          have h : b < l := by omega
          have hup := hup (by omega)
          have e : (l : Int) - (b : Int) = ((l - b : Nat) : Int) := by omega
          refine And.intro lb ?_
          rw [bw_len]
          refine And.intro (by rw [e]; exact cpow2 (by omega)) ?_
          rw [e, shl_nat]
          refine And.intro (cpow2 hl) ?_
          rw [shl_nat, ← Int.natCast_add, ← hup]
          refine ite_w (fun g => ?_) fun g => ?_
          · have g : ((C : Nat) : Int) < ((2 ^ l : Nat) : Int) := of_decide_eq_true g
            have g := Int.ofNat_lt.mp g
            rw [if_pos g] at q
            exact Exists.intro C (Exists.intro l (And.intro rfl (And.intro hl q)))
          · have g : ¬ ((C : Nat) : Int) < ((2 ^ l : Nat) : Int) := of_decide_eq_false g
            have g : ¬ C < 2 ^ l := fun g2 => g (Int.ofNat_lt.mpr g2)
            rw [if_neg g] at q
            exact q
        · have h : ¬ (b : Int) < (l : Int) := of_decide_eq_false h
          have hdn := hdn (by omega)
          rw [if_neg (by omega)] at q
          exact q
theorem eqv_lnil (acc : List (List Nat)) : eqv (.lst (acc.map D.str)) (.lst []) = acc.isEmpty := by
  cases acc <;> rfl
def Lk (x b : Nat) (acc : List (List Nat)) : Prop := (acc = [] ∧ x = 0 ∧ b = 0) ∨ ∃ acc' m, acc = acc' ++ [bw m b] ∧ x = m + 1 ∧ m < 2 ^ b
theorem flat_lst (acc : List (List Nat)) : Flat 50 (.lst (acc.map D.str)) := fun x hx => by
  obtain ⟨w, _, rfl⟩ := List.mem_map.mp hx
  trivial
theorem ints_at {ls : List Nat} {i : Nat} (hi : i < ls.length) : atI (intsD ls) (i : Int) = some (.int (ls[i] : Nat)) := by
  refine atI_nat ?_
  unfold intsD
  rw [List.getElem?_map, List.getElem?_eq_getElem hi]
  rfl
theorem vc__law_told : ∀ ds Q, C__law_told ds Q → b__law_told { nx := fun _ => Q (.val .non), rt := Q } (start3 n__law_told ds) := by
  rintro ds Q ⟨ls, rfl, hls, hln, q⟩
  have el : (intsD ls).length = ls.length := by unfold intsD; rw [List.length_map]
  refine And.intro (by exact Nat.le_of_ble_eq_true rfl) ?_
  refine And.intro (by unfold SmallI; rw [el]; omega) ?_
  rw [el]
  refine Exists.intro (fun i ρ => ∃ x b acc a2 a3, ρ = [Sl.val (.tup (intsD ls)), .own (.lst (List.map D.str acc)), a2, a3] ∧ b ≤ 60 ∧ acc.length ≤ i ∧ Lk x b acc ∧ ocD i x b acc (ls.drop i) = ocD 0 0 0 [] ls) (And.intro ⟨0, 0, [], _, _, rfl, by omega, Nat.le_refl _, .inl ⟨rfl, rfl, rfl⟩, rfl⟩ (And.intro ?_ ?_))
  · rintro i d ρ hd ⟨x, b, acc, a2, a3, rfl, hb, hac, hk, ho⟩
    obtain ⟨hi2, rfl⟩ := rng_get hd
    have hi : i < ls.length := by omega
    have hl := hls _ (List.getElem_mem hi)
    have hat := ints_at hi
    rw [drop_get hi, ocD_cons] at ho
    generalize ls[i] = l at *
    have e0 : (0 : Int) + (i : Int) = (i : Int) := by omega
    rw [e0]
    refine And.intro (by exact Nat.le_of_ble_eq_true rfl) (And.intro (by exact Nat.le_of_ble_eq_true rfl) (And.intro (flat_lst acc) (And.intro (fun x hx => by cases hx) ?_)))
    rw [eqv_lnil]
    have fin : ∀ (d : D), bfD x b d → C__law_next [d, .int (l : Nat)] (fun r => r = .val (nxD x b l)) := fun d h => ⟨x, b, l, d, rfl, hl, hb, h, rfl⟩
    have key : (cl x b l < 2 ^ l → ∃ x2 b2 acc2 a2 a3, ([.val (.tup (intsD ls)), .own (.lst (List.map D.str acc ++ [.str (bw (cl x b l) l)])), .val (.int (i : Nat)), .val (.str (bw (cl x b l) l))] : Env3) = [Sl.val (.tup (intsD ls)), .own (.lst (List.map D.str acc2)), a2, a3] ∧ b2 ≤ 60 ∧ acc2.length ≤ i + 1 ∧ Lk x2 b2 acc2 ∧ ocD (i + 1) x2 b2 acc2 (ls.drop (i + 1)) = ocD 0 0 0 [] ls) := by
      intro h
      refine ⟨cl x b l + 1, l, acc ++ [bw (cl x b l) l], .val (.int (i : Nat)), .val (.str (bw (cl x b l) l)), by rw [List.map_append]; rfl, hl, by rw [List.length_append]; show _ + 1 ≤ _; omega, .inr ⟨acc, _, rfl, rfl, h⟩, ?_⟩
      rw [if_pos h] at ho
      exact ho
    have stop : ¬ cl x b l < 2 ^ l → Q (.val (.tup [.str stopS, .int (i : Nat)])) := by
      intro h
      rw [if_neg h] at ho
      rw [ho]; exact q
    have hal : (List.map D.str acc).length < sizeLine := by rw [List.length_map, sL]; omega
    rcases hk with ⟨rfl, rfl, rfl⟩ | ⟨acc', m, rfl, rfl, hm⟩
    · refine Exists.intro _ (And.intro hat (Exists.intro 0 (Exists.intro 0 (Exists.intro l (Exists.intro .non (And.intro rfl (And.intro hl (And.intro hb (And.intro (.inl ⟨rfl, rfl, rfl⟩) ?_)))))))))
      unfold nxD
      by_cases h : cl 0 0 l < 2 ^ l
      · rw [if_pos h]
        exact And.intro hal (key h)
      · rw [if_neg h]
        exact And.intro (by exact Nat.le_of_ble_eq_true rfl) (stop h)
    · refine ite_w (fun _ => ?_) fun h => ?_
      · refine Exists.intro (.str (bw m b)) (And.intro ?_ (Exists.intro _ (And.intro hat (Exists.intro (m + 1) (Exists.intro b (Exists.intro l (Exists.intro (.str (bw m b)) (And.intro rfl (And.intro hl (And.intro hb (And.intro (.inr ⟨m, rfl, rfl, hm⟩) ?_)))))))))))
        · rw [List.map_append]; exact atI_last _ _
        unfold nxD
        by_cases h : cl (m + 1) b l < 2 ^ l
        · rw [if_pos h]
          exact And.intro hal (key h)
        · rw [if_neg h]
          exact And.intro (by exact Nat.le_of_ble_eq_true rfl) (stop h)
      · cases acc' <;> cases h
  · rintro ρ ⟨x, b, acc, a2, a3, rfl, hb, hac, hk, ho⟩
    rw [rng_len, Int.toNat_natCast, List.drop_length] at ho
    refine And.intro (by exact Nat.le_of_ble_eq_true rfl) ?_
    show Q (.val (ocD ls.length x b acc []))
    rw [ho]
    exact q
theorem bls_any (f : Nat × Nat → Bool) (l : List (Nat × Nat)) : ((l.map fun k => D.bl (f k)).any blOf) = l.any f := by
  rw [List.any_map]; rfl
theorem wsD_len (ws : List (Nat × Nat)) : (wsD ws).length = ws.length := by unfold wsD; rw [List.length_map]
theorem flat_wsD (ws : List (Nat × Nat)) : Flat 50 (.lst (wsD ws)) := fun x hx => by
  obtain ⟨w, _, rfl⟩ := List.mem_map.mp hx
  trivial
theorem eqv_wsnil (ws : List (Nat × Nat)) : eqv (.lst (wsD ws)) (.lst []) = ws.isEmpty := by
  cases ws <;> rfl
/-- whether a word begins with one of those before it -/
def pfx (ws : List (Nat × Nat)) (n l : Nat) : Bool := ws.any fun p => decide ((bw n l).take p.2 = bw p.1 p.2)
theorem any_test (C : Con) (Qt : Bool → Env3 → Prop) (s0 : D) (s2 s3 : Sl) (ws : List (Nat × Nat)) (n l : Nat) (hl : l ≤ 60) (hw : ws.length ≤ 1000) (hb : ∀ p ∈ ws, p.2 ≤ 60)
    (h1 : pfx ws n l = true → Qt false [.val s0, .val (.lst (wsD ws)), s2, s3, .val (.str (bw n l)), .un])
    (h2 : pfx ws n l = false → C [s0, .lst (wsD ws ++ [.str (bw n l)])] fun r => ∃ b, r = .val (.bl b) ∧ Qt b [.val s0, .val (.lst (wsD ws)), s2, s3, .val (.str (bw n l)), .un]) (hC : ∀ ds P P', (∀ r, P r → P' r) → C ds P → C ds P') :
    (wTAnd (wTNot (wTru (wUn anyD (wLc (wIter (wVar 1)) (wName 5) wYes (wBin eqD (wSl (wVar 4) wONone (wOSome (wUn lenD (wVar 5)))) (wVar 5)) [5])))) (wTru (wCall C (wACons (wVar 0) (wACons (wBin addD (wVar 1) (wLst (wACons (wVar 4) wANil))) wANil))))) [.val s0, .val (.lst (wsD ws)), s2, s3, .val (.str (bw n l)), .un] Qt := by
  refine lcNY (fun p : Nat × Nat => D.str (bw p.1 p.2)) (fun p => .bl (decide ((bw n l).take p.2 = bw p.1 p.2))) (by exact Nat.le_of_ble_eq_true rfl) (by rw [sL]; omega) (fun p hp K hK => ?_) ?_
  · have := hb p hp
    refine And.intro (by rw [bw_len, sL]; omega) (And.intro (by rw [bw_len, sL]; omega) (And.intro trivial (And.intro trivial ?_)))
    rw [cut_to, eqv_str, bw_len]
    exact hK
  · refine And.intro (bls_map _ _) ?_
    rw [bls_any]
    show if (!pfx ws n l) = true then _ else _
    refine ite_w (fun h => ?_) fun h => ?_
    · rw [Bool.not_eq_true'] at h
      refine And.intro (by exact Nat.le_of_ble_eq_true rfl) (And.intro (by rw [wsD_len]; show ws.length + 1 ≤ _; rw [sL]; omega) ?_)
      refine hC _ _ _ ?_ (h2 h)
      rintro r ⟨b, rfl, hq⟩
      exact hq
    · rw [Bool.not_eq_false'] at h
      exact h1 h
theorem any_mono : ∀ (m : Nat) (ds : List D) (P P' : R → Prop), (∀ r, P r → P' r) → C__law_any m ds P → C__law_any m ds P'
  | 0, _, _, _, _, h => h
  | m + 1, _, _, _, w, ⟨ls, ws, h1, h2, h3, h4, h5, h6, h7, h8⟩ => ⟨ls, ws, h1, h2, h3, h4, h5, h6, h7, w _ h8⟩
theorem end_app (ws : List (Nat × Nat)) (p : Nat × Nat) : endX (ws ++ [p]) = p.1 + 1 ∧ endB (ws ++ [p]) = p.2 := by
  unfold endX endB
  rw [List.getLast?_concat]
  exact ⟨rfl, rfl⟩
/-- the next word stands behind all before it just from the least number on -/
theorem any_cond {ws : List (Nat × Nat)} {n l : Nat} (hws : ∀ p ∈ ws, p.1 < 2 ^ p.2 ∧ p.2 ≤ 20) (hpw : ws.Pairwise Af) (hn : n < 2 ^ l) :
    (ws = [] ∧ pfx ws n l = false ∧ cl (endX ws) (endB ws) l ≤ n) ∨ ∃ ws' p, ws = ws' ++ [p] ∧ ((bw p.1 p.2 < bw n l ∧ pfx ws n l = false) ↔ cl (endX ws) (endB ws) l ≤ n) ∧ (cl (endX ws) (endB ws) l ≤ n → ∀ o ∈ ws, Af o (n, l)) := by
  rcases List.eq_nil_or_concat ws with rfl | ⟨ws', p, e⟩
  · refine .inl ⟨rfl, rfl, ?_⟩
    show cl 0 0 l ≤ n
    rw [cl_up (by omega), Nat.zero_mul]
    omega
  · rw [List.concat_eq_append] at e
    subst e
    refine .inr ⟨ws', p, rfl, ?_⟩
    rw [(end_app ws' p).1, (end_app ws' p).2]
    have hp := hws p (by simp)
    have key : cl (p.1 + 1) p.2 l ≤ n ↔ Af p (n, l) := cl_le
    rw [List.pairwise_append] at hpw
    have all : cl (p.1 + 1) p.2 l ≤ n → ∀ o ∈ ws' ++ [p], Af o (n, l) := by
      intro h o ho
      have h := key.mp h
      rcases List.mem_append.mp ho with ho | ho
      · exact (hpw.2.2 o ho p (by simp)).trans h
      · rw [List.mem_singleton] at ho; rw [ho]; exact h
    refine ⟨?_, all⟩
    constructor
    · rintro ⟨h1, h2⟩
      refine key.mpr ((bw_after hp.1 hn).mp ⟨h1, fun e => ?_⟩)
      unfold pfx at h2
      rw [List.any_eq_false] at h2
      exact h2 p (by simp) (decide_eq_true e)
    · intro h
      refine ⟨((bw_after hp.1 hn).mpr (key.mp h)).1, ?_⟩
      unfold pfx
      rw [List.any_eq_false]
      intro o ho
      have := ((bw_after (hws o ho).1 hn).mpr (all h o ho)).2
      rw [decide_eq_true_iff]
      exact this
theorem vc__law_any : ∀ (m : Nat) (ds : List D) (Q : R → Prop), C__law_any (m + 1) ds Q → b__law_any (C__law_any m) { nx := fun _ => Q (.val .non), rt := Q } (start3 n__law_any ds) := by
  rintro m ds Q ⟨ls, ws, rfl, hls, hll, hwl, hm, hws, hpw, q⟩
  have el : (intsD ls).length = ls.length := by unfold intsD; rw [List.length_map]
  refine And.intro trivial (And.intro trivial ?_)
  rw [wsD_len, el, eqv_int]
  refine ite_w (fun h => ?_) fun h => ?_
  · have h : ((ws.length : Nat) : Int) = ((ls.length : Nat) : Int) := of_decide_eq_true h
    have h : ws.length = ls.length := by omega
    rw [h, List.drop_length] at q
    exact q
  · have h : ¬ ((ws.length : Nat) : Int) = ((ls.length : Nat) : Int) := of_decide_eq_false h
    have hi : ws.length < ls.length := by omega
    have hl := hls _ (List.getElem_mem hi)
    have hat := ints_at hi
    rw [drop_get hi] at q
    generalize hlv : ls[ws.length] = l at *
    generalize hrest : ls.drop (ws.length + 1) = rest at *
    have hp := pow60 (k := l) (by omega)
    refine Exists.intro (.int (l : Nat)) (And.intro (by rw [wsD_len]; exact hat) ?_)
    refine And.intro (cpow2 (by omega)) ?_
    rw [shl_nat]
    refine And.intro (by unfold SmallI; generalize 2 ^ l = N at hp ⊢; omega) ?_
    rw [Int.toNat_natCast]
    refine Exists.intro (fun i ρ => (∀ j, j < i → ¬ (cl (endX ws) (endB ws) l ≤ j ∧ gr (j + 1) l rest = true)) ∧ ∃ a3 a4, ρ = [Sl.val (.tup (intsD ls)), .val (.lst (wsD ws)), .val (.int (l : Nat)), a3, a4, .un]) (And.intro ⟨fun j hj => by omega, .un, .un, rfl⟩ (And.intro ?_ ?_))
    · rintro n d ρ hd ⟨hinv, a3, a4, rfl⟩
      obtain ⟨hn, rfl⟩ := rng_get hd
      have e0 : (0 : Int) + (n : Int) = (n : Int) := by omega
      rw [e0]
      refine And.intro (by exact Nat.le_of_ble_eq_true rfl) (Exists.intro n (Exists.intro l (And.intro rfl (And.intro (by omega) ?_))))
      refine And.intro (by exact Nat.le_of_ble_eq_true rfl) (And.intro (flat_wsD ws) (And.intro (fun x hx => by cases hx) ?_))
      rw [eqv_wsnil]
      have rest_ok : ∀ (hcl : cl (endX ws) (endB ws) l ≤ n) (hb : gr (n + 1) l rest = true), Q (.val (.bl true)) := by
        intro hcl hb
        have : gr (endX ws) (endB ws) (l :: rest) = true := by
          rw [gr, Bool.and_eq_true, decide_eq_true_iff]
          exact ⟨by omega, gr_mono rest _ _ _ _ (Nat.mul_le_mul_right _ (by omega)) hb⟩
        rw [this] at q
        exact q
      have next_ok : ¬ (cl (endX ws) (endB ws) l ≤ n ∧ gr (n + 1) l rest = true) → ∃ a3 a4, (∀ j, j < n + 1 → ¬ (cl (endX ws) (endB ws) l ≤ j ∧ gr (j + 1) l rest = true)) ∧ ([.val (.tup (intsD ls)), .val (.lst (wsD ws)), .val (.int (l : Nat)), .val (.int (n : Nat)), .val (.str (bw n l)), .un] : Env3) = [Sl.val (.tup (intsD ls)), .val (.lst (wsD ws)), .val (.int (l : Nat)), a3, a4, .un] := by
        intro h
        refine ⟨_, _, fun j hj => ?_, rfl⟩
        rcases (show j < n ∨ j = n by omega) with h2 | rfl
        · exact hinv j h2
        · exact h
      have call_ok : cl (endX ws) (endB ws) l ≤ n → (∀ o ∈ ws, Af o (n, l)) → C__law_any m [.tup (intsD ls), .lst (wsD ws ++ [.str (bw n l)])] fun r => r = .val (.bl (gr (n + 1) l rest)) := by
        intro hcl haf
        obtain ⟨m', rfl⟩ : ∃ m', m = m' + 1 := ⟨m - 1, by omega⟩
        refine ⟨ls, ws ++ [(n, l)], ?_, hls, hll, ?_, ?_, ?_, ?_, ?_⟩
        · unfold wsD; rw [List.map_append]; rfl
        · rw [List.length_append]; show _ + 1 ≤ _; omega
        · rw [List.length_append]; show _ - (_ + 1) ≤ _; omega
        · intro p hp
          rcases List.mem_append.mp hp with hp | hp
          · exact hws p hp
          · rw [List.mem_singleton] at hp; rw [hp]; exact ⟨hn, hl⟩
        · rw [List.pairwise_append]
          refine ⟨hpw, List.pairwise_singleton _ _, fun a ha b hb => ?_⟩
          rw [List.mem_singleton] at hb; rw [hb]; exact haf a ha
        · rw [(end_app ws (n, l)).1, (end_app ws (n, l)).2, List.length_append]
          show R.val (.bl (gr (n + 1) l (ls.drop (ws.length + 1)))) = _
          rw [hrest]
      have hbn : ∀ p ∈ ws, p.2 ≤ 60 := fun p hp => by have := (hws p hp).2; omega
      rcases any_cond hws hpw hn with ⟨rfl, h2, h3⟩ | ⟨ws', p, e, hiff, haf⟩
      · refine any_test _ _ _ _ _ [] n l (by omega) (by show 0 ≤ _; omega) hbn (fun h => by rw [h2] at h; cases h) (fun _ => ?_) (any_mono m)
        refine any_mono m _ _ _ ?_ (call_ok h3 fun o ho => by cases ho)
        rintro r rfl
        refine ⟨_, rfl, ?_⟩
        refine ite_w (fun h => rest_ok h3 h) fun h => ?_
        obtain ⟨a3, a4, x, y⟩ := next_ok (fun g => by rw [h] at g; cases g.2)
        exact ⟨x, _, _, y⟩
      · subst e
        refine ite_w (fun h => by cases ws' <;> cases h) fun _ => ?_
        refine Exists.intro (.str (bw p.1 p.2)) (And.intro ?_ ?_)
        · unfold wsD; rw [List.map_append]; exact atI_last _ _
        have fail : ¬ (bw p.1 p.2 < bw n l ∧ pfx (ws' ++ [p]) n l = false) → ∃ a3 a4, (∀ j, j < n + 1 → ¬ (cl (endX (ws' ++ [p])) (endB (ws' ++ [p])) l ≤ j ∧ gr (j + 1) l rest = true)) ∧ ([.val (.tup (intsD ls)), .val (.lst (wsD (ws' ++ [p]))), .val (.int (l : Nat)), .val (.int (n : Nat)), .val (.str (bw n l)), .un] : Env3) = [Sl.val (.tup (intsD ls)), .val (.lst (wsD (ws' ++ [p]))), .val (.int (l : Nat)), a3, a4, .un] := fun h => next_ok fun g => h (hiff.mpr g.1)
        refine ite_w (fun h => ?_) fun h => ?_
        · have h : bw p.1 p.2 < bw n l := of_decide_eq_true h
          refine any_test _ _ _ _ _ (ws' ++ [p]) n l (by omega) (by omega) hbn (fun h2 => ?_) (fun h2 => ?_) (any_mono m)
          · obtain ⟨a3, a4, x, y⟩ := fail (fun g => by rw [h2] at g; cases g.2)
            exact ⟨x, _, _, y⟩
          · have hc := hiff.mp ⟨h, h2⟩
            refine any_mono m _ _ _ ?_ (call_ok hc (haf hc))
            rintro r rfl
            refine ⟨_, rfl, ?_⟩
            refine ite_w (fun h => rest_ok hc h) fun h => ?_
            obtain ⟨a3, a4, x, y⟩ := next_ok (fun g => by rw [h] at g; cases g.2)
            exact ⟨x, _, _, y⟩
        · have h : ¬ bw p.1 p.2 < bw n l := of_decide_eq_false h
          obtain ⟨a3, a4, x, y⟩ := fail (fun g => h g.1)
          exact ⟨x, _, _, y⟩
    · rintro ρ ⟨hinv, a3, a4, rfl⟩
      rw [rng_len] at hinv
      have : gr (endX ws) (endB ws) (l :: rest) = false := by
        cases hg : gr (endX ws) (endB ws) (l :: rest) with
        | false => rfl
        | true =>
          rw [gr, Bool.and_eq_true, decide_eq_true_iff] at hg
          exact (hinv _ hg.1 ⟨Nat.le_refl _, hg.2⟩).elim
      rw [this] at q
      exact q
theorem ocD_shape : ∀ (ls : List Nat) (i x b : Nat) (acc : List (List Nat)), ∃ d, ocD i x b acc ls = .tup [.str (if gr x b ls = true then codeS else stopS), d]
  | [], _, _, _, _ => ⟨_, rfl⟩
  | l :: ls, i, x, b, acc => by
    rw [ocD_cons, gr]
    by_cases h : cl x b l < 2 ^ l
    · rw [if_pos h, decide_eq_true h, Bool.true_and]
      exact ocD_shape ls ..
    · rw [if_neg h, decide_eq_false h, Bool.false_and]
      exact ⟨_, rfl⟩
theorem flatS_oc : ∀ (ls : List Nat) (i x b : Nat) (acc : List (List Nat)), acc.length + ls.length ≤ sizeLine → FlatS 7 (ocD i x b acc ls)
  | [], _, _, _, acc, h => ⟨(by exact Nat.le_of_ble_eq_true rfl), fun x hx => by
      simp only [List.mem_cons, List.not_mem_nil, or_false] at hx
      rcases hx with rfl | rfl
      · trivial
      · refine ⟨by rw [List.length_map]; exact h, fun y hy => ?_⟩
        obtain ⟨w, _, rfl⟩ := List.mem_map.mp hy
        trivial⟩
  | l :: ls, i, x, b, acc, h => by
    rw [ocD_cons]
    rw [List.length_cons] at h
    by_cases hc : cl x b l < 2 ^ l
    · rw [if_pos hc]
      exact flatS_oc ls _ _ _ _ (by rw [List.length_append]; show acc.length + 1 + _ ≤ _; omega)
    · rw [if_neg hc]
      refine ⟨(by exact Nat.le_of_ble_eq_true rfl), fun x hx => ?_⟩
      simp only [List.mem_cons, List.not_mem_nil, or_false] at hx
      rcases hx with rfl | rfl <;> trivial
theorem ints_of {m : Nat} : ∀ (l : List D), (∀ d ∈ l, ∃ k : Nat, k ≤ m ∧ d = .int (k : Nat)) → ∃ ls : List Nat, l = intsD ls ∧ ls.length = l.length ∧ ∀ k ∈ ls, k ≤ m
  | [], _ => ⟨[], rfl, rfl, fun k hk => by cases hk⟩
  | d :: l, h => by
    obtain ⟨k, hk, rfl⟩ := h d List.mem_cons_self
    obtain ⟨ls, rfl, e, g⟩ := ints_of l fun x hx => h x (List.mem_cons_of_mem _ hx)
    refine ⟨k :: ls, rfl, by rw [List.length_cons, List.length_cons, e], fun j hj => ?_⟩
    rcases List.mem_cons.mp hj with rfl | hj
    · exact hk
    · exact g j hj
/-- words side by side -/
def Tl : Nat → Nat → List (Nat × Nat) → Prop
  | _, _, [] => True
  | x, b, p :: ws => x * 2 ^ p.2 = p.1 * 2 ^ b ∧ p.1 < 2 ^ p.2 ∧ Tl (p.1 + 1) p.2 ws
theorem Tl_eq {x b y c : Nat} (h : x * 2 ^ c = y * 2 ^ b) : ∀ ws, Tl x b ws → Tl y c ws
  | [], _ => trivial
  | p :: ws, ⟨h1, h2, h3⟩ => by
    refine ⟨?_, h2, h3⟩
    refine Nat.eq_of_mul_eq_mul_right (Nat.two_pow_pos b) ?_
    calc y * 2 ^ p.2 * 2 ^ b = y * 2 ^ b * 2 ^ p.2 := by rw [Nat.mul_right_comm]
      _ = x * 2 ^ c * 2 ^ p.2 := by rw [h]
      _ = x * 2 ^ p.2 * 2 ^ c := by rw [Nat.mul_right_comm]
      _ = p.1 * 2 ^ b * 2 ^ c := by rw [h1]
      _ = p.1 * 2 ^ c * 2 ^ b := by rw [Nat.mul_right_comm]
theorem Tl_split {n l : Nat} {B : List (Nat × Nat)} : ∀ (A : List (Nat × Nat)) (x b : Nat), Tl x b (A ++ (n, l) :: B) → Tl x b (A ++ (2 * n, l + 1) :: (2 * n + 1, l + 1) :: B)
  | [], x, b, ⟨h1, h2, h3⟩ => by
    have h1 : x * 2 ^ l = n * 2 ^ b := h1
    have h2 : n < 2 ^ l := h2
    refine ⟨?_, ?_, rfl, ?_, ?_⟩
    · show x * 2 ^ (l + 1) = 2 * n * 2 ^ b
      rw [Nat.pow_succ, ← Nat.mul_assoc, h1, Nat.mul_comm 2 n, Nat.mul_right_comm]
    · show 2 * n < 2 ^ (l + 1)
      rw [Nat.pow_succ]; omega
    · show 2 * n + 1 < 2 ^ (l + 1)
      rw [Nat.pow_succ]; omega
    · refine Tl_eq ?_ B h3
      show (n + 1) * 2 ^ (l + 1) = (2 * n + 1 + 1) * 2 ^ l
      rw [Nat.pow_succ, show 2 * n + 1 + 1 = (n + 1) * 2 by omega, Nat.mul_assoc, Nat.mul_comm 2]
  | p :: A, x, b, ⟨h1, h2, h3⟩ => ⟨h1, h2, Tl_split A _ _ h3⟩
theorem Tl_oc : ∀ (ws : List (Nat × Nat)) (i x b : Nat) (acc : List (List Nat)), Tl x b ws → ocD i x b acc (ws.map (·.2)) = .tup [.str codeS, .tup (acc.map D.str ++ wsD ws)]
  | [], i, x, b, acc, _ => by
    show D.tup [.str codeS, .tup (acc.map D.str)] = .tup [.str codeS, .tup (acc.map D.str ++ [])]
    rw [List.append_nil]
  | p :: ws, i, x, b, acc, ⟨h1, h2, h3⟩ => by
    have e : cl x b p.2 = p.1 := eq_of_le fun n => by
      rw [cl_le, h1]
      exact ⟨fun h => Nat.le_of_mul_le_mul_right h (Nat.two_pow_pos _), fun h => Nat.mul_le_mul_right _ h⟩
    rw [List.map_cons, ocD_cons, e, if_pos h2, Tl_oc ws _ _ _ _ h3, List.map_append, List.append_assoc]
    rfl
theorem bw_a (n l : Nat) : bw n l ++ [97] = bw (2 * n) (l + 1) := by
  rw [bw_snoc, show 2 * n / 2 = n by omega, show 2 * n % 2 = 0 by omega]
theorem bw_b (n l : Nat) : bw n l ++ [98] = bw (2 * n + 1) (l + 1) := by
  rw [bw_snoc, show (2 * n + 1) / 2 = n by omega, show (2 * n + 1) % 2 = 1 by omega]
theorem split_at {α : Type} {l : List α} {z : Nat} (h : z < l.length) : l = l.take z ++ l[z] :: l.drop (z + 1) := by
  rw [← List.drop_eq_getElem_cons h, List.take_append_drop]
theorem oc_ok (ls : List Nat) (h : ls.length ≤ 1000) : FlatS 7 (ocD 0 0 0 [] ls) := flatS_oc ls 0 0 0 [] (by show 0 + _ ≤ _; rw [sL]; omega)
theorem vc_law : b_law { nx := fun _ => False, rt := fun r => r = .val (.bl true) } ((start3 n_law [.non]).set 0 .un |>.set 1 (.val .box)) := by
  refine And.intro ⟨by decide, by decide⟩ ?_
  refine Exists.intro (fun _ ρ => ∃ a2 a3 a4, ρ = [Sl.un, .val .box, a2, a3, a4, .un, .un, .un, .un, .un]) (And.intro ⟨.un, .un, .un, rfl⟩ (And.intro ?_ ?_))
  · rintro i d ρ hd ⟨a2, a3, a4, rfl⟩
    refine And.intro (by exact Nat.le_of_ble_eq_true rfl) ?_
    refine Exists.intro _ (And.intro rfl (And.intro (by decide) (And.intro (by decide) fun z z0 z1 => ?_)))
    refine And.intro (by unfold SmallI; omega) ?_
    refine lc0A (fun d => ∃ k : Nat, k ≤ 3 ∧ d = .int (k : Nat)) (by rw [sL]; show z.toNat ≤ _; omega) (fun x hx C hC => ?_) fun l hln hA => ?_
    · refine Exists.intro _ (And.intro rfl (And.intro (by decide) (And.intro (by decide) fun y y0 y1 => ?_)))
      obtain ⟨y, rfl⟩ := Int.eq_ofNat_of_zero_le y0
      have e : (1 : Int) + (y : Int) = ((y + 1 : Nat) : Int) := by omega
      exact hC (.int ((1 : Int) + (y : Int))) ⟨y + 1, by omega, by rw [e]⟩
    · have hln : l.length = z.toNat := hln
      obtain ⟨ls, rfl, e2, h3⟩ := ints_of (m := 3) l hA
      have hls : ls.length ≤ 5 := by omega
      have c60 : ∀ k ∈ ls, k ≤ 60 := fun k hk => by have := h3 k hk; omega
      have f := oc_ok ls (by omega)
      obtain ⟨d2, sh⟩ := ocD_shape ls 0 0 0 []
      refine Exists.intro ls (And.intro rfl (And.intro c60 (And.intro (by omega) ?_)))
      refine Exists.intro ls (And.intro rfl (And.intro c60 (And.intro (by omega) ?_)))
      refine Exists.intro _ (Exists.intro _ (And.intro rfl (And.intro f (And.intro f.flat ?_))))
      rw [sameD_refl f.flat, sh]
      refine Exists.intro _ (And.intro rfl (And.intro trivial (And.intro trivial ?_)))
      refine And.intro (by exact Nat.le_of_ble_eq_true rfl) ?_
      refine Exists.intro ls (Exists.intro [] (And.intro rfl (And.intro (fun k hk => by have := h3 k hk; omega) (And.intro (by omega) (And.intro (Nat.zero_le _) (And.intro (by show _ - 0 ≤ 6; omega) (And.intro (fun p hp => by cases hp) (And.intro List.Pairwise.nil ?_))))))))
      refine And.intro trivial (And.intro trivial ?_)
      have e : eqv (.str (if gr 0 0 ls = true then codeS else stopS)) (.str [99, 111, 100, 101]) = gr 0 0 ls := by
        rw [eqv_str]
        cases gr 0 0 ls <;> rfl
      rw [e]
      have e3 : eqv (.bl (gr 0 0 ls)) (.bl (gr (endX []) (endB []) (ls.drop ([] : List (Nat × Nat)).length))) = true := by
        rw [eqv_bl]; exact decide_eq_true rfl
      rw [e3]
      exact ⟨_, _, _, rfl⟩
  · rintro ρ ⟨a2, a3, a4, rfl⟩
    refine And.intro (by exact Nat.le_of_ble_eq_true rfl) ?_
    refine Exists.intro _ (And.intro rfl (And.intro (by decide) (And.intro (by decide) fun z z0 z1 => ?_)))
    refine And.intro (by unfold SmallI; omega) ?_
    refine Exists.intro (fun i ρ => ∃ (ws : List (Nat × Nat)) (a2 a6 : Sl), ρ = [Sl.un, .val .box, a2, a3, a4, .own (.lst (wsD ws)), a6, .un, .un, .un] ∧ Tl 0 0 ws ∧ ws.length ≤ i + 1 ∧ (∀ p ∈ ws, p.2 ≤ 20) ∧ (ws = [(0, 0)] ∨ ∀ p ∈ ws, 1 ≤ p.2) ∧ ws ≠ []) (And.intro ⟨[(0, 0)], a2, .un, rfl, ⟨rfl, by decide, trivial⟩, Nat.le_refl _, fun p hp => by rw [List.mem_singleton] at hp; rw [hp]; exact Nat.zero_le _, .inl rfl, by simp⟩ (And.intro ?_ ?_))
    · rintro i d ρ hd ⟨ws, a2, a6, rfl, ht, hwl, hw20, hw1, hne⟩
      obtain ⟨hi, rfl⟩ := rng_get hd
      have hpos := List.length_pos_iff.mpr hne
      refine And.intro (by exact Nat.le_of_ble_eq_true rfl) ?_
      refine Exists.intro _ (And.intro rfl (And.intro (by rw [wsD_len]; omega) (And.intro (by rw [wsD_len]; omega) fun y y0 y1 => ?_)))
      rw [wsD_len] at y1
      obtain ⟨y, rfl⟩ := Int.eq_ofNat_of_zero_le y0
      have hy : y < ws.length := by omega
      have hm := List.getElem_mem hy
      have hsp := split_at hy
      have hat : atI (wsD ws) (y : Int) = some (.str (bw ws[y].1 ws[y].2)) := by
        refine atI_nat ?_
        unfold wsD
        rw [List.getElem?_map, List.getElem?_eq_getElem hy]; rfl
      have h20 := hw20 _ hm
      generalize hp : ws[y] = p at *
      have hb : (bw p.1 p.2).length ≤ sizeLine := by rw [bw_len, sL]; omega
      refine Exists.intro _ (And.intro hat (And.intro hb ?_))
      rw [bw_len]
      refine ite_w (fun h => ?_) fun h => ?_
      · have h : ((p.2 : Nat) : Int) < 20 := of_decide_eq_true h
        refine Exists.intro _ (And.intro hat (And.intro (by rw [bw_len, sL]; show p.2 + 1 ≤ _; omega) ?_))
        refine Exists.intro _ (And.intro hat (And.intro (by rw [bw_len, sL]; show p.2 + 1 ≤ _; omega) ?_))
        have e1 : (y : Int) + 1 = ((y + 1 : Nat) : Int) := rfl
        refine And.intro (by exact Nat.le_of_ble_eq_true rfl) ?_
        refine And.intro ?_ (And.intro ?_ ?_)
        · rw [cut_to, List.length_take, wsD_len]; show _ + 2 ≤ _; rw [sL]; omega
        · rw [e1, cut_to, cut_from, List.length_append, List.length_take, List.length_drop, wsD_len]; show _ + 2 + _ ≤ _; rw [sL]; omega
        · rw [e1, cut_to, cut_from, bw_a, bw_b]
          have ew : (wsD ws).take y ++ [.str (bw (2 * p.1) (p.2 + 1)), .str (bw (2 * p.1 + 1) (p.2 + 1))] ++ (wsD ws).drop (y + 1) = wsD (ws.take y ++ (2 * p.1, p.2 + 1) :: (2 * p.1 + 1, p.2 + 1) :: ws.drop (y + 1)) := by
            unfold wsD
            rw [List.map_append, List.map_cons, List.map_cons, List.map_take, List.map_drop, List.append_assoc]
            rfl
          rw [ew]
          refine ⟨_, .val (.int ((0 : Int) + (i : Int))), .val (.int (y : Int)), rfl, Tl_split _ _ _ (by rw [← hsp]; exact ht), ?_, ?_, .inr ?_, by simp⟩
          · rw [List.length_append, List.length_cons, List.length_cons, List.length_take, List.length_drop]; omega
          · intro o ho
            rcases List.mem_append.mp ho with ho | ho
            · exact hw20 o (List.mem_of_mem_take ho)
            · rcases List.mem_cons.mp ho with rfl | ho
              · show p.2 + 1 ≤ 20; omega
              · rcases List.mem_cons.mp ho with rfl | ho
                · show p.2 + 1 ≤ 20; omega
                · exact hw20 o (List.mem_of_mem_drop ho)
          · intro o ho
            have old : o ∈ ws.take y ∨ o ∈ ws.drop (y + 1) → 1 ≤ o.2 := by
              intro ho
              rcases hw1 with rfl | hw1
              · have hy : y < 1 := hy
                have : y = 0 := by omega
                subst this
                rcases ho with ho | ho <;> cases ho
              · rcases ho with ho | ho
                · exact hw1 o (List.mem_of_mem_take ho)
                · exact hw1 o (List.mem_of_mem_drop ho)
            rcases List.mem_append.mp ho with ho | ho
            · exact old (.inl ho)
            · rcases List.mem_cons.mp ho with rfl | ho
              · show 1 ≤ p.2 + 1; omega
              · rcases List.mem_cons.mp ho with rfl | ho
                · show 1 ≤ p.2 + 1; omega
                · exact old (.inr ho)
      · exact ⟨ws, _, _, rfl, ht, by omega, hw20, hw1, hne⟩
    · rintro ρ ⟨ws, a2, a6, rfl, ht, hwl, hw20, hw1, hne⟩
      rw [rng_len] at hwl
      have hwl : ws.length ≤ 23 := by omega
      have hpos := List.length_pos_iff.mpr hne
      refine lcNY (fun p : Nat × Nat => D.str (bw p.1 p.2)) (fun p => .int ((max 1 p.2 : Nat) : Int)) (by exact Nat.le_of_ble_eq_true rfl) (by rw [sL]; omega) (fun p hp K hK => ?_) ?_
      · have := hw20 p hp
        refine And.intro (by rw [bw_len, sL]; omega) ?_
        have e : max (1 : Int) ((p.2 : Nat) : Int) = ((max 1 p.2 : Nat) : Int) := by omega
        show K (.val (.int (max (1 : Int) (((bw p.1 p.2).length : Nat) : Int)))) _
        rw [bw_len, e]
        exact hK
      have em : ws.map (fun p => D.int ((max 1 p.2 : Nat) : Int)) = intsD (ws.map fun p => max 1 p.2) := by
        unfold intsD; rw [List.map_map]; rfl
      have hm20 : ∀ k ∈ ws.map (fun p => max 1 p.2), k ≤ 20 := fun k hk => by
        obtain ⟨p, hp, rfl⟩ := List.mem_map.mp hk
        have := hw20 p hp
        show max 1 p.2 ≤ 20
        omega
      have hmlen : (ws.map fun p => max 1 p.2).length = ws.length := List.length_map ..
      have hoc : 1 < ws.length → ocD 0 0 0 [] (ws.map fun p => max 1 p.2) = .tup [.str codeS, .tup (wsD ws)] := by
        intro h
        have e : (ws.map fun p => max 1 p.2) = ws.map (·.2) := by
          refine List.map_congr_left fun p hp => ?_
          rcases hw1 with rfl | hw1
          · exact absurd h (by decide)
          · have := hw1 p hp
            show max 1 p.2 = p.2
            omega
        rw [e, Tl_oc ws 0 0 0 [] ht]; rfl
      rw [em]
      generalize (ws.map fun p => max 1 p.2) = ms at *
      have il : (intsD ms).length = ms.length := by unfold intsD; rw [List.length_map]
      refine Exists.intro _ (And.intro rfl (And.intro (by rw [il]; omega) (And.intro (by rw [il]; omega) fun y y0 y1 => ?_)))
      rw [il] at y1
      obtain ⟨y, rfl⟩ := Int.eq_ofNat_of_zero_le y0
      refine Exists.intro _ (And.intro rfl (And.intro (by decide) (And.intro (by decide) fun w w0 w1 => ?_)))
      obtain ⟨w, rfl⟩ := Int.eq_ofNat_of_zero_le w0
      refine And.intro (by exact Nat.le_of_ble_eq_true rfl) ?_
      have e1 : (y : Int) + 1 = ((y + 1 : Nat) : Int) := rfl
      refine And.intro ?_ (And.intro ?_ ?_)
      · rw [cut_to, List.length_take, il]; show _ + 1 ≤ _; rw [sL]; omega
      · rw [e1, cut_to, cut_from, List.length_append, List.length_take, List.length_drop, il]; show _ + 1 + _ ≤ _; rw [sL]; omega
      rw [e1, cut_to, cut_from]
      have e2 : (intsD ms).take y ++ [.int ((1 : Int) + (w : Int))] ++ (intsD ms).drop (y + 1) = intsD (ms.take y ++ (1 + w) :: ms.drop (y + 1)) := by
        unfold intsD
        rw [List.map_append, List.map_cons, List.map_take, List.map_drop, List.append_assoc]
        rfl
      rw [e2]
      have h60 : ∀ k ∈ ms.take y ++ (1 + w) :: ms.drop (y + 1), k ≤ 60 := by
        intro k hk
        rcases List.mem_append.mp hk with hk | hk
        · have := hm20 k (List.mem_of_mem_take hk); omega
        · rcases List.mem_cons.mp hk with rfl | hk
          · omega
          · have := hm20 k (List.mem_of_mem_drop hk); omega
      have hlen : (ms.take y ++ (1 + w) :: ms.drop (y + 1)).length ≤ 1000 := by
        rw [List.length_append, List.length_cons, List.length_take, List.length_drop]; omega
      generalize (ms.take y ++ (1 + w) :: ms.drop (y + 1)) = os at *
      have f := oc_ok os hlen
      have f0 : FlatS 7 (.tup [.str codeS, .tup []]) := oc_ok [] (by decide)
      refine ite_w (fun h => ?_) fun h => ?_
      · have h : (1 : Int) < ((wsD ws).length : Int) := of_decide_eq_true h
        rw [wsD_len] at h
        have hoc := hoc (by omega)
        have fo := oc_ok ms (by omega)
        refine Exists.intro ms (And.intro rfl (And.intro (fun k hk => by have := hm20 k hk; omega) (And.intro (by omega) ?_)))
        refine And.intro (by exact Nat.le_of_ble_eq_true rfl) ?_
        rw [hoc] at fo ⊢
        refine Exists.intro _ (Exists.intro _ (And.intro rfl (And.intro fo (And.intro fo.flat ?_))))
        rw [sameD_refl fo.flat]
        refine Exists.intro os (And.intro rfl (And.intro h60 (And.intro hlen ?_)))
        refine Exists.intro os (And.intro rfl (And.intro h60 (And.intro hlen ?_)))
        refine Exists.intro _ (Exists.intro _ (And.intro rfl (And.intro f (And.intro f.flat ?_))))
        rw [sameD_refl f.flat]
        refine And.intro (by exact Nat.le_of_ble_eq_true rfl) (Exists.intro [] (And.intro rfl (And.intro (fun k hk => by cases hk) (And.intro (by decide) ?_))))
        refine And.intro (by exact Nat.le_of_ble_eq_true rfl) (And.intro (by exact Nat.le_of_ble_eq_true rfl) ?_)
        refine Exists.intro _ (Exists.intro _ (And.intro rfl (And.intro f0 (And.intro f0.flat ?_))))
        show R.val (.bl (sameD (.tup [.str codeS, .tup []]) (.tup [.str codeS, .tup []]))) = _
        rw [sameD_refl f0.flat]
      · refine ite_w (fun h => by cases h) fun _ => ?_
        refine Exists.intro os (And.intro rfl (And.intro h60 (And.intro hlen ?_)))
        refine Exists.intro os (And.intro rfl (And.intro h60 (And.intro hlen ?_)))
        refine Exists.intro _ (Exists.intro _ (And.intro rfl (And.intro f (And.intro f.flat ?_))))
        rw [sameD_refl f.flat]
        refine And.intro (by exact Nat.le_of_ble_eq_true rfl) (Exists.intro [] (And.intro rfl (And.intro (fun k hk => by cases hk) (And.intro (by decide) ?_))))
        refine And.intro (by exact Nat.le_of_ble_eq_true rfl) (And.intro (by exact Nat.le_of_ble_eq_true rfl) ?_)
        refine Exists.intro _ (Exists.intro _ (And.intro rfl (And.intro f0 (And.intro f0.flat ?_))))
        show R.val (.bl (sameD (.tup [.str codeS, .tup []]) (.tup [.str codeS, .tup []]))) = _
        rw [sameD_refl f0.flat]
section
variable {P : Program} {w : World} {K : PySem.W.Frag} {mg : Str → Option Value} {base : Heap} {bx : Bx}
theorem ok_power (T : Tx K mg) : FnOk P w K mg base CX0 1 T.a_power T.fd_power ["k", "count"] (spOf K bx C_power) :=
  def3 (fb := b_power) T.F_power sc_power (by intro ds Q h; (repeat (rcases h with ⟨_, h⟩)); subst_vars; rfl) (fun cdv A outer s H E hr => (ss_cons (s_set 2 sc_power.nd e_int)
    (ss_cons (s_for PassesOwn.never rfl (i_rng1 (a_cons (e_var 1) a_nil) T.z_range) (g_name 3 sc_power.nd) (ss_one (s_aug 2 ipA_mul sc_power.nd (e_var 0))))
    (ss_one (s_ret (e_var 2)))))) vc_power
theorem ok_written (T : Tx K mg) : FnOk P w K mg base CX0 1 T.a_written T.fd_written ["number", "length", "k"] (spOf K bx C_written) :=
  def3 (fb := b_written) T.F_written sc_written (by intro ds Q h; (repeat (rcases h with ⟨_, h⟩)); subst_vars; rfl) (fun cdv A outer s H E hr => (ss_cons (s_set 3 sc_written.nd (e_lst a_nil))
    (ss_cons (s_for PassesOwn.never rfl (i_rng1 (a_cons (e_var 1) a_nil) T.z_range) (g_name 4 sc_written.nd) (ss_cons (s_expr (e_app 3 (e_ix (T.e_LETTERS) (e_bin opD_sub (e_var 0) (e_bin opD_mul (e_bin opD_fdiv (e_var 0) (e_var 2)) (e_var 2))))))
    (ss_one (s_aug 0 ipA_fdiv sc_written.nd (e_var 2)))))
    (ss_one (s_ret (e_join (e_str []) (e_rev (e_var 3)))))))) vc_written
theorem ok_ordered_code (T : Tx K mg) : FnOk P w K mg base CX0 2 T.a_ordered_code T.fd_ordered_code ["lengths"] (spOf K bx C_ordered_code) :=
  def3 (fb := b_ordered_code) T.F_ordered_code sc_ordered_code (by intro ds Q h; (repeat (rcases h with ⟨_, h⟩)); subst_vars; rfl) (fun cdv A outer s H E hr => (ss_cons (s_set 1 sc_ordered_code.nd (e_lst a_nil))
    (ss_cons (s_asg (e_tup (a_cons e_int (a_cons e_int a_nil))) (g_tup rfl (gs_cons (g_name 2 sc_ordered_code.nd) (gs_cons (g_name 3 sc_ordered_code.nd) gs_nil))))
    (ss_cons (s_for PassesOwn.never rfl (i_enumB (e_var 0) T.z_enumerate) (g_tup rfl (gs_cons (g_name 4 sc_ordered_code.nd) (gs_cons (g_name 5 sc_ordered_code.nd) gs_nil))) (ss_cons (s_if (t_cmp opD_ge (e_var 5) (e_var 3)) (ss_one (s_aug 2 ipA_mul sc_ordered_code.nd (e_call (ok_power T) (hr.mono (by first | decide | omega | (simp only [Nat.add_eq]; omega))) T.g_power T.F_power.kp T.B_power (a_cons e_int (a_cons (e_bin opD_sub (e_var 5) (e_var 3)) a_nil))))) (ss_cons (s_set 6 sc_ordered_code.nd (e_call (ok_power T) (hr.mono (by first | decide | omega | (simp only [Nat.add_eq]; omega))) T.g_power T.F_power.kp T.B_power (a_cons e_int (a_cons (e_bin opD_sub (e_var 3) (e_var 5)) a_nil))))
    (ss_one (s_set 2 sc_ordered_code.nd (e_bin opD_fdiv (e_bin opD_sub (e_bin opD_add (e_var 2) (e_var 6)) e_int) (e_var 6))))))
    (ss_cons (s_if (t_cmp opD_ge (e_var 2) (e_call (ok_power T) (hr.mono (by first | decide | omega | (simp only [Nat.add_eq]; omega))) T.g_power T.F_power.kp T.B_power (a_cons e_int (a_cons (e_var 5) a_nil)))) (ss_one (s_ret (e_tup (a_cons (e_str [115, 116, 111, 112]) (a_cons (e_var 4) a_nil))))) ss_nil)
    (ss_cons (s_expr (e_app 1 (e_call (ok_written T) (hr.mono (by first | decide | omega | (simp only [Nat.add_eq]; omega))) T.g_written T.F_written.kp T.B_written (a_cons (e_var 2) (a_cons (e_var 5) (a_cons e_int a_nil))))))
    (ss_one (s_par2 2 3 rfl sc_ordered_code.nd (e_bin opD_add (e_var 2) e_int) (e_var 5)))))))
    (ss_one (s_ret (e_tup (a_cons (e_str [99, 111, 100, 101]) (a_cons (e_callTy c_tuple (e_var 1) T.z_tuple) a_nil))))))))) vc_ordered_code
theorem ok__law_mix (T : Tx K mg) : FnOk P w K mg base CX0 1 T.a__law_mix T.fd__law_mix ["number"] (spOf K bx C__law_mix) :=
  def3 (fb := b__law_mix) T.F__law_mix sc__law_mix (by intro ds Q h; (repeat (rcases h with ⟨_, h⟩)); subst_vars; rfl) (fun cdv A outer s H E hr => (ss_cons (s_set 0 sc__law_mix.nd (e_bin opD_mod (e_callTy c_int (e_bin opD_add (e_bin opD_mul (e_var 0) e_int) e_int) T.z_int) e_int))
    (ss_one (s_ret (e_bin opD_mod (e_callTy c_int (e_bin opD_add (e_bin opD_fdiv (e_bin opD_mul (e_var 0) (e_var 0)) e_int) (e_bin opD_mul (e_var 0) e_int)) T.z_int) e_int))))) vc__law_mix
theorem ok__law_tape (T : Tx K mg) : FnOk P w K mg base CX0 1 T.a__law_tape T.fd__law_tape ["script"] (spTape K) := by
  refine T.F__law_tape.ok sc__law_tape (fun vs H Q E ⟨a, ns, e, _⟩ => by rw [e]; rfl) (fun cdv A outer s H vs Q E hr hsp => ⟨_, pss_one (ps_ret (pe_lst (pa_cons (pe_callTy call_list_of (by rfl) T.z_list (by decide +kernel) (pa_cons (pe_slice sl_list (pv 0) po_none (po_some pe_int)) pa_nil)) (pa_cons pe_int (pa_cons pe_int (pa_cons (pe_op op_add pe_int (pe_callB call_len_seq (by rfl) T.z_len PySem.boot_len (pa_cons (pv 0) pa_nil))) pa_nil)))))), ?_⟩)
  obtain ⟨a, ns, rfl, hS, hl, q⟩ := hsp
  refine ⟨_, rfl, 80, rfl, a, _, rfl, hS, fun c hc => ?_⟩
  have s1 : Same H (upd H c (.lst (cutV (ns.map V.int) none (some 80)))) := same_upd' hc
  refine ⟨c, _, rfl, .inl (.inl (.inl upd_same)), fun l hl' => ?_⟩
  have s2 := s1.trans (same_upd' (o := .lst (cutV (ns.map V.int) none (some 80))) hl')
  refine ⟨_, rfl, a, _, rfl, .inl (s2.seq hS), _, _, rfl, rfl, by show 4 ≤ sizeLine; decide, fun p hp => ?_⟩
  have e : cutV (ns.map V.int) none (some 80) = (cut ns none (some 80)).map V.int := by
    unfold cutV cut
    rw [List.map_take, List.map_drop, List.length_map]
  have np : l ≠ p := fun h => by subst h; rw [upd_same] at hp; cases hp
  refine q p l _ (s2.trans (same_upd' hp)) (Same.free s2 hp) (Same.free s1 hl') ⟨cut ns none (some 80), 0, 0, _, ?_, upd_same, Nat.zero_le _⟩
  rw [upd_ne np, upd_same, e]

theorem ok__law_take {b q : Addr} (T : Tx K mg) : FnOk P w K mg base CX0 2 T.a__law_take T.fd__law_take ["tape", "many"] (spOf K (tapeBx b q) C_draw) := by
  refine T.F__law_take.ok sc__law_take (fun vs H Q E ⟨_, _, ds, _, _, r, ⟨n, e, _⟩, _⟩ => by rw [r.length, e]; rfl) (fun cdv A outer s H vs Q E hr hsp => ?_)
  obtain ⟨F, G, ds, PP, fr, rl, ⟨n, rfl, hn, hn2, hP⟩, hQ⟩ := hsp
  obtain ⟨v0, v1, rfl, r0, r1⟩ := repL2 rl
  cases r0
  cases r1
  have hdiv : CDivW (0 : Int) n := wide_div (b := 65) hn (by omega) (by decide) (by decide)
  have mix : ∀ (i : Int) (G1 H1 : Hp) (QQ : VK) (E0 : XK), Fr3 (tapeBx b q) F G1 H1 → (∀ r G2 H2, Same G1 G2 → Fr3 (tapeBx b q) F G2 H2 → QQ (.int r) H2) → spOf K (tapeBx b q) C_any1 ([.int i] ++ []) H1 QQ E0 := fun i G1 H1 QQ E0 fr1 h =>
    ⟨F, G1, [.int i], fun r => ∃ z, r = .val (.int z), fr1, .cons (.int i) .nil, ⟨i, rfl, fun r => ⟨r, rfl⟩⟩, fun r v G' H' ⟨z, e⟩ g fr' rr => by
      subst e
      cases rr
      exact h z G' H' g fr'⟩
  obtain ⟨t2, p2, fin⟩ : ∃ t, PSs (cxOf CX0 P w K mg base n__law_take "_law_take" (defScope s__law_take) T.a__law_take cdv A outer s H E).nox ((defBody s__law_take).drop 1) t ∧ ∀ (σ2 σ3 : Option V) (G1 H1 : Hp), Same G G1 → Fr3 (tapeBx b q) F G1 H1 →
      t { nx := fun _ H' => Q .non H', rt := Q } [some (.ref b), some (.int n), σ2, σ3] H1 := by
    refine ⟨_, pss_cons (ps_set (i := 3) sc__law_take.nd rfl (.inl rfl) (pe_op op_mod (pe_callTy call_int1 (by rfl) T.z_int (by decide +kernel) (pa_cons (pe_ix ix_list (pv 0) pe_int (fun _ _ => rfl)) pa_nil)) (pv 1)))
      (pss_cons (ps_asg (pe_op op_fdivW (pe_ix ix_list (pv 0) pe_int (fun _ _ => rfl)) (pv 1)) (pg_sub (pv 0) pe_int set_list))
      (pss_one (ps_ret (pv 3)))), fun σ2 σ3 G1 H1 g1 fr1 => ?_⟩
    obtain ⟨cs, k, x, y, hq, hb, hk⟩ := id fr1.bi
    refine ⟨_, rfl, b, _, 2, .int x, rfl, rfl, .inl (.inl hb), rfl, .inl ⟨x, rfl, _, rfl, x, n, rfl, rfl, hn, ?_⟩⟩
    refine ⟨_, rfl, b, _, 2, .int x, rfl, rfl, .inl (.inl hb), rfl, _, rfl, x, n, rfl, rfl, hdiv, _, rfl, b, _, 2, 2, rfl, rfl, hb, rfl, _, rfl, ?_⟩
    have fr2 := tape_set fr1 hq k (x / n) y hk
    exact hQ _ _ G1 _ (hP (x % n) (Int.emod_nonneg _ (by omega)) (Int.emod_lt_of_pos _ hn)) g1 fr2 (.int _)
  refine ⟨_, pss_cons (ps_if (pt_cmpR op_lt (pe_ix ix_list (pv 0) pe_int (fun _ _ => rfl)) (pv 1) (nomark _))
      (pss_one (ps_if (pt_cmpR op_lt (pe_ix ix_list (pv 0) pe_int (fun _ _ => rfl)) (pe_callB call_len_seq (by rfl) T.z_len PySem.boot_len (pa_cons (pe_ix ix_list (pv 0) pe_int (fun _ _ => rfl)) pa_nil)) (nomark _))
        (pss_cons (ps_set (i := 2) sc__law_take.nd rfl (.inl rfl) (pe_ix ix_list (pe_ix ix_list (pv 0) pe_int (fun _ _ => rfl)) (pe_ix ix_list (pv 0) pe_int (fun _ _ => rfl)) (fun _ _ => rfl)))
        (pss_cons (ps_set (i := 2) sc__law_take.nd rfl (.inl rfl) (pe_ifExp (pt_cmpR op_ge (pv 2) pe_int (nomark _)) (pe_op op_mul pe_int (pv 2)) (pe_op op_sub (pe_op op_mul (pe_un un_neg pe_int) (pv 2)) pe_int)))
        (pss_cons (ps_asg (pe_op op_add (pe_ix ix_list (pv 0) pe_int (fun _ _ => rfl)) pe_int) (pg_sub (pv 0) pe_int set_list))
        (pss_cons (ps_asg (pe_call (ok__law_mix (bx := tapeBx b q) T) (hr.mono (by decide)) (by rfl) T.g__law_mix T.F__law_mix.kp T.B__law_mix .nil pass0 (pa_cons (pe_op op_add (pe_ix ix_list (pv 0) pe_int (fun _ _ => rfl)) (pv 2)) pa_nil)) (pg_sub (pv 0) pe_int set_list))
        (pss_one (ps_asg (pe_ifExp (pt_cmpR op_ge (pv 2) (pe_op op_pow pe_int pe_int) (nomark _)) (pv 2) (pe_call (ok__law_mix (bx := tapeBx b q) T) (hr.mono (by decide)) (by rfl) T.g__law_mix T.F__law_mix.kp T.B__law_mix .nil pass0 (pa_cons (pe_op op_add (pe_call (ok__law_mix (bx := tapeBx b q) T) (hr.mono (by decide)) (by rfl) T.g__law_mix T.F__law_mix.kp T.B__law_mix .nil pass0 (pa_cons (pv 2) pa_nil)) (pe_ix ix_list (pv 0) pe_int (fun _ _ => rfl))) pa_nil))) (pg_sub (pv 0) pe_int set_list)))))))
        (pss_cons (ps_asg (pe_call (ok__law_mix (bx := tapeBx b q) T) (hr.mono (by decide)) (by rfl) T.g__law_mix T.F__law_mix.kp T.B__law_mix .nil pass0 (pa_cons (pe_op op_add (pe_ix ix_list (pv 0) pe_int (fun _ _ => rfl)) pe_int) pa_nil)) (pg_sub (pv 0) pe_int set_list))
        (pss_one (ps_asg (pe_ix ix_list (pv 0) pe_int (fun _ _ => rfl)) (pg_sub (pv 0) pe_int set_list))))))
      pss_nil) p2, ?_⟩
  obtain ⟨cs, k, x, y, hq, hb, hk⟩ := id fr.bi
  refine ⟨_, rfl, b, _, 2, .int x, rfl, rfl, .inl (.inl hb), rfl, _, rfl, x, n, rfl, rfl, _, rfl, ite2 (fun _ => ?_) (fun _ => fin none none G H (Same.refl G) fr)⟩
  refine ⟨_, rfl, b, _, 1, .int (k : Int), rfl, rfl, .inl (.inl hb), rfl, _, rfl, b, _, 0, .ref q, rfl, rfl, .inl (.inl hb), rfl, q, _, rfl, .inl (.inl (.inl hq)), _, _, rfl, rfl, _, rfl, ite2 (fun hlt => ?_) (fun _ => ?_)⟩
  · have hlt : (k : Int) < ((cs.map V.int).length : Int) := of_decide_eq_true hlt
    rw [List.length_map] at hlt
    have hkl : k < cs.length := by omega
    refine ⟨_, rfl, b, _, 0, .ref q, rfl, rfl, .inl (.inl hb), rfl, _, rfl, b, _, 1, .int (k : Int), rfl, rfl, .inl (.inl hb), rfl, q, _, (k : Int), .int cs[k], rfl, rfl, .inl (.inl hq), atI_nat (by rw [List.getElem?_map, List.getElem?_eq_getElem hkl]; rfl), ?_⟩
    generalize cs[k] = c
    refine ⟨_, rfl, c, 0, rfl, rfl, _, rfl, ite2 (fun _ => ⟨_, rfl, 2, c, rfl, rfl, .inl ⟨by decide, by decide⟩, ?_⟩) (fun _ => ⟨2, rfl, _, rfl, -2, c, rfl, rfl, .inl ⟨by decide, by decide⟩, _, 1, rfl, rfl, ?_⟩)⟩
    all_goals
      refine ⟨_, rfl, b, _, 1, .int (k : Int), rfl, rfl, .inl (.inl hb), rfl, (k : Int), 1, rfl, rfl, _, rfl, b, _, 1, 1, rfl, rfl, hb, rfl, ?_⟩
      have fr1 := tape_set fr hq (k + 1) x y (by omega)
      have hq1 : upd H b (.lst [.ref q, .int ((k + 1 : Nat) : Int), .int x, .int y]) q = some (.lst (cs.map V.int)) := by rw [upd_ne (Ne.symm (tape_ne fr.bi))]; exact hq
      refine ⟨_, rfl, b, _, 3, .int y, rfl, rfl, .inl (.inl upd_same), rfl, _, rfl, _, _, rfl, rfl, mix _ G _ _ E fr1 fun r2 G2 H2 g2 fr2 => ?_⟩
      obtain ⟨cs2, k2, x2, y2, hq2, hb2, hk2⟩ := id fr2.bi
      refine ⟨_, rfl, b, _, 3, 3, rfl, rfl, hb2, rfl, ?_⟩
      have fr3 := tape_set fr2 hq2 k2 x2 r2 hk2
      refine ⟨_, rfl, 10, 18, rfl, rfl, ⟨by decide, by decide, by decide⟩, _, _, rfl, rfl, _, rfl, ite2 (fun _ => ⟨_, rfl, _, rfl, b, _, 2, 2, rfl, rfl, upd_same, rfl, ?_⟩) (fun _ => ⟨_, rfl, mix _ G2 _ _ E fr3 fun r4 G4 H4 g4 fr4 => ?_⟩)⟩
      · have ne := tape_ne fr2.bi
        have hq3 : upd H2 b (.lst [.ref q, .int (k2 : Int), .int x2, .int r2]) q = some (.lst (cs2.map V.int)) := by rw [upd_ne (Ne.symm ne)]; exact hq2
        exact fin _ _ G2 _ g2 (tape_set fr3 hq3 k2 _ r2 hk2)
      · obtain ⟨cs4, k4, x4, y4, hq4, hb4, hk4⟩ := id fr4.bi
        refine ⟨_, rfl, b, _, 1, .int (k4 : Int), rfl, rfl, .inl (.inl hb4), rfl, _, _, rfl, rfl, mix _ G4 _ _ E fr4 fun r5 G5 H5 g5 fr5 => ?_⟩
        obtain ⟨cs5, k5, x5, y5, hq5, hb5, hk5⟩ := id fr5.bi
        refine ⟨_, rfl, b, _, 2, 2, rfl, rfl, hb5, rfl, ?_⟩
        exact fin _ _ G5 _ (g2.trans (g4.trans g5)) (tape_set fr5 hq5 k5 r5 y5 hk5)
  · refine ⟨_, rfl, b, _, 3, .int y, rfl, rfl, .inl (.inl hb), rfl, _, _, rfl, rfl, mix _ G _ _ E fr fun r2 G2 H2 g2 fr2 => ?_⟩
    obtain ⟨cs2, k2, x2, y2, hq2, hb2, hk2⟩ := id fr2.bi
    refine ⟨_, rfl, b, _, 3, 3, rfl, rfl, hb2, rfl, ?_⟩
    have fr3 := tape_set fr2 hq2 k2 x2 r2 hk2
    have ne := tape_ne fr2.bi
    have hq3 : upd H2 b (.lst [.ref q, .int (k2 : Int), .int x2, .int r2]) q = some (.lst (cs2.map V.int)) := by rw [upd_ne (Ne.symm ne)]; exact hq2
    refine ⟨_, rfl, b, _, 3, .int r2, rfl, rfl, .inl (.inl upd_same), rfl, _, rfl, b, _, 2, 2, rfl, rfl, upd_same, rfl, ?_⟩
    exact fin _ _ G2 _ g2 (tape_set fr3 hq3 k2 _ r2 hk2)

theorem ok__law_same : ∀ (m : Nat) (T : Tx K mg), FnOk P w K mg base CX0 m T.a__law_same T.fd__law_same ["a", "b"] (spOf K bx (C_same m))
  | 0, T => FnOk.none
  | m + 1, T => def3 (fb := b_same (C_same m)) T.F__law_same sc__law_same (fun ds Q ⟨a, b, e, _⟩ => by rw [e]; rfl) (fun cdv A outer s H E hr => (ss_cons (s_if (t_of (tw_or (t_of (tw_and (t_val (e_isi (T := "tuple") (by decide) (e_var 0) T.z_isinstance T.z_tuple)) (tw_and1 (t_val (e_isi (T := "tuple") (by decide) (e_var 1) T.z_isinstance T.z_tuple))))) (tw_or1 (t_of (tw_and (t_val (e_isi (T := "list") (by decide) (e_var 0) T.z_isinstance T.z_list)) (tw_and1 (t_val (e_isi (T := "list") (by decide) (e_var 1) T.z_isinstance T.z_list)))))))) (ss_one (s_ret (e_and (e_cmp (opD_eq hr.units) (e_callB c_len (e_var 0) T.z_len) (e_callB c_len (e_var 1) T.z_len)) (e_one (e_callB (c_all rfl) (e_lc rfl sc__law_same.nd (i_rng1 (a_cons (e_callB c_len (e_var 0) T.z_len) a_nil) T.z_range) (blkOk_by (own := [("k", 2)]) (N := n__law_same) (sc := defScope s__law_same) (by decide +kernel)) (fun _ _ _ _ _ => (g_name 2 sc__law_same.nd)) (fun _ _ _ _ _ => ts_nil) (fun _ _ _ _ _ => (e_call (ok__law_same m T) hr T.g__law_same T.F__law_same.kp T.B__law_same (a_cons (e_ix (e_var 0) (e_var 2)) (a_cons (e_ix (e_var 1) (e_var 2)) a_nil))))) T.z_all))))) ss_nil)
    (ss_cons (s_if (t_of (tw_or (t_val (e_isi (T := "bool") (by decide) (e_var 0) T.z_isinstance T.z_bool)) (tw_or1 (t_val (e_isi (T := "bool") (by decide) (e_var 1) T.z_isinstance T.z_bool))))) (ss_one (s_ret (e_and (e_isi (T := "bool") (by decide) (e_var 0) T.z_isinstance T.z_bool) (e_and (e_isi (T := "bool") (by decide) (e_var 1) T.z_isinstance T.z_bool) (e_one (e_cmp (opD_eq hr.units) (e_var 0) (e_var 1))))))) ss_nil)
    (ss_cons (s_if (t_of (tw_or (t_of (tw_and (t_val (e_isi (T := "int") (by decide) (e_var 0) T.z_isinstance T.z_int)) (tw_and1 (t_val (e_isi (T := "int") (by decide) (e_var 1) T.z_isinstance T.z_int))))) (tw_or1 (t_of (tw_and (t_val (e_isi (T := "str") (by decide) (e_var 0) T.z_isinstance T.z_str)) (tw_and1 (t_val (e_isi (T := "str") (by decide) (e_var 1) T.z_isinstance T.z_str)))))))) (ss_one (s_ret (e_cmp (opD_eq hr.units) (e_var 0) (e_var 1)))) ss_nil)
    (ss_one (s_ret (e_and (e_cmp opD_is (e_var 0) e_non) (e_one (e_cmp opD_is (e_var 1) e_non))))))))) (vc_same m)
theorem ok__law_binary (T : Tx K mg) : FnOk P w K mg base CX0 1 T.a__law_binary T.fd__law_binary ["number", "length"] (spOf K bx C__law_binary) :=
  def3 (fb := b__law_binary) T.F__law_binary sc__law_binary (by intro ds Q h; (repeat (rcases h with ⟨_, h⟩)); subst_vars; rfl) (fun cdv A outer s H E hr => (ss_one (s_ret (e_join (e_str []) (e_lc rfl sc__law_binary.nd (i_rng1 (a_cons (e_var 1) a_nil) T.z_range) (blkOk_by (own := [("k", 2)]) (N := n__law_binary) (sc := defScope s__law_binary) (by decide +kernel)) (fun _ _ _ _ _ => (g_name 2 sc__law_binary.nd)) (fun _ _ _ _ _ => ts_nil) (fun _ _ _ _ _ => (e_ix (e_str [97, 98]) (e_bin opD_and (e_bin opD_shr (e_var 0) (e_bin opD_sub (e_bin opD_sub (e_var 1) e_int) (e_var 2))) e_int)))))))) vc__law_binary
theorem ok__law_next (T : Tx K mg) : FnOk P w K mg base CX0 2 T.a__law_next T.fd__law_next ["before", "length"] (spOf K bx C__law_next) :=
  def3 (fb := b__law_next) T.F__law_next sc__law_next (by intro ds Q h; (repeat (rcases h with ⟨_, h⟩)); subst_vars; rfl) (fun cdv A outer s H E hr => (ss_cons (s_if (t_cmp opD_is (e_var 0) e_non) (ss_one (s_ret (e_call (ok__law_binary T) (hr.mono (by first | decide | omega | (simp only [Nat.add_eq]; omega))) T.g__law_binary T.F__law_binary.kp T.B__law_binary (a_cons e_int (a_cons (e_var 1) a_nil))))) ss_nil)
    (ss_cons (s_set 2 sc__law_next.nd e_int)
    (ss_cons (s_for PassesOwn.never rfl (i_rng1 (a_cons (e_var 1) a_nil) T.z_range) (g_name 3 sc__law_next.nd) (ss_one (s_set 2 sc__law_next.nd (e_bin opD_add (e_bin opD_mul (e_var 2) e_int) (e_if (t_of (tw_and (t_cmp opD_lt (e_var 3) (e_callB c_len (e_var 0) T.z_len)) (tw_and1 (t_cmp (opD_eq hr.units) (e_ix (e_var 0) (e_var 3)) (e_str [98]))))) e_int e_int)))))
    (ss_cons (s_for PassesOwn.never rfl (i_rng2 (a_cons (e_var 2) (a_cons (e_callB2 (c_min2 rfl) (e_bin opD_add (e_var 2) e_int) (e_bin opD_shl e_int (e_var 1)) T.z_min) a_nil)) T.z_range) (g_name 4 sc__law_next.nd) (ss_cons (s_set 5 sc__law_next.nd (e_call (ok__law_binary T) (hr.mono (by first | decide | omega | (simp only [Nat.add_eq]; omega))) T.g__law_binary T.F__law_binary.kp T.B__law_binary (a_cons (e_var 4) (a_cons (e_var 1) a_nil))))
    (ss_one (s_if (t_of (tw_and (t_cmp opD_gt (e_var 5) (e_var 0)) (tw_and1 (t_cmp (opD_ne hr.units) (e_sl (e_var 5) o_none (o_some (e_callB c_len (e_var 0) T.z_len))) (e_var 0))))) (ss_one (s_ret (e_var 5))) ss_nil))))
    (ss_cons (s_if (t_cmp opD_gt (e_var 1) (e_callB c_len (e_var 0) T.z_len)) (ss_cons (s_set 4 sc__law_next.nd (e_bin opD_add (e_var 2) (e_bin opD_shl e_int (e_bin opD_sub (e_var 1) (e_callB c_len (e_var 0) T.z_len)))))
    (ss_one (s_ret (e_if (t_cmp opD_lt (e_var 4) (e_bin opD_shl e_int (e_var 1))) (e_call (ok__law_binary T) (hr.mono (by first | decide | omega | (simp only [Nat.add_eq]; omega))) T.g__law_binary T.F__law_binary.kp T.B__law_binary (a_cons (e_var 4) (a_cons (e_var 1) a_nil))) e_non)))) ss_nil)
    (ss_one (s_ret e_non)))))))) vc__law_next
theorem ok__law_told (T : Tx K mg) : FnOk P w K mg base CX0 3 T.a__law_told T.fd__law_told ["lengths"] (spOf K bx C__law_told) :=
  def3 (fb := b__law_told) T.F__law_told sc__law_told (by intro ds Q h; (repeat (rcases h with ⟨_, h⟩)); subst_vars; rfl) (fun cdv A outer s H E hr => (ss_cons (s_set 1 sc__law_told.nd (e_lst a_nil))
    (ss_cons (s_for PassesOwn.never rfl (i_rng1 (a_cons (e_callB c_len (e_var 0) T.z_len) a_nil) T.z_range) (g_name 2 sc__law_told.nd) (ss_cons (s_set 3 sc__law_told.nd (e_call (ok__law_next T) (hr.mono (by first | decide | omega | (simp only [Nat.add_eq]; omega))) T.g__law_next T.F__law_next.kp T.B__law_next (a_cons (e_if (t_cmp (opD_ne hr.units) (e_var 1) (e_lst a_nil)) (e_ix (e_var 1) (e_neg e_int)) e_non) (a_cons (e_ix (e_var 0) (e_var 2)) a_nil))))
    (ss_cons (s_if (t_cmp opD_is (e_var 3) e_non) (ss_one (s_ret (e_tup (a_cons (e_str [115, 116, 111, 112]) (a_cons (e_var 2) a_nil))))) ss_nil)
    (ss_one (s_expr (e_app 1 (e_var 3)))))))
    (ss_one (s_ret (e_tup (a_cons (e_str [99, 111, 100, 101]) (a_cons (e_callTy c_tuple (e_var 1) T.z_tuple) a_nil)))))))) vc__law_told
theorem ok__law_any : ∀ (m : Nat) (T : Tx K mg), FnOk P w K mg base CX0 (1 + m) T.a__law_any T.fd__law_any ["lengths", "words"] (spOf K bx (C__law_any m))
  | 0, T => FnOk.none
  | m + 1, T => def3 (fb := b__law_any (C__law_any m)) T.F__law_any sc__law_any (by intro ds Q h; (repeat (rcases h with ⟨_, h⟩)); subst_vars; rfl) (fun cdv A outer s H E hr => (ss_cons (s_if (t_cmp (opD_eq hr.units) (e_callB c_len (e_var 1) T.z_len) (e_callB c_len (e_var 0) T.z_len)) (ss_one (s_ret e_bl)) ss_nil)
    (ss_cons (s_set 2 sc__law_any.nd (e_ix (e_var 0) (e_callB c_len (e_var 1) T.z_len)))
    (ss_cons (s_for PassesOwn.never rfl (i_rng1 (a_cons (e_bin opD_shl e_int (e_var 2)) a_nil) T.z_range) (g_name 3 sc__law_any.nd) (ss_cons (s_set 4 sc__law_any.nd (e_call (ok__law_binary T) (hr.mono (by first | decide | omega | (simp only [Nat.add_eq]; omega))) T.g__law_binary T.F__law_binary.kp T.B__law_binary (a_cons (e_var 3) (a_cons (e_var 2) a_nil))))
    (ss_one (s_if (t_of (tw_and (t_of (tw_or (t_cmp (opD_eq hr.units) (e_var 1) (e_lst a_nil)) (tw_or1 (t_cmp opD_gt (e_var 4) (e_ix (e_var 1) (e_neg e_int)))))) (tw_and (t_not (t_val (e_callB (c_any rfl) (e_lc rfl sc__law_any.nd (i_any (e_var 1)) (blkOk_by (own := [("other", 5)]) (N := n__law_any) (sc := defScope s__law_any) (by decide +kernel)) (fun _ _ _ _ _ => (g_name 5 sc__law_any.nd)) (fun _ _ _ _ _ => ts_nil) (fun _ _ _ _ _ => (e_cmp (opD_eq hr.units) (e_sl (e_var 4) o_none (o_some (e_callB c_len (e_var 5) T.z_len))) (e_var 5)))) T.z_any))) (tw_and1 (t_val (e_call (ok__law_any m T) hr T.g__law_any T.F__law_any.kp T.B__law_any (a_cons (e_var 0) (a_cons (e_bin opD_add (e_var 1) (e_lst (a_cons (e_var 4) a_nil))) a_nil)))))))) (ss_one (s_ret e_bl)) ss_nil))))
    (ss_one (s_ret e_bl)))))) (vc__law_any m)
theorem ok_law (T : Tx K mg) : FnOk P w K mg base CX0 10 T.a_law T.fd_law ["script"] (spLaw K) := by
  refine T.F_law.ok sc_law (fun vs H Q E ⟨a, ns, e, _⟩ => by rw [e]; rfl) (fun cdv A outer s H vs Q E hr ⟨a, ns, e, hS, hl, hq⟩ => ⟨_, pss_cons (ps_set (i := 1) sc_law.nd rfl (by first | exact .inl rfl | exact .inr rfl) (pe_call (ok__law_tape T) (hr.mono (by decide)) (by rfl) T.g__law_tape T.F__law_tape.kp T.B__law_tape .nil pass0 (pa_cons (pv 0) pa_nil))) (pss_any (α := Addr × Addr) (f := b_law) (fun bq => tapeBx bq.1 bq.2) fun bq => (ss_cons (s_for PassesOwn.never rfl (i_rng1 (a_cons e_int a_nil) T.z_range) (g_name 2 sc_law.nd) (ss_cons (s_set 3 sc_law.nd (e_callTy c_tuple (e_lc rfl sc_law.nd (i_rng1 (a_cons (e_call (ok__law_take T) (hr.mono (by first | decide | omega | (simp only [Nat.add_eq]; omega))) T.g__law_take T.F__law_take.kp T.B__law_take (a_cons (e_var 1) (a_cons e_int a_nil))) a_nil) T.z_range) (blkOk_by (own := [("k", 8)]) (N := n_law) (sc := defScope s_law) (by decide +kernel)) (fun _ _ _ _ _ => (g_name 8 sc_law.nd)) (fun _ _ _ _ _ => ts_nil) (fun _ _ _ _ _ => (e_bin opD_add e_int (e_call (ok__law_take T) (hr.mono (by first | decide | omega | (simp only [Nat.add_eq]; omega))) T.g__law_take T.F__law_take.kp T.B__law_take (a_cons (e_var 1) (a_cons e_int a_nil)))))) T.z_tuple))
    (ss_cons (s_set 4 sc_law.nd (e_call (ok__law_told T) (hr.mono (by first | decide | omega | (simp only [Nat.add_eq]; omega))) T.g__law_told T.F__law_told.kp T.B__law_told (a_cons (e_var 3) a_nil)))
    (ss_one (s_if (t_of (tw_or (t_not (t_val (e_call (ok__law_same 8 T) (hr.mono (by first | decide | omega | (simp only [Nat.add_eq]; omega))) T.g__law_same T.F__law_same.kp T.B__law_same (a_cons (e_call (ok_ordered_code T) (hr.mono (by first | decide | omega | (simp only [Nat.add_eq]; omega))) T.g_ordered_code T.F_ordered_code.kp T.B_ordered_code (a_cons (e_var 3) a_nil)) (a_cons (e_var 4) a_nil))))) (tw_or1 (t_cmp (opD_ne hr.units) (e_cmp (opD_eq hr.units) (e_ix (e_var 4) e_int) (e_str [99, 111, 100, 101])) (e_call (ok__law_any 7 T) (hr.mono (by first | decide | omega | (simp only [Nat.add_eq]; omega))) T.g__law_any T.F__law_any.kp T.B__law_any (a_cons (e_var 3) (a_cons (e_lst a_nil) a_nil))))))) (ss_one (s_ret e_bl)) ss_nil)))))
    (ss_cons (s_set 5 sc_law.nd (e_lst (a_cons (e_str []) a_nil)))
    (ss_cons (s_for PassesOwn.never rfl (i_rng1 (a_cons (e_call (ok__law_take T) (hr.mono (by first | decide | omega | (simp only [Nat.add_eq]; omega))) T.g__law_take T.F__law_take.kp T.B__law_take (a_cons (e_var 1) (a_cons e_int a_nil))) a_nil) T.z_range) (g_name 2 sc_law.nd) (ss_cons (s_set 6 sc_law.nd (e_call (ok__law_take T) (hr.mono (by first | decide | omega | (simp only [Nat.add_eq]; omega))) T.g__law_take T.F__law_take.kp T.B__law_take (a_cons (e_var 1) (a_cons (e_callB c_len (e_var 5) T.z_len) a_nil))))
    (ss_one (s_if (t_cmp opD_lt (e_callB c_len (e_ix (e_var 5) (e_var 6)) T.z_len) e_int) (ss_one (s_set 5 sc_law.nd (e_bin opD_add (e_bin opD_add (e_sl (e_var 5) o_none (o_some (e_var 6))) (e_lst (a_cons (e_bin opD_add (e_ix (e_var 5) (e_var 6)) (e_str [97])) (a_cons (e_bin opD_add (e_ix (e_var 5) (e_var 6)) (e_str [98])) a_nil)))) (e_sl (e_var 5) (o_some (e_bin opD_add (e_var 6) e_int)) o_none)))) ss_nil))))
    (ss_cons (s_setLc 3 rfl sc_law.nd (i_any (e_var 5)) (blkOk_by (own := [("word", 9)]) (N := n_law) (sc := defScope s_law) (by decide +kernel)) (fun _ _ _ _ _ => (g_name 9 sc_law.nd)) (fun _ _ _ _ _ => ts_nil) (fun _ _ _ _ _ => (e_callB2 (c_max2 rfl) e_int (e_callB c_len (e_var 9) T.z_len) T.z_max)))
    (ss_cons (s_set 6 sc_law.nd (e_call (ok__law_take T) (hr.mono (by first | decide | omega | (simp only [Nat.add_eq]; omega))) T.g__law_take T.F__law_take.kp T.B__law_take (a_cons (e_var 1) (a_cons (e_callB c_len (e_var 3) T.z_len) a_nil))))
    (ss_cons (s_set 7 sc_law.nd (e_bin opD_add (e_bin opD_add (e_sl (e_var 3) o_none (o_some (e_var 6))) (e_lst (a_cons (e_bin opD_add e_int (e_call (ok__law_take T) (hr.mono (by first | decide | omega | (simp only [Nat.add_eq]; omega))) T.g__law_take T.F__law_take.kp T.B__law_take (a_cons (e_var 1) (a_cons e_int a_nil)))) a_nil))) (e_sl (e_var 3) (o_some (e_bin opD_add (e_var 6) e_int)) o_none)))
    (ss_cons (s_if (t_of (tw_and (t_cmp opD_gt (e_callB c_len (e_var 5) T.z_len) e_int) (tw_and1 (t_not (t_val (e_call (ok__law_same 8 T) (hr.mono (by first | decide | omega | (simp only [Nat.add_eq]; omega))) T.g__law_same T.F__law_same.kp T.B__law_same (a_cons (e_call (ok_ordered_code T) (hr.mono (by first | decide | omega | (simp only [Nat.add_eq]; omega))) T.g_ordered_code T.F_ordered_code.kp T.B_ordered_code (a_cons (e_callTy c_tuple (e_var 3) T.z_tuple) a_nil)) (a_cons (e_tup (a_cons (e_str [99, 111, 100, 101]) (a_cons (e_callTy c_tuple (e_var 5) T.z_tuple) a_nil))) a_nil)))))))) (ss_one (s_ret e_bl)) ss_nil)
    (ss_one (s_ret (e_and (e_call (ok__law_same 8 T) (hr.mono (by first | decide | omega | (simp only [Nat.add_eq]; omega))) T.g__law_same T.F__law_same.kp T.B__law_same (a_cons (e_call (ok_ordered_code T) (hr.mono (by first | decide | omega | (simp only [Nat.add_eq]; omega))) T.g_ordered_code T.F_ordered_code.kp T.B_ordered_code (a_cons (e_callTy c_tuple (e_var 7) T.z_tuple) a_nil)) (a_cons (e_call (ok__law_told T) (hr.mono (by first | decide | omega | (simp only [Nat.add_eq]; omega))) T.g__law_told T.F__law_told.kp T.B__law_told (a_cons (e_callTy c_tuple (e_var 7) T.z_tuple) a_nil)) a_nil))) (e_one (e_call (ok__law_same 8 T) (hr.mono (by first | decide | omega | (simp only [Nat.add_eq]; omega))) T.g__law_same T.F__law_same.kp T.B__law_same (a_cons (e_call (ok_ordered_code T) (hr.mono (by first | decide | omega | (simp only [Nat.add_eq]; omega))) T.g_ordered_code T.F_ordered_code.kp T.B_ordered_code (a_cons (e_tup a_nil) a_nil)) (a_cons (e_tup (a_cons (e_str [99, 111, 100, 101]) (a_cons (e_tup a_nil) a_nil))) a_nil))))))))))))))), ?_⟩)
  subst e
  refine ⟨_, rfl, a, ns, rfl, hS, hl, fun b q H' sm hb hq' inv => ⟨(b, q), H, _, _, _, law_st (bx := tapeBx b q) sm (fun x hx => ?_) inv (by decide), vc_law, ⟨fun _ _ _ _ h => h.elim, fun _ _ _ _ h => h.elim, fun _ _ _ _ h => h.elim, fun r v G2 H2 e g2 fr2 rr => ?_⟩⟩⟩
  · have hx : x = b ∨ x = q := by simpa [tapeBx] using hx
    rcases hx with rfl | rfl
    · exact hb
    · exact hq'
  · have e : r = .val (.bl true) := e
    subst e
    cases rr
    exact hq H2
end
end L2.W3.K35
open PySem PySem.W PyProof.Rows
set_option maxHeartbeats 0 in
theorem PySem.Challenge.cw_tworeadings_k35_whole_lengths_in_order_holds : PySem.Challenge.rw_tworeadings_k35_whole_lengths_in_order.Holds := by
  w_on; o_law; k_head; (case hw => w_witness2)
  k_fill
  refine L2.walk_of (l := PySem.Challenge.rw_tworeadings_k35_whole_lengths_in_order) (n := 63) (k := 10) (x := "script") (CX := fun _ => L2.CX0) (sp := fun w => L2.W3.spLaw _) rfl (by decide) rfl ⟨rfl, by decide, by decide⟩ (fun w h Y => PySem.W.kIn_of Y) ?F (fun _ _ a ns hl _ hS => ⟨a, ns, rfl, hS, hl, fun _ => rfl⟩) (fun _ _ _ _ _ h => h)
  case F =>
    intro w mg fa h KX G hmg
    obtain ⟨a_power, fd_power, F_power, g_power⟩ : ∃ f fd, L2.Fun _ "power" "power" L2.W3.K35.s_power f fd ∧ mg "power" = some (.ref f) := by
      refine' L2.W3.fact_mk KX G ?a ?l ?c ?k
      (case a => k_is); (case l => k_is); (case c => k_is); (case k => k_is)
    obtain ⟨a_written, fd_written, F_written, g_written⟩ : ∃ f fd, L2.Fun _ "written" "written" L2.W3.K35.s_written f fd ∧ mg "written" = some (.ref f) := by
      refine' L2.W3.fact_mk KX G ?a ?l ?c ?k
      (case a => k_is); (case l => k_is); (case c => k_is); (case k => k_is)
    obtain ⟨a_ordered_code, fd_ordered_code, F_ordered_code, g_ordered_code⟩ : ∃ f fd, L2.Fun _ "ordered_code" "ordered_code" L2.W3.K35.s_ordered_code f fd ∧ mg "ordered_code" = some (.ref f) := by
      refine' L2.W3.fact_mk KX G ?a ?l ?c ?k
      (case a => k_is); (case l => k_is); (case c => k_is); (case k => k_is)
    obtain ⟨a__law_mix, fd__law_mix, F__law_mix, g__law_mix⟩ : ∃ f fd, L2.Fun _ "_law_mix" "_law_mix" L2.W3.K35.s__law_mix f fd ∧ mg "_law_mix" = some (.ref f) := by
      refine' L2.W3.fact_mk KX G ?a ?l ?c ?k
      (case a => k_is); (case l => k_is); (case c => k_is); (case k => k_is)
    obtain ⟨a__law_tape, fd__law_tape, F__law_tape, g__law_tape⟩ : ∃ f fd, L2.Fun _ "_law_tape" "_law_tape" L2.W3.K35.s__law_tape f fd ∧ mg "_law_tape" = some (.ref f) := by
      refine' L2.W3.fact_mk KX G ?a ?l ?c ?k
      (case a => k_is); (case l => k_is); (case c => k_is); (case k => k_is)
    obtain ⟨a__law_take, fd__law_take, F__law_take, g__law_take⟩ : ∃ f fd, L2.Fun _ "_law_take" "_law_take" L2.W3.K35.s__law_take f fd ∧ mg "_law_take" = some (.ref f) := by
      refine' L2.W3.fact_mk KX G ?a ?l ?c ?k
      (case a => k_is); (case l => k_is); (case c => k_is); (case k => k_is)
    obtain ⟨a__law_same, fd__law_same, F__law_same, g__law_same⟩ : ∃ f fd, L2.Fun _ "_law_same" "_law_same" L2.W3.K35.s__law_same f fd ∧ mg "_law_same" = some (.ref f) := by
      refine' L2.W3.fact_mk KX G ?a ?l ?c ?k
      (case a => k_is); (case l => k_is); (case c => k_is); (case k => k_is)
    obtain ⟨a__law_binary, fd__law_binary, F__law_binary, g__law_binary⟩ : ∃ f fd, L2.Fun _ "_law_binary" "_law_binary" L2.W3.K35.s__law_binary f fd ∧ mg "_law_binary" = some (.ref f) := by
      refine' L2.W3.fact_mk KX G ?a ?l ?c ?k
      (case a => k_is); (case l => k_is); (case c => k_is); (case k => k_is)
    obtain ⟨a__law_next, fd__law_next, F__law_next, g__law_next⟩ : ∃ f fd, L2.Fun _ "_law_next" "_law_next" L2.W3.K35.s__law_next f fd ∧ mg "_law_next" = some (.ref f) := by
      refine' L2.W3.fact_mk KX G ?a ?l ?c ?k
      (case a => k_is); (case l => k_is); (case c => k_is); (case k => k_is)
    obtain ⟨a__law_told, fd__law_told, F__law_told, g__law_told⟩ : ∃ f fd, L2.Fun _ "_law_told" "_law_told" L2.W3.K35.s__law_told f fd ∧ mg "_law_told" = some (.ref f) := by
      refine' L2.W3.fact_mk KX G ?a ?l ?c ?k
      (case a => k_is); (case l => k_is); (case c => k_is); (case k => k_is)
    obtain ⟨a__law_any, fd__law_any, F__law_any, g__law_any⟩ : ∃ f fd, L2.Fun _ "_law_any" "_law_any" L2.W3.K35.s__law_any f fd ∧ mg "_law_any" = some (.ref f) := by
      refine' L2.W3.fact_mk KX G ?a ?l ?c ?k
      (case a => k_is); (case l => k_is); (case c => k_is); (case k => k_is)
    obtain ⟨a_law, fd_law, F_law, g_law⟩ : ∃ f fd, L2.Fun _ "law" "law" L2.W3.K35.s_law f fd ∧ mg "law" = some (.ref f) := by
      refine' L2.W3.fact_mk KX G ?a ?l ?c ?k
      (case a => k_is); (case l => k_is); (case c => k_is); (case k => k_is)
    have z_all : mg "all" = none := by
      refine' PySem.W.mg_none_of KX G ?z
      (case z => k_is)
    have z_any : mg "any" = none := by
      refine' PySem.W.mg_none_of KX G ?z
      (case z => k_is)
    have z_bool : mg "bool" = none := by
      refine' PySem.W.mg_none_of KX G ?z
      (case z => k_is)
    have z_enumerate : mg "enumerate" = none := by
      refine' PySem.W.mg_none_of KX G ?z
      (case z => k_is)
    have z_int : mg "int" = none := by
      refine' PySem.W.mg_none_of KX G ?z
      (case z => k_is)
    have z_isinstance : mg "isinstance" = none := by
      refine' PySem.W.mg_none_of KX G ?z
      (case z => k_is)
    have z_len : mg "len" = none := by
      refine' PySem.W.mg_none_of KX G ?z
      (case z => k_is)
    have z_list : mg "list" = none := by
      refine' PySem.W.mg_none_of KX G ?z
      (case z => k_is)
    have z_max : mg "max" = none := by
      refine' PySem.W.mg_none_of KX G ?z
      (case z => k_is)
    have z_min : mg "min" = none := by
      refine' PySem.W.mg_none_of KX G ?z
      (case z => k_is)
    have z_range : mg "range" = none := by
      refine' PySem.W.mg_none_of KX G ?z
      (case z => k_is)
    have z_str : mg "str" = none := by
      refine' PySem.W.mg_none_of KX G ?z
      (case z => k_is)
    have z_tuple : mg "tuple" = none := by
      refine' PySem.W.mg_none_of KX G ?z
      (case z => k_is)
    have c_LETTERS := PySem.W.mg_of KX G (n := "LETTERS") (by k_is)
    obtain rfl : a_law = fa := by
      have e := hmg.symm.trans g_law
      cases e
      rfl
    let T : L2.W3.K35.Tx _ mg := ⟨a_power, fd_power, F_power, g_power, F_power.binds fun _ _ _ _ _ _ us hl => match us, hl with | [_, _], _ => rfl,
      a_written, fd_written, F_written, g_written, F_written.binds fun _ _ _ _ _ _ us hl => match us, hl with | [_, _, _], _ => rfl,
      a_ordered_code, fd_ordered_code, F_ordered_code, g_ordered_code, F_ordered_code.binds fun _ _ _ _ _ _ us hl => match us, hl with | [_], _ => rfl,
      a__law_mix, fd__law_mix, F__law_mix, g__law_mix, F__law_mix.binds fun _ _ _ _ _ _ us hl => match us, hl with | [_], _ => rfl,
      a__law_tape, fd__law_tape, F__law_tape, g__law_tape, F__law_tape.binds fun _ _ _ _ _ _ us hl => match us, hl with | [_], _ => rfl,
      a__law_take, fd__law_take, F__law_take, g__law_take, F__law_take.binds fun _ _ _ _ _ _ us hl => match us, hl with | [_, _], _ => rfl,
      a__law_same, fd__law_same, F__law_same, g__law_same, F__law_same.binds fun _ _ _ _ _ _ us hl => match us, hl with | [_, _], _ => rfl,
      a__law_binary, fd__law_binary, F__law_binary, g__law_binary, F__law_binary.binds fun _ _ _ _ _ _ us hl => match us, hl with | [_, _], _ => rfl,
      a__law_next, fd__law_next, F__law_next, g__law_next, F__law_next.binds fun _ _ _ _ _ _ us hl => match us, hl with | [_, _], _ => rfl,
      a__law_told, fd__law_told, F__law_told, g__law_told, F__law_told.binds fun _ _ _ _ _ _ us hl => match us, hl with | [_], _ => rfl,
      a__law_any, fd__law_any, F__law_any, g__law_any, F__law_any.binds fun _ _ _ _ _ _ us hl => match us, hl with | [_, _], _ => rfl,
      a_law, fd_law, F_law, g_law, F_law.binds fun _ _ _ _ _ _ us hl => match us, hl with | [_], _ => rfl,
      z_all,
      z_any,
      z_bool,
      z_enumerate,
      z_int,
      z_isinstance,
      z_len,
      z_list,
      z_max,
      z_min,
      z_range,
      z_str,
      z_tuple,
      ⟨_, c_LETTERS⟩⟩
    exact ⟨fd_law, (by obtain ⟨oc, od, kV, doc, pm, an, cdv, ct, osl, rfl, lk, hcd⟩ := F_law.ex; exact fun s v => .of_eq rfl), fun base _ _ => L2.W3.K35.ok_law T⟩
